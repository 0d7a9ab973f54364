/- Engines:what a put comes to. -/
import Derived.Test.YtcfaphojdacmbaaGreatRCEngG
set_option linter.unusedVariables false
set_option linter.unusedSimpArgs false
namespace Go.Proofs.YtcfaphojdacmbaaGreatR.B
open Go Go.Proofs.YtcfaphojdacmbaaGreatR.Bv
theorem Xgn{α K:Type}{lt:K→K→Bool}(o:XpK lt){key:α→K}:∀{w v:List α},Asc lt key v→Asc lt key w→(∀x∈v,x∈w)→v.length≤w.length
 | [],v,_,_,h=>by
   cases v with
   | nil=>simp
   | cons a v=>have:=h a (by simp);cases this
 | b::w,[],_,_,_=>by simp
 | b::w,a::v,hv,hw,h=>by
   obtain⟨v1,v2⟩:=List.pairwise_cons.1 hv
   obtain⟨w1,w2⟩:=List.pairwise_cons.1 hw
   have key_ne:∀x∈v,lt (key a) (key x)=true:=v1
   rcases List.mem_cons.1 (h a (by simp)) with e | ha
   · subst e
     have:=Xgn o v2 w2 fun x hx=>by
      rcases List.mem_cons.1 (h x (by simp[hx])) with e | h2
      · have:=v1 x hx;rw[e,o.irr]at this;cases this
      · exact h2
     simp;omega
   · have:=Xgn o hv w2 fun x hx=>by
      rcases List.mem_cons.1 (h x hx) with e | h2
      · subst e
        rcases List.mem_cons.1 hx with e2 | h3
        · subst e2;exact ha
        · have p1:=v1 x h3
          have p2:=w1 a ha
          have:=o.tr _ _ _ p1 p2
          rw[o.irr]at this;cases this
      · exact h2
     simp at this ⊢;omega
theorem XhE{A C q:List Pt}{f:Int}(hA:XcI A)(hC:XcI C)(hq:XcI q)(h:∀y∈q,f≤y.1∧y.1<1099511627777):
 X2H (X1o (X2H A C) f 1099511627777) q=X1o (X2H A (X2H C q)) f 1099511627777:=by
 have hCq:=X4g (b:=q) hC
 refine Xc2 Xf1 (X4g (X6m (X4g hA) _ _)) (X6m (X4g hA) _ _) fun x=>?_
 rw[X1Q hq,X3x,X3x,X1Q hC,X1Q hCq,X1Q hq]
 constructor
 · rintro (h1 | ⟨⟨h1 | ⟨h1,h2⟩,h3⟩,h4⟩)
   · exact⟨.inl (.inl h1),h x h1⟩
   · exact⟨.inl (.inr ⟨h1,h4⟩),h3⟩
   · refine⟨.inr ⟨h1,fun y hy=>?_⟩,h3⟩
     rcases(X1Q hq).1 hy with hy | ⟨hy,_⟩
     · exact h4 y hy
     · exact h2 y hy
 · rintro⟨(h1 | ⟨h1,h2⟩) | ⟨h1,h2⟩,h3⟩
   · exact .inl h1
   · exact .inr ⟨⟨.inl h1,h3⟩,h2⟩
   · refine .inr ⟨⟨.inr ⟨h1,fun y hy e=>?_⟩,h3⟩,fun y hy=>h2 y ((X1Q hq).2 (.inl hy))⟩
     by_cases hz:∀z∈q,z.1≠y.1
     · exact h2 y ((X1Q hq).2 (.inr ⟨hy,hz⟩)) e
     · simp only[ne_eq,Classical.not_forall,Classical.not_not]at hz
       obtain⟨z,hz1,hz2⟩:=hz
       exact h2 z ((X1Q hq).2 (.inl hz1)) (hz2.trans e)
theorem Xll(k j:Str)(p:List Pt):X3j [(k,p)] j=if k=j then p else []:=by rw[X2g];rfl
def eX(e:Eng)(k:Str)(p:List Pt):Eng:=(e.1,X30 e.2.1 [(k,p)],e.2.2)
theorem XkL{e:Eng}{k:Str}{p:List Pt}(hc:X8M e.2.1)(ho:okF e.2.2=true)(hp:Xaq p)(hn:p≠[])(hf:∀y∈p,e.1≤y.1):
 X30 (X0f e).1 [(k,p)]=(X0f (eX e k p)).1:=by
 have hX:X8M (X2q (X7s e.2.2)):=X7Y _ [] Xb5 (Xe8 _)
 have hS:∀x∈[((k,p):Ser)],Xaq x.2:=fun x hx=>by rw[List.mem_singleton.1 hx];exact hp
 have hSA:∀x∈[((k,p):Ser)],XcI x.2:=fun x hx=>(hS x hx).1
 have a1:Xcn [((k,p):Ser)]:=List.pairwise_singleton _ _
 have hc2:X8M (X30 e.2.1 [(k,p)]):=X4t hc hS
 have hX1:=X4t hX hc.2
 have hX2:=X4t hX hc2.2
 rw[X51 ho,X51 (e:=eX e k p) ho]
 show X30 (X0u (X30 (X2q (X7s e.2.2)) e.2.1) e.1) [(k,p)]=X0u (X30 (X2q (X7s e.2.2)) (X30 e.2.1 [(k,p)])) e.1
 have hpts:∀j,X3j (X30 (X0u (X30 (X2q (X7s e.2.2)) e.2.1) e.1) [(k,p)]) j=X1o (X3j (X30 (X2q (X7s e.2.2)) (X30 e.2.1 [(k,p)])) j) e.1 1099511627777:=fun j=>by
  rw[X4A (X1R hX1.1 _) hSA a1,(X1r hX1.1 _ j).1,X4A hX.1 (fun x hx=>(hc.2 x hx).1) hc.1,X4A hX.1 (fun x hx=>(hc2.2 x hx).1) hc2.1,X4A hc.1 hSA a1]
  refine XhE (XbR hX.2 j).1 (XbR hc.2 j).1 (XbR hS j).1 fun y hy=>?_
  rw[Xll]at hy
  split at hy
  · have:=hp.2 y hy;have:=hf y hy;omega
  · cases hy
 refine Xd9 (X4t (XcO hX1 _) hS).1 (X1R hX2.1 _) (fun j=>?_) (fun j=>by rw[hpts,(X1r hX2.1 _ j).1])
 rw[(X1r hX2.1 _ j).2,←hpts,Xdl (X1R hX1.1 _) hSA,X4A (X1R hX1.1 _) hSA a1,(X1r hX1.1 _ j).2,←(X1r hX1.1 _ j).1,Xll]
 by_cases hj:k=j
 · subst hj
   have:X5O [((k,p):Ser)] k=true:=by simp[X5O]
   rw[this,Bool.or_true,if_pos rfl]
   have h1:∃y,y∈p:=List.exists_mem_of_ne_nil p hn
   obtain⟨y,hy⟩:=h1
   have h2:=(X1Q (a:=X3j (X0u (X30 (X2q (X7s e.2.2)) e.2.1) e.1) k) hp.1).2 (.inl hy)
   cases hm:X2H (X3j (X0u (X30 (X2q (X7s e.2.2)) e.2.1) e.1) k) p with
   | nil=>rw[hm]at h2;cases h2
   | cons=>rfl
 · have:X5O [((k,p):Ser)] j=false:=by simp[X5O,hj]
   rw[this,Bool.or_false,if_neg hj,Xb1]
theorem Xmq{l:List Pt}(h:Xaq l)(h2:∀x∈l,-1099511627776≤x.2∧x.2≤1099511627776)(h3:l.length≤60):X0F l=true:=by
 unfold X0F
 rw[Bool.and_eq_true,decide_eq_true_eq]
 refine⟨h3,X9l fun j hj=>?_⟩
 have m:=X1e (d:=((0,0):Pt)) hj
 have r:=h.2 _ m
 have s:=h2 _ m
 unfold XcL fIn
 simp only[Bool.and_eq_true,Bool.or_eq_true,decide_eq_true_eq]
 refine⟨r,s,?_⟩
 by_cases e:j=0
 · exact .inl e
 · right
   have:=X4N (0,0) h.1 (i:=j - 1) (j:=j) (by omega) hj
   simpa [ltI] using this
theorem Xhd{l:List Pt}(h:X0F l=true):∀x∈l,-1099511627776≤x.2∧x.2≤1099511627776:=fun x hx=>by
 unfold X0F at h
 simp only[Bool.and_eq_true,decide_eq_true_eq,Xeu,List.all_eq_true,List.mem_range]at h
 obtain⟨i,hi,e⟩:=List.getElem_of_mem hx
 have:=h.2 i hi
 unfold XcL fIn at this
 simp only[Bool.and_eq_true,decide_eq_true_eq]at this
 rw[X0L hi,e]at this
 exact this.2.1
theorem Xhf{l:List Ser}(h:X0B l=true):∀x∈l,X9f x.1=true:=fun x hx=>by
 simp only[X0B,Bool.and_eq_true,decide_eq_true_eq,Xeu,List.all_eq_true,List.mem_range]at h
 obtain⟨i,hi,e⟩:=List.getElem_of_mem hx
 have:=h.2 i hi
 simp only[XhL,Bool.and_eq_true]at this
 rw[X0L hi,e]at this
 exact this.1
theorem Xjr{l:List Ser}(h:Xcn l)(h5:l.length≤5)(hx:∀x∈l,X9f x.1=true∧x.2≠[]∧X0F x.2=true):X0B l=true:=by
 unfold X0B
 rw[Bool.and_eq_true,decide_eq_true_eq]
 refine⟨h5,X9l fun j hj=>?_⟩
 have m:=hx _ (X1e (d:=(([],[]):Ser)) hj)
 unfold XhL
 simp only[Bool.and_eq_true,Bool.or_eq_true,decide_eq_true_eq]
 refine⟨m.1,?_,fun e=>m.2.1 (List.length_eq_zero_iff.1 e),m.2.2⟩
 by_cases e:j=0
 · exact .inl e
 · right
   exact X4N ([],[]) h (i:=j - 1) (j:=j) (by omega) hj
theorem Xn5{e:Eng}(hc:X8M e.2.1)(ho:okF e.2.2=true)(hne:∀x∈e.2.1,x.2≠[])(hf:∀x∈e.2.1,∀y∈x.2,e.1≤y.1)(hp:X0B (X0f e).1=true):X0B e.2.1=true:=by
 have hX:X8M (X2q (X7s e.2.2)):=X7Y _ [] Xb5 (Xe8 _)
 have hR:=XkX hc
 have hin:∀x∈e.2.1,∀y∈x.2,y∈X3j (X0f e).1 x.1:=fun x hx y hy=>by
  have hX1:=X4t hX hc.2
  rw[X51 ho]
  simp only
  rw[(X1r hX1.1 _ _).1,X4A hX.1 (fun x hx=>(hc.2 x hx).1) hc.1,X3x,((Xbt hc.1).1 hx).2,X1Q (hc.2 x hx).1]
  have h1:=(hc.2 x hx).2 y hy
  have h2:=hf x hx y hy
  exact⟨.inl hy,h2,by omega⟩
 have hm:∀x∈e.2.1,(x.1,X3j (X0f e).1 x.1)∈(X0f e).1:=fun x hx=>by
  obtain⟨y,hy⟩:=List.exists_mem_of_ne_nil _ (hne x hx)
  obtain⟨z,hz,e1,_⟩:=Xmf (hin x hx y hy)
  have:=((Xbt hR.1).1 hz).2
  rw[←e1,this];exact hz
 obtain⟨s1,s2,s3,s4⟩:=X3b hp
 refine Xjr hc.1 ?_ fun x hx=>⟨Xhf hp (x.1,X3j (X0f e).1 x.1) (hm x hx),hne x hx,?_⟩
 · have h1:Asc Op.bytesLess id (e.2.1.map Prod.fst):=List.pairwise_map.2 hc.1
   have h2:Asc Op.bytesLess id ((X0f e).1.map Prod.fst):=List.pairwise_map.2 hR.1
   have:=Xgn X4B h1 h2 fun k hk=>by
    obtain⟨x,hx,rfl⟩:=List.mem_map.1 hk
    exact List.mem_map.2 ⟨_,hm x hx,rfl⟩
   simp only[List.length_map]at this
   omega
 · have hq:=(s4 _ (hm x hx)).2.2
   have hr:=hc.2 x hx
   refine Xmq hr (fun y hy=>Xhd hq y (hin x hx y hy)) ?_
   have h1:=Xgn Xf1 hr.1 (hR.2 _ (hm x hx)).1 (hin x hx)
   have h2:=(Xa7 hq).2
   simp only at h1 h2
   omega
theorem XnY{e:Eng}(hc:X8M e.2.1)(h:XdO e.2.1 e=false):∀x∈e.2.1,∀y∈x.2,e.1≤y.1:=fun x hx y hy=>by
 have h1:=List.any_eq_false.1 h x hx
 unfold XhW at h1
 simp only[decide_eq_true_eq,Int.not_lt]at h1
 obtain⟨i,hi,e1⟩:=List.getElem_of_mem hy
 by_cases h0:i=0
 · subst h0
   rw[X0L hi,e1]at h1;exact h1
 · have:=X4N (0,0) (hc.2 x hx).1 (i:=0) (j:=i) (by omega) hi
   rw[X0L hi,e1]at this
   simp only[ltI,decide_eq_true_eq]at this
   omega
theorem Xje{e:Eng}{k:Str}{p:List Pt}(h:X1H e=true)(hq:X6f e)(hp:X0F p=true)(hn:p≠[])(hf:¬(p.getD 0 (0,0)).1<e.1):
 X30 (X0f e).1 [(k,p)]=(X0f (eX e k p)).1∧(X0B (X0f (eX e k p)).1=true→X9j 4 (eX e k p)):=by
 have G:=X6s h hq
 obtain⟨g1,g2,g3,g4⟩:=X6q h
 obtain⟨k1,k2,k3,k4,k5⟩:=X8K g1
 have hpR:=(Xa7 hp).1
 have hpl:∀y∈p,e.1≤y.1:=fun y hy=>by
  obtain⟨i,hi,e1⟩:=List.getElem_of_mem hy
  by_cases h0:i=0
  · subst h0
    rw[X0L hi,e1]at hf;omega
  · have:=X4N (0,0) hpR.1 (i:=0) (j:=i) (by omega) hi
    rw[X0L hi,e1]at this
    simp only[ltI,decide_eq_true_eq]at this
    omega
 refine⟨XkL G.R g2 hpR hn hpl,fun hs=>?_⟩
 have hS:∀x∈[((k,p):Ser)],Xaq x.2:=fun x hx=>by rw[List.mem_singleton.1 hx];exact hpR
 have hc2:X8M (eX e k p).2.1:=X4t G.R hS
 have hlow:=XnY G.R k5
 have hmem:∀x∈(eX e k p).2.1,x.2≠[]∧∀y∈x.2,e.1≤y.1:=fun x hx=>by
  have hx':x∈XcY e.2.1 (k,p):=hx
  rcases XcV hx' with h1 | rfl | ⟨z,hz,rfl⟩
  · exact⟨((X3b G.ca).2.2.2 x h1).2.1,hlow x h1⟩
  · exact⟨hn,hpl⟩
  · refine⟨fun e2=>?_,fun y hy=>?_⟩
    · obtain⟨y,hy⟩:=List.exists_mem_of_ne_nil p hn
      have:=(X1Q (a:=z.2) hpR.1).2 (.inl hy)
      simp only at e2
      rw[e2]at this;cases this
    · rcases(X1Q hpR.1).1 hy with h1 | ⟨h1,_⟩
      · exact hpl y h1
      · exact hlow z hz y h1
 exact⟨k1,Xn5 hc2 g2 (fun x hx=>(hmem x hx).1) (fun x hx=>(hmem x hx).2) hs,k4,g2,hs,hq.2⟩
def XaI(k:Str)(p:List Pt):Bool→List Ser→List Ser
 | put,[]=>if put then [] else [(k,p)]
 | put,x::l=>(if put=false∧Op.bytesLess k x.1=true then [(k,p)] else [])++((if x.1=k then(x.1,X2H x.2 p) else x)::XaI k p (put||(Op.bytesLess k x.1||decide (x.1=k))) l)
def Xac(l:List Ser)(k:Str)(p:List Pt):List Ser:=XaI k p false l
theorem XiG{k:Str}{p:List Pt}:∀{l:List Ser},(∀x∈l,x.1≠k)→XaI k p true l=l
 | [],_=>rfl
 | x::l,h=>by
   have h1:=h x (by simp)
   simp only[XaI,if_neg h1,Bool.true_or,XiG (l:=l) fun y hy=>h y (by simp[hy])]
   simp
theorem XiT{k:Str}{p:List Pt}:∀{l:List Ser},Xcn l→Xac l k p=XcY l (k,p)
 | [],_=>by simp[Xac,XaI,XcY,X5O,pos]
 | x::l,h=>by
   obtain⟨h1,h2⟩:=List.pairwise_cons.1 h
   have ih:=XiT (k:=k) (p:=p) h2
   have ha:Xcn (x::l):=h
   by_cases hx:Op.bytesLess k x.1=true
   · have hne:∀y∈x::l,y.1≠k:=fun y hy e=>by
      rcases List.mem_cons.1 hy with rfl | hy
      · rw[e,X4B.irr]at hx;cases hx
      · have:=X4B.tr _ _ _ hx (h1 y hy);rw[e,X4B.irr]at this;cases this
     have hk:X5O (x::l) k=false:=by
      rw[Bool.eq_false_iff];intro hh
      obtain⟨z,hz,e⟩:=X5c.1 hh
      exact hne z hz e
     have hxk:Op.bytesLess x.1 k=false:=by
      rw[Bool.eq_false_iff];intro hh
      have:=X4B.tr _ _ _ hh hx;rw[X4B.irr]at this;cases this
     have e1:pos Op.bytesLess Prod.fst k (x::l)=0:=by simp[pos,List.takeWhile_cons,hxk]
     have hid:XaI k p true l=l:=XiG fun y hy=>hne y (List.mem_cons_of_mem _ hy)
     unfold XcY
     simp only
     rw[if_neg (by rw[hk];decide),e1]
     simp only[Xac,XaI,hx,Bool.true_or,Bool.or_true,if_neg (hne x (by simp)),hid]
     simp
   · have hx':Op.bytesLess k x.1=false:=by simpa using hx
     by_cases he:x.1=k
     · subst he
       have hk:X5O (x::l) x.1=true:=by simp[X5O]
       have e1:pos Op.bytesLess Prod.fst x.1 (x::l)=0:=by simp[pos,List.takeWhile_cons,hx']
       have hne:∀y∈l,y.1≠x.1:=fun y hy e=>by have:=h1 y hy;rw[e,X4B.irr]at this;cases this
       unfold XcY
       simp only
       rw[if_pos hk,e1]
       simp only[Xac,XaI,hx',decide_true,Bool.or_true,XiG hne]
       simp
     · have hxk:Op.bytesLess x.1 k=true:=by
        rcases X4B.tri x.1 k with h3 | h3 | h3
        · exact h3
        · exact absurd h3 he
        · rw[hx']at h3;cases h3
       have e0:Xac (x::l) k p=x::Xac l k p:=by
        simp only[Xac,XaI,hx',if_neg he,decide_eq_false he]
        simp
       have e1:pos Op.bytesLess Prod.fst k (x::l)=pos Op.bytesLess Prod.fst k l+1:=by simp[pos,List.takeWhile_cons,hxk]
       have e2:X5O (x::l) k=X5O l k:=by rw[X66];simp[he]
       rw[e0,ih]
       unfold XcY
       simp only
       rw[e2,e1]
       split<;>simp
def XfS(e:Eng)(k:Str)(p:List Pt):Eng×Int:=
 if X1H e=true then
  if X9f k=true∧X0F p=true∧p≠[] then
   if (p.getD 0 (0,0)).1<e.1 then(e,2)
   else if X0B (X0f (eX e k p)).1=true then(if 40<Xal (eX e k p).2.1 then fFl (eX e k p) else eX e k p,0)
   else(e,3)
  else(e,1)
 else(XpT,1)
def Xpf(l:List Ser)(k:Str)(p:List Pt):Prop:=tot l≤100000000∧p.length≤100000000
structure itI (l:List Ser) (k:Str) (p:List Pt) (out:List Ser) (put:Bool) (i:Int):Prop where
 h1:0≤i
 h2:i≤l.length
 h3:out++XaI k p put (l.drop i.toNat)=Xac l k p
 h4:(out.length:Int)≤2*i
def itM(l:List Ser)(k:Str)(p:List Pt)(out:List Ser)(put:Bool)(i:Int):Nat:=(l.length - i).toNat
theorem XoJ{l:List Ser}{k:Str}{p:List Pt}{out o':List Ser}{put put':Bool}{i:Int}(h:itI l k p out put i)(hi:i<l.length)(hl:(o'.length:Int)≤2*i+2)(he:∀r,o'++XaI k p put' r=out++XaI k p put (l.getD i.toNat ([],[])::r)):itI l k p o' put' (i+1):=by
 obtain⟨h1,h2,h3,h4⟩:=h
 refine⟨by omega,by omega,?_,by omega⟩
 rw[tn1 h1,he,←X4D ([],[]) (by omega)];exact h3
theorem XqT{l:List Ser}{k:Str}{p:List Pt}{out:List Ser}{put:Bool}{i:Int}(h:itI l k p out put i)(hi:¬i<l.length):(put=false→out++[(k,p)]=Xac l k p)∧(put=true→out=Xac l k p):=by
 obtain⟨h1,h2,h3,h4⟩:=h
 rw[show i.toNat=l.length by omega,List.drop_length]at h3
 refine⟨fun e=>?_,fun e=>?_⟩
 · subst e;simpa [XaI] using h3
 · subst e;simpa [XaI] using h3
end Go.Proofs.YtcfaphojdacmbaaGreatR.B
