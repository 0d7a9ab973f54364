/- Engines:what a put comes to. -/
import Derived.Test.YtcfaphojdacmbaaGreatRCEngG
set_option linter.unusedVariables false
set_option linter.unusedSimpArgs false
namespace Go.Proofs.YtcfaphojdacmbaaGreatR.B
open Go Go.Proofs.YtcfaphojdacmbaaGreatR.Bv
theorem Xh9{α K:Type}{lt:K→K→Bool}(o:Xqr lt){key:α→K}:∀{w v:List α},Asc lt key v→Asc lt key w→(∀x∈v,x∈w)→v.length≤w.length
 | [],v,_,_,h=>by
   cases v with
   | nil=>simp
   | cons a v=>have:=h a (by simp);cases this
 | b::w,[],_,_,_=>by simp
 | b::w,a::v,hv,hw,h=>by
   obtain⟨v1,v2⟩:=List.pairwise_cons.1 hv
   obtain⟨w1,w2⟩:=List.pairwise_cons.1 hw
   have key_ne:∀x∈v,lt (key a) (key x)=true:=v1
   rcases List.mem_cons.1 (h a (by simp)) with e | ha
   · subst e
     have:=Xh9 o v2 w2 fun x hx=>by
      rcases List.mem_cons.1 (h x (by simp[hx])) with e | h2
      · have:=v1 x hx;rw[e,o.irr]at this;cases this
      · exact h2
     simp;omega
   · have:=Xh9 o hv w2 fun x hx=>by
      rcases List.mem_cons.1 (h x hx) with e | h2
      · subst e
        rcases List.mem_cons.1 hx with e2 | h3
        · subst e2;exact ha
        · have p1:=v1 x h3
          have p2:=w1 a ha
          have:=o.tr _ _ _ p1 p2
          rw[o.irr]at this;cases this
      · exact h2
     simp at this ⊢;omega
theorem XhH{A C q:List Pt}{f:Int}(hA:Xdq A)(hC:Xdq C)(hq:Xdq q)(h:∀y∈q,f≤y.1∧y.1<1099511627777):
 X2i (X0Z (X2i A C) f 1099511627777) q=X0Z (X2i A (X2i C q)) f 1099511627777:=by
 have hCq:=X4A (b:=q) hC
 refine Xci Xgc (X4A (X6P (X4A hA) _ _)) (X6P (X4A hA) _ _) fun x=>?_
 rw[X1Y hq,X3K,X3K,X1Y hC,X1Y hCq,X1Y hq]
 constructor
 · rintro (h1 | ⟨⟨h1 | ⟨h1,h2⟩,h3⟩,h4⟩)
   · exact⟨.inl (.inl h1),h x h1⟩
   · exact⟨.inl (.inr ⟨h1,h4⟩),h3⟩
   · refine⟨.inr ⟨h1,fun y hy=>?_⟩,h3⟩
     rcases(X1Y hq).1 hy with hy | ⟨hy,_⟩
     · exact h4 y hy
     · exact h2 y hy
 · rintro⟨(h1 | ⟨h1,h2⟩) | ⟨h1,h2⟩,h3⟩
   · exact .inl h1
   · exact .inr ⟨⟨.inl h1,h3⟩,h2⟩
   · refine .inr ⟨⟨.inr ⟨h1,fun y hy e=>?_⟩,h3⟩,fun y hy=>h2 y ((X1Y hq).2 (.inl hy))⟩
     by_cases hz:∀z∈q,z.1≠y.1
     · exact h2 y ((X1Y hq).2 (.inr ⟨hy,hz⟩)) e
     · simp only[ne_eq,Classical.not_forall,Classical.not_not]at hz
       obtain⟨z,hz1,hz2⟩:=hz
       exact h2 z ((X1Y hq).2 (.inl hz1)) (hz2.trans e)
theorem XiQ(k j:Str)(p:List Pt):X2Q [(k,p)] j=if k=j then p else []:=by rw[X2p];rfl
def eX(e:Eng)(k:Str)(p:List Pt):Eng:=(e.1,X2S e.2.1 [(k,p)],e.2.2)
theorem Xn7{e:Eng}{k:Str}{p:List Pt}(hc:X9p e.2.1)(ho:okF e.2.2=true)(hp:XaT p)(hn:p≠[])(hf:∀y∈p,e.1≤y.1):
 X2S (X0c e).1 [(k,p)]=(X0c (eX e k p)).1:=by
 have hX:X9p (X2B (X87 e.2.2)):=X7K _ [] Xbb (XcP _)
 have hS:∀x∈[((k,p):Ser)],XaT x.2:=fun x hx=>by rw[List.mem_singleton.1 hx];exact hp
 have hSA:∀x∈[((k,p):Ser)],Xdq x.2:=fun x hx=>(hS x hx).1
 have a1:XcB [((k,p):Ser)]:=List.pairwise_singleton _ _
 have hc2:X9p (X2S e.2.1 [(k,p)]):=X4C hc hS
 have hX1:=X4C hX hc.2
 have hX2:=X4C hX hc2.2
 rw[X4N ho,X4N (e:=eX e k p) ho]
 show X2S (X0u (X2S (X2B (X87 e.2.2)) e.2.1) e.1) [(k,p)]=X0u (X2S (X2B (X87 e.2.2)) (X2S e.2.1 [(k,p)])) e.1
 have hpts:∀j,X2Q (X2S (X0u (X2S (X2B (X87 e.2.2)) e.2.1) e.1) [(k,p)]) j=X0Z (X2Q (X2S (X2B (X87 e.2.2)) (X2S e.2.1 [(k,p)])) j) e.1 1099511627777:=fun j=>by
  rw[X4u (X23 hX1.1 _) hSA a1,(X1d hX1.1 _ j).1,X4u hX.1 (fun x hx=>(hc.2 x hx).1) hc.1,X4u hX.1 (fun x hx=>(hc2.2 x hx).1) hc2.1,X4u hc.1 hSA a1]
  refine XhH (Xb9 hX.2 j).1 (Xb9 hc.2 j).1 (Xb9 hS j).1 fun y hy=>?_
  rw[XiQ]at hy
  split at hy
  · have:=hp.2 y hy;have:=hf y hy;omega
  · cases hy
 refine Xet (X4C (Xdv hX1 _) hS).1 (X23 hX2.1 _) (fun j=>?_) (fun j=>by rw[hpts,(X1d hX2.1 _ j).1])
 rw[(X1d hX2.1 _ j).2,←hpts,Xeb (X23 hX1.1 _) hSA,X4u (X23 hX1.1 _) hSA a1,(X1d hX1.1 _ j).2,←(X1d hX1.1 _ j).1,XiQ]
 by_cases hj:k=j
 · subst hj
   have:X5M [((k,p):Ser)] k=true:=by simp[X5M]
   rw[this,Bool.or_true,if_pos rfl]
   have h1:∃y,y∈p:=List.exists_mem_of_ne_nil p hn
   obtain⟨y,hy⟩:=h1
   have h2:=(X1Y (a:=X2Q (X0u (X2S (X2B (X87 e.2.2)) e.2.1) e.1) k) hp.1).2 (.inl hy)
   cases hm:X2i (X2Q (X0u (X2S (X2B (X87 e.2.2)) e.2.1) e.1) k) p with
   | nil=>rw[hm]at h2;cases h2
   | cons=>rfl
 · have:X5M [((k,p):Ser)] j=false:=by simp[X5M,hj]
   rw[this,Bool.or_false,if_neg hj,XbB]
theorem XmB{l:List Pt}(h:XaT l)(h2:∀x∈l,-1099511627776≤x.2∧x.2≤1099511627776)(h3:l.length≤60):X0s l=true:=by
 unfold X0s
 rw[Bool.and_eq_true,decide_eq_true_eq]
 refine⟨h3,Xaj fun j hj=>?_⟩
 have m:=X14 (d:=((0,0):Pt)) hj
 have r:=h.2 _ m
 have s:=h2 _ m
 unfold Xdi fIn
 simp only[Bool.and_eq_true,Bool.or_eq_true,decide_eq_true_eq]
 refine⟨r,s,?_⟩
 by_cases e:j=0
 · exact .inl e
 · right
   have:=X5g (0,0) h.1 (i:=j - 1) (j:=j) (by omega) hj
   simpa [ltI] using this
theorem XhT{l:List Pt}(h:X0s l=true):∀x∈l,-1099511627776≤x.2∧x.2≤1099511627776:=fun x hx=>by
 unfold X0s at h
 simp only[Bool.and_eq_true,decide_eq_true_eq,Xfa,List.all_eq_true,List.mem_range]at h
 obtain⟨i,hi,e⟩:=List.getElem_of_mem hx
 have:=h.2 i hi
 unfold Xdi fIn at this
 simp only[Bool.and_eq_true,decide_eq_true_eq]at this
 rw[X0R hi,e]at this
 exact this.2.1
theorem XhB{l:List Ser}(h:X0y l=true):∀x∈l,X8b x.1=true:=fun x hx=>by
 simp only[X0y,Bool.and_eq_true,decide_eq_true_eq,Xfa,List.all_eq_true,List.mem_range]at h
 obtain⟨i,hi,e⟩:=List.getElem_of_mem hx
 have:=h.2 i hi
 simp only[Xi5,Bool.and_eq_true]at this
 rw[X0R hi,e]at this
 exact this.1
theorem Xkl{l:List Ser}(h:XcB l)(h5:l.length≤5)(hx:∀x∈l,X8b x.1=true∧x.2≠[]∧X0s x.2=true):X0y l=true:=by
 unfold X0y
 rw[Bool.and_eq_true,decide_eq_true_eq]
 refine⟨h5,Xaj fun j hj=>?_⟩
 have m:=hx _ (X14 (d:=(([],[]):Ser)) hj)
 unfold Xi5
 simp only[Bool.and_eq_true,Bool.or_eq_true,decide_eq_true_eq]
 refine⟨m.1,?_,fun e=>m.2.1 (List.length_eq_zero_iff.1 e),m.2.2⟩
 by_cases e:j=0
 · exact .inl e
 · right
   exact X5g ([],[]) h (i:=j - 1) (j:=j) (by omega) hj
theorem Xoq{e:Eng}(hc:X9p e.2.1)(ho:okF e.2.2=true)(hne:∀x∈e.2.1,x.2≠[])(hf:∀x∈e.2.1,∀y∈x.2,e.1≤y.1)(hp:X0y (X0c e).1=true):X0y e.2.1=true:=by
 have hX:X9p (X2B (X87 e.2.2)):=X7K _ [] Xbb (XcP _)
 have hR:=Xna hc
 have hin:∀x∈e.2.1,∀y∈x.2,y∈X2Q (X0c e).1 x.1:=fun x hx y hy=>by
  have hX1:=X4C hX hc.2
  rw[X4N ho]
  simp only
  rw[(X1d hX1.1 _ _).1,X4u hX.1 (fun x hx=>(hc.2 x hx).1) hc.1,X3K,((X9l hc.1).1 hx).2,X1Y (hc.2 x hx).1]
  have h1:=(hc.2 x hx).2 y hy
  have h2:=hf x hx y hy
  exact⟨.inl hy,h2,by omega⟩
 have hm:∀x∈e.2.1,(x.1,X2Q (X0c e).1 x.1)∈(X0c e).1:=fun x hx=>by
  obtain⟨y,hy⟩:=List.exists_mem_of_ne_nil _ (hne x hx)
  obtain⟨z,hz,e1,_⟩:=Xm1 (hin x hx y hy)
  have:=((X9l hR.1).1 hz).2
  rw[←e1,this];exact hz
 obtain⟨s1,s2,s3,s4⟩:=X1I hp
 refine Xkl hc.1 ?_ fun x hx=>⟨XhB hp (x.1,X2Q (X0c e).1 x.1) (hm x hx),hne x hx,?_⟩
 · have h1:Asc Op.bytesLess id (e.2.1.map Prod.fst):=List.pairwise_map.2 hc.1
   have h2:Asc Op.bytesLess id ((X0c e).1.map Prod.fst):=List.pairwise_map.2 hR.1
   have:=Xh9 X4M h1 h2 fun k hk=>by
    obtain⟨x,hx,rfl⟩:=List.mem_map.1 hk
    exact List.mem_map.2 ⟨_,hm x hx,rfl⟩
   simp only[List.length_map]at this
   omega
 · have hq:=(s4 _ (hm x hx)).2.2
   have hr:=hc.2 x hx
   refine XmB hr (fun y hy=>XhT hq y (hin x hx y hy)) ?_
   have h1:=Xh9 Xgc hr.1 (hR.2 _ (hm x hx)).1 (hin x hx)
   have h2:=(X6p hq).2
   simp only at h1 h2
   omega
theorem Xpa{e:Eng}(hc:X9p e.2.1)(h:XdQ e.2.1 e=false):∀x∈e.2.1,∀y∈x.2,e.1≤y.1:=fun x hx y hy=>by
 have h1:=List.any_eq_false.1 h x hx
 unfold XiC at h1
 simp only[decide_eq_true_eq,Int.not_lt]at h1
 obtain⟨i,hi,e1⟩:=List.getElem_of_mem hy
 by_cases h0:i=0
 · subst h0
   rw[X0R hi,e1]at h1;exact h1
 · have:=X5g (0,0) (hc.2 x hx).1 (i:=0) (j:=i) (by omega) hi
   rw[X0R hi,e1]at this
   simp only[ltI,decide_eq_true_eq]at this
   omega
theorem Xh6{e:Eng}{k:Str}{p:List Pt}(h:X13 e=true)(hq:X5P e)(hp:X0s p=true)(hn:p≠[])(hf:¬(p.getD 0 (0,0)).1<e.1):
 X2S (X0c e).1 [(k,p)]=(X0c (eX e k p)).1∧(X0y (X0c (eX e k p)).1=true→X9X 4 (eX e k p)):=by
 have G:=X6n h hq
 obtain⟨g1,g2,g3,g4⟩:=X30 h
 obtain⟨k1,k2,k3,k4,k5⟩:=X9c g1
 have hpR:=(X6p hp).1
 have hpl:∀y∈p,e.1≤y.1:=fun y hy=>by
  obtain⟨i,hi,e1⟩:=List.getElem_of_mem hy
  by_cases h0:i=0
  · subst h0
    rw[X0R hi,e1]at hf;omega
  · have:=X5g (0,0) hpR.1 (i:=0) (j:=i) (by omega) hi
    rw[X0R hi,e1]at this
    simp only[ltI,decide_eq_true_eq]at this
    omega
 refine⟨Xn7 G.R g2 hpR hn hpl,fun hs=>?_⟩
 have hS:∀x∈[((k,p):Ser)],XaT x.2:=fun x hx=>by rw[List.mem_singleton.1 hx];exact hpR
 have hc2:X9p (eX e k p).2.1:=X4C G.R hS
 have hlow:=Xpa G.R k5
 have hmem:∀x∈(eX e k p).2.1,x.2≠[]∧∀y∈x.2,e.1≤y.1:=fun x hx=>by
  have hx':x∈Xdu e.2.1 (k,p):=hx
  rcases XdD hx' with h1 | rfl | ⟨z,hz,rfl⟩
  · exact⟨((X1I G.ca).2.2.2 x h1).2.1,hlow x h1⟩
  · exact⟨hn,hpl⟩
  · refine⟨fun e2=>?_,fun y hy=>?_⟩
    · obtain⟨y,hy⟩:=List.exists_mem_of_ne_nil p hn
      have:=(X1Y (a:=z.2) hpR.1).2 (.inl hy)
      simp only at e2
      rw[e2]at this;cases this
    · rcases(X1Y hpR.1).1 hy with h1 | ⟨h1,_⟩
      · exact hpl y h1
      · exact hlow z hz y h1
 exact⟨k1,Xoq hc2 g2 (fun x hx=>(hmem x hx).1) (fun x hx=>(hmem x hx).2) hs,k4,g2,hs,hq.2⟩
def Xb8(k:Str)(p:List Pt):Bool→List Ser→List Ser
 | put,[]=>if put then [] else [(k,p)]
 | put,x::l=>(if put=false∧Op.bytesLess k x.1=true then [(k,p)] else [])++((if x.1=k then(x.1,X2i x.2 p) else x)::Xb8 k p (put||(Op.bytesLess k x.1||decide (x.1=k))) l)
def XaU(l:List Ser)(k:Str)(p:List Pt):List Ser:=Xb8 k p false l
theorem Xjg{k:Str}{p:List Pt}:∀{l:List Ser},(∀x∈l,x.1≠k)→Xb8 k p true l=l
 | [],_=>rfl
 | x::l,h=>by
   have h1:=h x (by simp)
   simp only[Xb8,if_neg h1,Bool.true_or,Xjg (l:=l) fun y hy=>h y (by simp[hy])]
   simp
theorem Xk2{k:Str}{p:List Pt}:∀{l:List Ser},XcB l→XaU l k p=Xdu l (k,p)
 | [],_=>by simp[XaU,Xb8,Xdu,X5M,pos]
 | x::l,h=>by
   obtain⟨h1,h2⟩:=List.pairwise_cons.1 h
   have ih:=Xk2 (k:=k) (p:=p) h2
   have ha:XcB (x::l):=h
   by_cases hx:Op.bytesLess k x.1=true
   · have hne:∀y∈x::l,y.1≠k:=fun y hy e=>by
      rcases List.mem_cons.1 hy with rfl | hy
      · rw[e,X4M.irr]at hx;cases hx
      · have:=X4M.tr _ _ _ hx (h1 y hy);rw[e,X4M.irr]at this;cases this
     have hk:X5M (x::l) k=false:=by
      rw[Bool.eq_false_iff];intro hh
      obtain⟨z,hz,e⟩:=X5i.1 hh
      exact hne z hz e
     have hxk:Op.bytesLess x.1 k=false:=by
      rw[Bool.eq_false_iff];intro hh
      have:=X4M.tr _ _ _ hh hx;rw[X4M.irr]at this;cases this
     have e1:pos Op.bytesLess Prod.fst k (x::l)=0:=by simp[pos,List.takeWhile_cons,hxk]
     have hid:Xb8 k p true l=l:=Xjg fun y hy=>hne y (List.mem_cons_of_mem _ hy)
     unfold Xdu
     simp only
     rw[if_neg (by rw[hk];decide),e1]
     simp only[XaU,Xb8,hx,Bool.true_or,Bool.or_true,if_neg (hne x (by simp)),hid]
     simp
   · have hx':Op.bytesLess k x.1=false:=by simpa using hx
     by_cases he:x.1=k
     · subst he
       have hk:X5M (x::l) x.1=true:=by simp[X5M]
       have e1:pos Op.bytesLess Prod.fst x.1 (x::l)=0:=by simp[pos,List.takeWhile_cons,hx']
       have hne:∀y∈l,y.1≠x.1:=fun y hy e=>by have:=h1 y hy;rw[e,X4M.irr]at this;cases this
       unfold Xdu
       simp only
       rw[if_pos hk,e1]
       simp only[XaU,Xb8,hx',decide_true,Bool.or_true,Xjg hne]
       simp
     · have hxk:Op.bytesLess x.1 k=true:=by
        rcases X4M.tri x.1 k with h3 | h3 | h3
        · exact h3
        · exact absurd h3 he
        · rw[hx']at h3;cases h3
       have e0:XaU (x::l) k p=x::XaU l k p:=by
        simp only[XaU,Xb8,hx',if_neg he,decide_eq_false he]
        simp
       have e1:pos Op.bytesLess Prod.fst k (x::l)=pos Op.bytesLess Prod.fst k l+1:=by simp[pos,List.takeWhile_cons,hxk]
       have e2:X5M (x::l) k=X5M l k:=by rw[X6h];simp[he]
       rw[e0,ih]
       unfold Xdu
       simp only
       rw[e2,e1]
       split<;>simp
def X7J(e:Eng)(k:Str)(p:List Pt):Eng×Int:=
 if X13 e=true then
  if X8b k=true∧X0s p=true∧p≠[] then
   if (p.getD 0 (0,0)).1<e.1 then(e,2)
   else if X0y (X0c (eX e k p)).1=true then(if 40<X9Y (eX e k p).2.1 then fFl (eX e k p) else eX e k p,0)
   else(e,3)
  else(e,1)
 else(eng0,1)
def XpR(l:List Ser)(k:Str)(p:List Pt):Prop:=tot l≤100000000∧p.length≤100000000
structure itI (l:List Ser) (k:Str) (p:List Pt) (out:List Ser) (put:Bool) (i:Int):Prop where
 h1:0≤i
 h2:i≤l.length
 h3:out++Xb8 k p put (l.drop i.toNat)=XaU l k p
 h4:(out.length:Int)≤2*i
def itM(l:List Ser)(k:Str)(p:List Pt)(out:List Ser)(put:Bool)(i:Int):Nat:=(l.length - i).toNat
theorem Xqj{l:List Ser}{k:Str}{p:List Pt}{out o':List Ser}{put put':Bool}{i:Int}(h:itI l k p out put i)(hi:i<l.length)(hl:(o'.length:Int)≤2*i+2)(he:∀r,o'++Xb8 k p put' r=out++Xb8 k p put (l.getD i.toNat ([],[])::r)):itI l k p o' put' (i+1):=by
 obtain⟨h1,h2,h3,h4⟩:=h
 refine⟨by omega,by omega,?_,by omega⟩
 rw[tn1 h1,he,←X4Q ([],[]) (by omega)];exact h3
theorem XrO{l:List Ser}{k:Str}{p:List Pt}{out:List Ser}{put:Bool}{i:Int}(h:itI l k p out put i)(hi:¬i<l.length):(put=false→out++[(k,p)]=XaU l k p)∧(put=true→out=XaU l k p):=by
 obtain⟨h1,h2,h3,h4⟩:=h
 rw[show i.toNat=l.length by omega,List.drop_length]at h3
 refine⟨fun e=>?_,fun e=>?_⟩
 · subst e;simpa [Xb8] using h3
 · subst e;simpa [Xb8] using h3
end Go.Proofs.YtcfaphojdacmbaaGreatR.B
