/- Engines:what a put comes to. -/
import Derived.Test.YtcfaphojdacmbaaGreatRCEngG
set_option linter.unusedVariables false
set_option linter.unusedSimpArgs false
namespace Go.Proofs.YtcfaphojdacmbaaGreatR.B
open Go Go.Proofs.YtcfaphojdacmbaaGreatR.Bv
theorem XfU{α K:Type}{lt:K→K→Bool}(o:Xq4 lt){key:α→K}:∀{w v:List α},Asc lt key v→Asc lt key w→(∀x∈v,x∈w)→v.length≤w.length
 | [],v,_,_,h=>by
   cases v with
   | nil=>simp
   | cons a v=>have:=h a (by simp);cases this
 | b::w,[],_,_,_=>by simp
 | b::w,a::v,hv,hw,h=>by
   obtain⟨v1,v2⟩:=List.pairwise_cons.1 hv
   obtain⟨w1,w2⟩:=List.pairwise_cons.1 hw
   have key_ne:∀x∈v,lt (key a) (key x)=true:=v1
   rcases List.mem_cons.1 (h a (by simp)) with e | ha
   · subst e
     have:=XfU o v2 w2 fun x hx=>by
      rcases List.mem_cons.1 (h x (by simp[hx])) with e | h2
      · have:=v1 x hx;rw[e,o.irr]at this;cases this
      · exact h2
     simp;omega
   · have:=XfU o hv w2 fun x hx=>by
      rcases List.mem_cons.1 (h x hx) with e | h2
      · subst e
        rcases List.mem_cons.1 hx with e2 | h3
        · subst e2;exact ha
        · have p1:=v1 x h3
          have p2:=w1 a ha
          have:=o.tr _ _ _ p1 p2
          rw[o.irr]at this;cases this
      · exact h2
     simp at this ⊢;omega
theorem XhC{A C q:List Pt}{f:Int}(hA:XcL A)(hC:XcL C)(hq:XcL q)(h:∀y∈q,f≤y.1∧y.1<1099511627777):
 X2K (X0Z (X2K A C) f 1099511627777) q=X0Z (X2K A (X2K C q)) f 1099511627777:=by
 have hCq:=X4i (b:=q) hC
 refine XbU Xf5 (X4i (X6n (X4i hA) _ _)) (X6n (X4i hA) _ _) fun x=>?_
 rw[X1W hq,X3B,X3B,X1W hC,X1W hCq,X1W hq]
 constructor
 · rintro (h1 | ⟨⟨h1 | ⟨h1,h2⟩,h3⟩,h4⟩)
   · exact⟨.inl (.inl h1),h x h1⟩
   · exact⟨.inl (.inr ⟨h1,h4⟩),h3⟩
   · refine⟨.inr ⟨h1,fun y hy=>?_⟩,h3⟩
     rcases(X1W hq).1 hy with hy | ⟨hy,_⟩
     · exact h4 y hy
     · exact h2 y hy
 · rintro⟨(h1 | ⟨h1,h2⟩) | ⟨h1,h2⟩,h3⟩
   · exact .inl h1
   · exact .inr ⟨⟨.inl h1,h3⟩,h2⟩
   · refine .inr ⟨⟨.inr ⟨h1,fun y hy e=>?_⟩,h3⟩,fun y hy=>h2 y ((X1W hq).2 (.inl hy))⟩
     by_cases hz:∀z∈q,z.1≠y.1
     · exact h2 y ((X1W hq).2 (.inr ⟨hy,hz⟩)) e
     · simp only[ne_eq,Classical.not_forall,Classical.not_not]at hz
       obtain⟨z,hz1,hz2⟩:=hz
       exact h2 z ((X1W hq).2 (.inl hz1)) (hz2.trans e)
theorem Xlm(k j:Str)(p:List Pt):X32 [(k,p)] j=if k=j then p else []:=by rw[X2i];rfl
def eX(e:Eng)(k:Str)(p:List Pt):Eng:=(e.1,X2O e.2.1 [(k,p)],e.2.2)
theorem Xll{e:Eng}{k:Str}{p:List Pt}(hc:X8T e.2.1)(ho:okF e.2.2=true)(hp:Xas p)(hn:p≠[])(hf:∀y∈p,e.1≤y.1):
 X2O (X0d e).1 [(k,p)]=(X0d (eX e k p)).1:=by
 have hX:X8T (X2s (X7F e.2.2)):=X83 _ [] Xbk (Xe4 _)
 have hS:∀x∈[((k,p):Ser)],Xas x.2:=fun x hx=>by rw[List.mem_singleton.1 hx];exact hp
 have hSA:∀x∈[((k,p):Ser)],XcL x.2:=fun x hx=>(hS x hx).1
 have a1:Xbn [((k,p):Ser)]:=List.pairwise_singleton _ _
 have hc2:X8T (X2O e.2.1 [(k,p)]):=X4C hc hS
 have hX1:=X4C hX hc.2
 have hX2:=X4C hX hc2.2
 rw[X52 ho,X52 (e:=eX e k p) ho]
 show X2O (X0s (X2O (X2s (X7F e.2.2)) e.2.1) e.1) [(k,p)]=X0s (X2O (X2s (X7F e.2.2)) (X2O e.2.1 [(k,p)])) e.1
 have hpts:∀j,X32 (X2O (X0s (X2O (X2s (X7F e.2.2)) e.2.1) e.1) [(k,p)]) j=X0Z (X32 (X2O (X2s (X7F e.2.2)) (X2O e.2.1 [(k,p)])) j) e.1 1099511627777:=fun j=>by
  rw[X4A (X1X hX1.1 _) hSA a1,(X1m hX1.1 _ j).1,X4A hX.1 (fun x hx=>(hc.2 x hx).1) hc.1,X4A hX.1 (fun x hx=>(hc2.2 x hx).1) hc2.1,X4A hc.1 hSA a1]
  refine XhC (XaR hX.2 j).1 (XaR hc.2 j).1 (XaR hS j).1 fun y hy=>?_
  rw[Xlm]at hy
  split at hy
  · have:=hp.2 y hy;have:=hf y hy;omega
  · cases hy
 refine XeB (X4C (Xd5 hX1 _) hS).1 (X1X hX2.1 _) (fun j=>?_) (fun j=>by rw[hpts,(X1m hX2.1 _ j).1])
 rw[(X1m hX2.1 _ j).2,←hpts,Xew (X1X hX1.1 _) hSA,X4A (X1X hX1.1 _) hSA a1,(X1m hX1.1 _ j).2,←(X1m hX1.1 _ j).1,Xlm]
 by_cases hj:k=j
 · subst hj
   have:X5E [((k,p):Ser)] k=true:=by simp[X5E]
   rw[this,Bool.or_true,if_pos rfl]
   have h1:∃y,y∈p:=List.exists_mem_of_ne_nil p hn
   obtain⟨y,hy⟩:=h1
   have h2:=(X1W (a:=X32 (X0s (X2O (X2s (X7F e.2.2)) e.2.1) e.1) k) hp.1).2 (.inl hy)
   cases hm:X2K (X32 (X0s (X2O (X2s (X7F e.2.2)) e.2.1) e.1) k) p with
   | nil=>rw[hm]at h2;cases h2
   | cons=>rfl
 · have:X5E [((k,p):Ser)] j=false:=by simp[X5E,hj]
   rw[this,Bool.or_false,if_neg hj,Xbq]
theorem Xml{l:List Pt}(h:Xas l)(h2:∀x∈l,-1099511627776≤x.2∧x.2≤1099511627776)(h3:l.length≤60):X0x l=true:=by
 unfold X0x
 rw[Bool.and_eq_true,decide_eq_true_eq]
 refine⟨h3,X9B fun j hj=>?_⟩
 have m:=X0S (d:=((0,0):Pt)) hj
 have r:=h.2 _ m
 have s:=h2 _ m
 unfold XcD fIn
 simp only[Bool.and_eq_true,Bool.or_eq_true,decide_eq_true_eq]
 refine⟨r,s,?_⟩
 by_cases e:j=0
 · exact .inl e
 · right
   have:=X4Y (0,0) h.1 (i:=j - 1) (j:=j) (by omega) hj
   simpa [ltI] using this
theorem XgQ{l:List Pt}(h:X0x l=true):∀x∈l,-1099511627776≤x.2∧x.2≤1099511627776:=fun x hx=>by
 unfold X0x at h
 simp only[Bool.and_eq_true,decide_eq_true_eq,Xdv,List.all_eq_true,List.mem_range]at h
 obtain⟨i,hi,e⟩:=List.getElem_of_mem hx
 have:=h.2 i hi
 unfold XcD fIn at this
 simp only[Bool.and_eq_true,decide_eq_true_eq]at this
 rw[X0P hi,e]at this
 exact this.2.1
theorem XgW{l:List Ser}(h:X0y l=true):∀x∈l,X7L x.1=true:=fun x hx=>by
 simp only[X0y,Bool.and_eq_true,decide_eq_true_eq,Xdv,List.all_eq_true,List.mem_range]at h
 obtain⟨i,hi,e⟩:=List.getElem_of_mem hx
 have:=h.2 i hi
 simp only[Xhn,Bool.and_eq_true]at this
 rw[X0P hi,e]at this
 exact this.1
theorem Xjb{l:List Ser}(h:Xbn l)(h5:l.length≤5)(hx:∀x∈l,X7L x.1=true∧x.2≠[]∧X0x x.2=true):X0y l=true:=by
 unfold X0y
 rw[Bool.and_eq_true,decide_eq_true_eq]
 refine⟨h5,X9B fun j hj=>?_⟩
 have m:=hx _ (X0S (d:=(([],[]):Ser)) hj)
 unfold Xhn
 simp only[Bool.and_eq_true,Bool.or_eq_true,decide_eq_true_eq]
 refine⟨m.1,?_,fun e=>m.2.1 (List.length_eq_zero_iff.1 e),m.2.2⟩
 by_cases e:j=0
 · exact .inl e
 · right
   exact X4Y ([],[]) h (i:=j - 1) (j:=j) (by omega) hj
theorem Xnv{e:Eng}(hc:X8T e.2.1)(ho:okF e.2.2=true)(hne:∀x∈e.2.1,x.2≠[])(hf:∀x∈e.2.1,∀y∈x.2,e.1≤y.1)(hp:X0y (X0d e).1=true):X0y e.2.1=true:=by
 have hX:X8T (X2s (X7F e.2.2)):=X83 _ [] Xbk (Xe4 _)
 have hR:=XlF hc
 have hin:∀x∈e.2.1,∀y∈x.2,y∈X32 (X0d e).1 x.1:=fun x hx y hy=>by
  have hX1:=X4C hX hc.2
  rw[X52 ho]
  simp only
  rw[(X1m hX1.1 _ _).1,X4A hX.1 (fun x hx=>(hc.2 x hx).1) hc.1,X3B,((X8N hc.1).1 hx).2,X1W (hc.2 x hx).1]
  have h1:=(hc.2 x hx).2 y hy
  have h2:=hf x hx y hy
  exact⟨.inl hy,h2,by omega⟩
 have hm:∀x∈e.2.1,(x.1,X32 (X0d e).1 x.1)∈(X0d e).1:=fun x hx=>by
  obtain⟨y,hy⟩:=List.exists_mem_of_ne_nil _ (hne x hx)
  obtain⟨z,hz,e1,_⟩:=Xmu (hin x hx y hy)
  have:=((X8N hR.1).1 hz).2
  rw[←e1,this];exact hz
 obtain⟨s1,s2,s3,s4⟩:=X1t hp
 refine Xjb hc.1 ?_ fun x hx=>⟨XgW hp (x.1,X32 (X0d e).1 x.1) (hm x hx),hne x hx,?_⟩
 · have h1:Asc Op.bytesLess id (e.2.1.map Prod.fst):=List.pairwise_map.2 hc.1
   have h2:Asc Op.bytesLess id ((X0d e).1.map Prod.fst):=List.pairwise_map.2 hR.1
   have:=XfU X4u h1 h2 fun k hk=>by
    obtain⟨x,hx,rfl⟩:=List.mem_map.1 hk
    exact List.mem_map.2 ⟨_,hm x hx,rfl⟩
   simp only[List.length_map]at this
   omega
 · have hq:=(s4 _ (hm x hx)).2.2
   have hr:=hc.2 x hx
   refine Xml hr (fun y hy=>XgQ hq y (hin x hx y hy)) ?_
   have h1:=XfU Xf5 hr.1 (hR.2 _ (hm x hx)).1 (hin x hx)
   have h2:=(X7Z hq).2
   simp only at h1 h2
   omega
theorem Xov{e:Eng}(hc:X8T e.2.1)(h:XdU e.2.1 e=false):∀x∈e.2.1,∀y∈x.2,e.1≤y.1:=fun x hx y hy=>by
 have h1:=List.any_eq_false.1 h x hx
 unfold Xi8 at h1
 simp only[decide_eq_true_eq,Int.not_lt]at h1
 obtain⟨i,hi,e1⟩:=List.getElem_of_mem hy
 by_cases h0:i=0
 · subst h0
   rw[X0P hi,e1]at h1;exact h1
 · have:=X4Y (0,0) (hc.2 x hx).1 (i:=0) (j:=i) (by omega) hi
   rw[X0P hi,e1]at this
   simp only[ltI,decide_eq_true_eq]at this
   omega
theorem Xgl{e:Eng}{k:Str}{p:List Pt}(h:X0L e=true)(hq:X55 e)(hp:X0x p=true)(hn:p≠[])(hf:¬(p.getD 0 (0,0)).1<e.1):
 X2O (X0d e).1 [(k,p)]=(X0d (eX e k p)).1∧(X0y (X0d (eX e k p)).1=true→X9q 4 (eX e k p)):=by
 have G:=X6W h hq
 obtain⟨g1,g2,g3,g4⟩:=X2t h
 obtain⟨k1,k2,k3,k4,k5⟩:=X4h g1
 have hpR:=(X7Z hp).1
 have hpl:∀y∈p,e.1≤y.1:=fun y hy=>by
  obtain⟨i,hi,e1⟩:=List.getElem_of_mem hy
  by_cases h0:i=0
  · subst h0
    rw[X0P hi,e1]at hf;omega
  · have:=X4Y (0,0) hpR.1 (i:=0) (j:=i) (by omega) hi
    rw[X0P hi,e1]at this
    simp only[ltI,decide_eq_true_eq]at this
    omega
 refine⟨Xll G.R g2 hpR hn hpl,fun hs=>?_⟩
 have hS:∀x∈[((k,p):Ser)],Xas x.2:=fun x hx=>by rw[List.mem_singleton.1 hx];exact hpR
 have hc2:X8T (eX e k p).2.1:=X4C G.R hS
 have hlow:=Xov G.R k5
 have hmem:∀x∈(eX e k p).2.1,x.2≠[]∧∀y∈x.2,e.1≤y.1:=fun x hx=>by
  have hx':x∈XcX e.2.1 (k,p):=hx
  rcases Xd6 hx' with h1 | rfl | ⟨z,hz,rfl⟩
  · exact⟨((X1t G.ca).2.2.2 x h1).2.1,hlow x h1⟩
  · exact⟨hn,hpl⟩
  · refine⟨fun e2=>?_,fun y hy=>?_⟩
    · obtain⟨y,hy⟩:=List.exists_mem_of_ne_nil p hn
      have:=(X1W (a:=z.2) hpR.1).2 (.inl hy)
      simp only at e2
      rw[e2]at this;cases this
    · rcases(X1W hpR.1).1 hy with h1 | ⟨h1,_⟩
      · exact hpl y h1
      · exact hlow z hz y h1
 exact⟨k1,Xnv hc2 g2 (fun x hx=>(hmem x hx).1) (fun x hx=>(hmem x hx).2) hs,k4,g2,hs,hq.2⟩
def XaG(k:Str)(p:List Pt):Bool→List Ser→List Ser
 | put,[]=>if put then [] else [(k,p)]
 | put,x::l=>(if put=false∧Op.bytesLess k x.1=true then [(k,p)] else [])++((if x.1=k then(x.1,X2K x.2 p) else x)::XaG k p (put||(Op.bytesLess k x.1||decide (x.1=k))) l)
def Xap(l:List Ser)(k:Str)(p:List Pt):List Ser:=XaG k p false l
theorem Xii{k:Str}{p:List Pt}:∀{l:List Ser},(∀x∈l,x.1≠k)→XaG k p true l=l
 | [],_=>rfl
 | x::l,h=>by
   have h1:=h x (by simp)
   simp only[XaG,if_neg h1,Bool.true_or,Xii (l:=l) fun y hy=>h y (by simp[hy])]
   simp
theorem Xjp{k:Str}{p:List Pt}:∀{l:List Ser},Xbn l→Xap l k p=XcX l (k,p)
 | [],_=>by simp[Xap,XaG,XcX,X5E,pos]
 | x::l,h=>by
   obtain⟨h1,h2⟩:=List.pairwise_cons.1 h
   have ih:=Xjp (k:=k) (p:=p) h2
   have ha:Xbn (x::l):=h
   by_cases hx:Op.bytesLess k x.1=true
   · have hne:∀y∈x::l,y.1≠k:=fun y hy e=>by
      rcases List.mem_cons.1 hy with rfl | hy
      · rw[e,X4u.irr]at hx;cases hx
      · have:=X4u.tr _ _ _ hx (h1 y hy);rw[e,X4u.irr]at this;cases this
     have hk:X5E (x::l) k=false:=by
      rw[Bool.eq_false_iff];intro hh
      obtain⟨z,hz,e⟩:=X5q.1 hh
      exact hne z hz e
     have hxk:Op.bytesLess x.1 k=false:=by
      rw[Bool.eq_false_iff];intro hh
      have:=X4u.tr _ _ _ hh hx;rw[X4u.irr]at this;cases this
     have e1:pos Op.bytesLess Prod.fst k (x::l)=0:=by simp[pos,List.takeWhile_cons,hxk]
     have hid:XaG k p true l=l:=Xii fun y hy=>hne y (List.mem_cons_of_mem _ hy)
     unfold XcX
     simp only
     rw[if_neg (by rw[hk];decide),e1]
     simp only[Xap,XaG,hx,Bool.true_or,Bool.or_true,if_neg (hne x (by simp)),hid]
     simp
   · have hx':Op.bytesLess k x.1=false:=by simpa using hx
     by_cases he:x.1=k
     · subst he
       have hk:X5E (x::l) x.1=true:=by simp[X5E]
       have e1:pos Op.bytesLess Prod.fst x.1 (x::l)=0:=by simp[pos,List.takeWhile_cons,hx']
       have hne:∀y∈l,y.1≠x.1:=fun y hy e=>by have:=h1 y hy;rw[e,X4u.irr]at this;cases this
       unfold XcX
       simp only
       rw[if_pos hk,e1]
       simp only[Xap,XaG,hx',decide_true,Bool.or_true,Xii hne]
       simp
     · have hxk:Op.bytesLess x.1 k=true:=by
        rcases X4u.tri x.1 k with h3 | h3 | h3
        · exact h3
        · exact absurd h3 he
        · rw[hx']at h3;cases h3
       have e0:Xap (x::l) k p=x::Xap l k p:=by
        simp only[Xap,XaG,hx',if_neg he,decide_eq_false he]
        simp
       have e1:pos Op.bytesLess Prod.fst k (x::l)=pos Op.bytesLess Prod.fst k l+1:=by simp[pos,List.takeWhile_cons,hxk]
       have e2:X5E (x::l) k=X5E l k:=by rw[X6h];simp[he]
       rw[e0,ih]
       unfold XcX
       simp only
       rw[e2,e1]
       split<;>simp
def X7T(e:Eng)(k:Str)(p:List Pt):Eng×Int:=
 if X0L e=true then
  if X7L k=true∧X0x p=true∧p≠[] then
   if (p.getD 0 (0,0)).1<e.1 then(e,2)
   else if X0y (X0d (eX e k p)).1=true then(if 40<X9r (eX e k p).2.1 then fFl (eX e k p) else eX e k p,0)
   else(e,3)
  else(e,1)
 else(eng0,1)
def XpB(l:List Ser)(k:Str)(p:List Pt):Prop:=tot l≤100000000∧p.length≤100000000
structure itI (l:List Ser) (k:Str) (p:List Pt) (out:List Ser) (put:Bool) (i:Int):Prop where
 h1:0≤i
 h2:i≤l.length
 h3:out++XaG k p put (l.drop i.toNat)=Xap l k p
 h4:(out.length:Int)≤2*i
def itM(l:List Ser)(k:Str)(p:List Pt)(out:List Ser)(put:Bool)(i:Int):Nat:=(l.length - i).toNat
theorem Xp9{l:List Ser}{k:Str}{p:List Pt}{out o':List Ser}{put put':Bool}{i:Int}(h:itI l k p out put i)(hi:i<l.length)(hl:(o'.length:Int)≤2*i+2)(he:∀r,o'++XaG k p put' r=out++XaG k p put (l.getD i.toNat ([],[])::r)):itI l k p o' put' (i+1):=by
 obtain⟨h1,h2,h3,h4⟩:=h
 refine⟨by omega,by omega,?_,by omega⟩
 rw[tn1 h1,he,←X4y ([],[]) (by omega)];exact h3
theorem Xqy{l:List Ser}{k:Str}{p:List Pt}{out:List Ser}{put:Bool}{i:Int}(h:itI l k p out put i)(hi:¬i<l.length):(put=false→out++[(k,p)]=Xap l k p)∧(put=true→out=Xap l k p):=by
 obtain⟨h1,h2,h3,h4⟩:=h
 rw[show i.toNat=l.length by omega,List.drop_length]at h3
 refine⟨fun e=>?_,fun e=>?_⟩
 · subst e;simpa [XaG] using h3
 · subst e;simpa [XaG] using h3
end Go.Proofs.YtcfaphojdacmbaaGreatR.B
