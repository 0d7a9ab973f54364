/- Right engines stay right. -/
import Derived.Test.YtcfaphojdacmbaaGreatRCEngU
set_option linter.unusedVariables false
set_option linter.unusedSimpArgs false
namespace Go.Proofs.YtcfaphojdacmbaaGreatR.B
open Go Go.Proofs.YtcfaphojdacmbaaGreatR.Bv
theorem XgE{e:Eng}(G:X9q 4 e)(hc:X9r e.2.1≤40)(hl:∀x∈e.2.1,∀y∈x.2,e.1≤y.1):X0L e=true∧X55 e:=by
 have hcont:XdU e.2.1 e=false:=by
  unfold XdU
  rw[List.any_eq_false]
  intro x hx
  have hne:=((X1t G.ca).2.2.2 x hx).2.1
  have hm:x.2.getD 0 (0,0)∈x.2:=X0S (List.length_pos_iff.2 hne)
  have:=hl x hx _ hm
  unfold Xi8
  simp only[decide_eq_true_eq];omega
 have hh:X7M e=true:=by
  have g1:=G.fl
  unfold X7M
  rw[hcont,G.ca,decide_eq_true hc,decide_eq_true G.le]
  simp only[Xiv,fIn,Bool.and_eq_true,decide_eq_true_eq,Bool.not_false,Bool.and_true,Bool.true_and]
  omega
 refine⟨?_,X92 G.ca,G.st⟩
 unfold X0L X2l
 rw[if_pos hh,if_pos (by rw[Xds];exact G.ok)]
 exact G.pl
theorem Xer{e:Eng}(G:X9q 4 e)(h:e.2.1=[]):X0L e=true∧X55 e:=XgE G (by rw[h];decide) (by rw[h];simp)
theorem XqN{e:Eng}(h:X0L e=true)(hp:X55 e):(X0L (fFl e)=true∧X55 (fFl e))∧(fFl e).2.1=[]∧X0d (fFl e)=X0d e:=by
 obtain⟨a,b,c⟩:=XgK (X6W h hp)
 exact⟨Xer a b,b,c⟩
theorem XoK{e:Eng}(h:X0L e=true)(hp:X55 e)(hc:e.2.1=[]):(X0L (X72 e)=true∧X55 (X72 e))∧(X72 e).2.1=[]∧X0d (X72 e)=X0d e:=by
 obtain⟨a,b,c⟩:=Xj3 ((X6W h hp).mono (by omega)) hc
 exact⟨Xer a b,b,c⟩
theorem Xp7{p:List Pt}(hpR:Xas p){f:Int}(hf:¬(p.getD 0 (0,0)).1<f):∀y∈p,f≤y.1:=fun y hy=>by
 obtain⟨i,hi,e1⟩:=List.getElem_of_mem hy
 by_cases h0:i=0
 · subst h0
   rw[X0P hi,e1]at hf;omega
 · have:=X4Y (0,0) hpR.1 (i:=0) (j:=i) (by omega) hi
   rw[X0P hi,e1]at this
   simp only[ltI,decide_eq_true_eq]at this
   omega
theorem XrI{e:Eng}{k:Str}{p:List Pt}(h:X0L e=true)(hq:X55 e)(hp:X0x p=true)(hf:¬(p.getD 0 (0,0)).1<e.1):∀x∈(eX e k p).2.1,∀y∈x.2,e.1≤y.1:=by
 have G:=X6W h hq
 obtain⟨g1,g2,g3,g4⟩:=X2t h
 obtain⟨k1,k2,k3,k4,k5⟩:=X4h g1
 have hpR:=(X7Z hp).1
 have hpl:=Xp7 hpR hf
 have hlow:=Xov G.R k5
 intro x hx
 have hx':x∈XcX e.2.1 (k,p):=hx
 rcases Xd6 hx' with h1 | rfl | ⟨z,hz,rfl⟩
 · exact hlow x h1
 · exact hpl
 · intro y hy
   rcases(X1W hpR.1).1 hy with h1 | ⟨h1,_⟩
   · exact hpl y h1
   · exact hlow z hz y h1
theorem Xqd{e:Eng}(h:X0L e=true)(hq:X55 e)(k:Str)(p:List Pt):
 (X0L (X7T e k p).1=true∧X55 (X7T e k p).1)∧(X7T e k p).1.1=e.1∧
 ((X7T e k p).2=0→(X7L k=true∧X0x p=true∧p≠[])∧¬(p.getD 0 (0,0)).1<e.1∧(X0d (X7T e k p).1).1=X2O (X0d e).1 [(k,p)])∧
 ((X7T e k p).2≠0→(X7T e k p).1=e):=by
 unfold X7T
 rw[if_pos h]
 split
 · rename_i h1
   split
   · exact⟨⟨h,hq⟩,rfl,fun c=>absurd (show(_:Int)=0 from c) (by simp),fun _=>rfl⟩
   · rename_i h2
     obtain⟨a,b⟩:=Xgl (k:=k) h hq h1.2.1 h1.2.2 h2
     split
     · rename_i h3
       have G:=b h3
       refine⟨?_,?_,fun _=>⟨h1,h2,?_⟩,fun c=>absurd rfl c⟩
       · simp only
         split
         · obtain⟨a1,a2,a3⟩:=XgK G;exact Xer a1 a2
         · exact XgE G (by omega) (XrI h hq h1.2.1 h2)
       · simp only
         split
         · unfold fFl Xd3 X72;split<;>split<;>rfl
         · rfl
       · simp only
         rw[a]
         split
         · rw[(XgK G).2.2]
         · rfl
     · exact⟨⟨h,hq⟩,rfl,fun c=>absurd (show(_:Int)=0 from c) (by simp),fun _=>rfl⟩
 · exact⟨⟨h,hq⟩,rfl,fun c=>absurd (show(_:Int)=0 from c) (by simp),fun _=>rfl⟩
theorem Xi1{l:List Ser}(h:X0y l=true)(f:Int):X0y (X0s l f)=true:=by
 obtain⟨hR,_,h5,hx⟩:=X1t h
 refine Xjb (X1X hR.1 f) (Nat.le_trans (List.length_filter_le ..) (by rw[List.length_map];exact h5)) fun x hm=>?_
 obtain⟨y,hy,rfl⟩:=Xae hm
 have hne:=(List.mem_filter.1 hm).2
 obtain⟨a1,a2,a3⟩:=hx y hy
 refine⟨XgW h y hy,fun e=>(by simp only at e;rw[e]at hne;cases hne),?_⟩
 refine Xml (XmG (hR.2 y hy) _ _) (fun z hz=>XgQ a3 z (X3B.1 hz).1) ?_
 have:=Xbm y.2 f 1099511627777
 have:=X5F a3
 simp only;omega
theorem XhP(x:Ser)(l:List Ser):X9r (x::l)=(x.2.length:Int)+X9r l:=X4t ..
theorem Xf9:∀(l:List Ser) (f:Int),X9r (X0s l f)≤X9r l
 | [],f=>by simp[X0s,X9r,cL]
 | x::l,f=>by
   have h1:=Xf9 l f
   have h2:=Xbm x.2 f 1099511627777
   have e0:X0s (x::l) f=if (X0Z x.2 f 1099511627777).isEmpty then X0s l f else(x.1,X0Z x.2 f 1099511627777)::X0s l f:=by
    unfold X0s
    rw[List.map_cons,List.filter_cons]
    cases (X0Z x.2 f 1099511627777).isEmpty<;>rfl
   rw[e0,XhP]
   split
   · omega
   · rw[XhP];simp only;omega
theorem XgX{A C:List Pt}{t f:Int}(hA:XcL A)(hC:XcL C)(hf:f≤t):
 X0Z (X2K A (X0Z C t 1099511627777)) t 1099511627777=X0Z (X0Z (X2K A C) f 1099511627777) t 1099511627777:=by
 have hs:=X6n hC t 1099511627777
 refine XbU Xf5 (X6n (X4i hA) _ _) (X6n (X6n (X4i hA) _ _) _ _) fun x=>?_
 rw[X3B,X3B,X3B,X1W hs,X1W hC,X3B]
 constructor
 · rintro⟨⟨h1,_⟩ | ⟨h1,h2⟩,h3⟩
   · exact⟨⟨.inl h1,by omega,h3.2⟩,h3⟩
   · refine⟨⟨.inr ⟨h1,fun y hy e=>?_⟩,by omega,h3.2⟩,h3⟩
     exact h2 y (X3B.2 ⟨hy,by omega,by omega⟩) e
 · rintro⟨⟨h1 | ⟨h1,h2⟩,_⟩,h3⟩
   · exact⟨.inl ⟨h1,h3⟩,h3⟩
   · exact⟨.inr ⟨h1,fun y hy=>h2 y (X3B.1 hy).1⟩,h3⟩
theorem Xij{e:Eng}(hc:X8T e.2.1)(ho:okF e.2.2=true){t:Int}(ht:e.1≤t):(X0d (t,(X0s e.2.1 t,e.2.2))).1=X0s (X0d e).1 t:=by
 rw[X52 ho,X52 (e:=(t,(X0s e.2.1 t,e.2.2))) ho]
 simp only
 have hX:X8T (X2s (X7F e.2.2)):=X83 _ [] Xbk (Xe4 _)
 have h1:=X4C hX hc.2
 have h2:=X4C hX (Xd5 hc t).2
 have hpts:∀k,X32 (X0s (X2O (X2s (X7F e.2.2)) (X0s e.2.1 t)) t) k=X32 (X0s (X0s (X2O (X2s (X7F e.2.2)) e.2.1) e.1) t) k:=fun k=>by
  rw [(X1m h2.1 t k).1,(X1m (X1X h1.1 _) t k).1,(X1m h1.1 _ k).1,X4A hX.1 (fun x hx=>((Xd5 hc t).2 x hx).1) (X1X hc.1 t),(X1m hc.1 t k).1,
   X4A hX.1 (fun x hx=>(hc.2 x hx).1) hc.1]
  exact XgX (XaR hX.2 k).1 (XaR hc.2 k).1 ht
 have hhas:∀k,X5E (X0s (X2O (X2s (X7F e.2.2)) (X0s e.2.1 t)) t) k=X5E (X0s (X0s (X2O (X2s (X7F e.2.2)) e.2.1) e.1) t) k:=fun k=>by
  rw[(X1m h2.1 t k).2,(X1m (X1X h1.1 _) t k).2,←(X1m h2.1 t k).1,hpts,(X1m (X1X h1.1 _) t k).1]
 exact XeB (X1X h2.1 t) (X1X (X1X h1.1 _) t) hhas hpts
def flr(e:Eng)(t:Int):Int:=if e.1<t∧t≤1099511627776 then t else e.1
theorem XjH{e:Eng}(h:X0L e=true)(hq:X55 e)(t:Int):
 (X0L (X4v e t)=true∧X55 (X4v e t))∧(X4v e t).1=flr e t∧(X0d (X4v e t)).1=X0s (X0d e).1 (flr e t):=by
 have G:=X6W h hq
 obtain⟨g1,g2,g3,g4⟩:=X2t h
 obtain⟨k1,k2,k3,k4,k5⟩:=X4h g1
 unfold X4v flr
 split
 · rename_i ht
   have hp:=Xij G.R g2 (t:=t) (by omega)
   refine⟨?_,rfl,hp⟩
   refine XgE ⟨⟨by simp only;omega,ht.2⟩,Xi1 k2 t,k4,g2,by rw[hp];exact Xi1 g4 t,hq.2⟩ (Int.le_trans (Xf9 _ _) k3) fun x hx y hy=>?_
   obtain⟨z,hz,rfl⟩:=Xae hx
   exact(X3B.1 hy).2.1
 · refine⟨⟨h,hq⟩,rfl,?_⟩
   rw[X52 g2]
   exact(Xb0 (X4C (X83 _ [] Xbk (Xe4 _)) G.R.2) _).symm
end Go.Proofs.YtcfaphojdacmbaaGreatR.B
