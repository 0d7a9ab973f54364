/- Right engines stay right. -/
import Derived.Test.YtcfaphojdacmbaaGreatRCEngU
set_option linter.unusedVariables false
set_option linter.unusedSimpArgs false
namespace Go.Proofs.YtcfaphojdacmbaaGreatR.B
open Go Go.Proofs.YtcfaphojdacmbaaGreatR.Bv
theorem Xgq{e:Eng}(G:X9X 4 e)(hc:X9Y e.2.1≤40)(hl:∀x∈e.2.1,∀y∈x.2,e.1≤y.1):X13 e=true∧X5P e:=by
 have hcont:XdQ e.2.1 e=false:=by
  unfold XdQ
  rw[List.any_eq_false]
  intro x hx
  have hne:=((X1I G.ca).2.2.2 x hx).2.1
  have hm:x.2.getD 0 (0,0)∈x.2:=X14 (List.length_pos_iff.2 hne)
  have:=hl x hx _ hm
  unfold XiC
  simp only[decide_eq_true_eq];omega
 have hh:X8e e=true:=by
  have g1:=G.fl
  unfold X8e
  rw[hcont,G.ca,decide_eq_true hc,decide_eq_true G.le]
  simp only[Xj5,fIn,Bool.and_eq_true,decide_eq_true_eq,Bool.not_false,Bool.and_true,Bool.true_and]
  omega
 refine⟨?_,X9t G.ca,G.st⟩
 unfold X13 X2u
 rw[if_pos hh,if_pos (by rw[Xeo];exact G.ok)]
 exact G.pl
theorem XdW{e:Eng}(G:X9X 4 e)(h:e.2.1=[]):X13 e=true∧X5P e:=Xgq G (by rw[h];decide) (by rw[h];simp)
theorem Xqg{e:Eng}(h:X13 e=true)(hp:X5P e):(X13 (fFl e)=true∧X5P (fFl e))∧(fFl e).2.1=[]∧X0c (fFl e)=X0c e:=by
 obtain⟨a,b,c⟩:=Xf0 (X6n h hp)
 exact⟨XdW a b,b,c⟩
theorem XoU{e:Eng}(h:X13 e=true)(hp:X5P e)(hc:e.2.1=[]):(X13 (X7h e)=true∧X5P (X7h e))∧(X7h e).2.1=[]∧X0c (X7h e)=X0c e:=by
 obtain⟨a,b,c⟩:=Xk6 ((X6n h hp).mono (by omega)) hc
 exact⟨XdW a b,b,c⟩
theorem XpB{p:List Pt}(hpR:XaT p){f:Int}(hf:¬(p.getD 0 (0,0)).1<f):∀y∈p,f≤y.1:=fun y hy=>by
 obtain⟨i,hi,e1⟩:=List.getElem_of_mem hy
 by_cases h0:i=0
 · subst h0
   rw[X0R hi,e1]at hf;omega
 · have:=X5g (0,0) hpR.1 (i:=0) (j:=i) (by omega) hi
   rw[X0R hi,e1]at this
   simp only[ltI,decide_eq_true_eq]at this
   omega
theorem Xs3{e:Eng}{k:Str}{p:List Pt}(h:X13 e=true)(hq:X5P e)(hp:X0s p=true)(hf:¬(p.getD 0 (0,0)).1<e.1):∀x∈(eX e k p).2.1,∀y∈x.2,e.1≤y.1:=by
 have G:=X6n h hq
 obtain⟨g1,g2,g3,g4⟩:=X30 h
 obtain⟨k1,k2,k3,k4,k5⟩:=X9c g1
 have hpR:=(X6p hp).1
 have hpl:=XpB hpR hf
 have hlow:=Xpa G.R k5
 intro x hx
 have hx':x∈Xdu e.2.1 (k,p):=hx
 rcases XdD hx' with h1 | rfl | ⟨z,hz,rfl⟩
 · exact hlow x h1
 · exact hpl
 · intro y hy
   rcases(X1Y hpR.1).1 hy with h1 | ⟨h1,_⟩
   · exact hpl y h1
   · exact hlow z hz y h1
theorem XhR{e:Eng}(h:X13 e=true)(hq:X5P e)(k:Str)(p:List Pt):
 (X13 (X7J e k p).1=true∧X5P (X7J e k p).1)∧(X7J e k p).1.1=e.1∧
 ((X7J e k p).2=0→(X8b k=true∧X0s p=true∧p≠[])∧¬(p.getD 0 (0,0)).1<e.1∧(X0c (X7J e k p).1).1=X2S (X0c e).1 [(k,p)])∧
 ((X7J e k p).2≠0→(X7J e k p).1=e):=by
 unfold X7J
 rw[if_pos h]
 split
 · rename_i h1
   split
   · exact⟨⟨h,hq⟩,rfl,fun c=>absurd (show(_:Int)=0 from c) (by simp),fun _=>rfl⟩
   · rename_i h2
     obtain⟨a,b⟩:=Xh6 (k:=k) h hq h1.2.1 h1.2.2 h2
     split
     · rename_i h3
       have G:=b h3
       refine⟨?_,?_,fun _=>⟨h1,h2,?_⟩,fun c=>absurd rfl c⟩
       · simp only
         split
         · obtain⟨a1,a2,a3⟩:=Xf0 G;exact XdW a1 a2
         · exact Xgq G (by omega) (Xs3 h hq h1.2.1 h2)
       · simp only
         split
         · unfold fFl Xdf X7h;split<;>split<;>rfl
         · rfl
       · simp only
         rw[a]
         split
         · rw[(Xf0 G).2.2]
         · rfl
     · exact⟨⟨h,hq⟩,rfl,fun c=>absurd (show(_:Int)=0 from c) (by simp),fun _=>rfl⟩
 · exact⟨⟨h,hq⟩,rfl,fun c=>absurd (show(_:Int)=0 from c) (by simp),fun _=>rfl⟩
theorem XhK{l:List Ser}(h:X0y l=true)(f:Int):X0y (X0u l f)=true:=by
 obtain⟨hR,_,h5,hx⟩:=X1I h
 refine Xkl (X23 hR.1 f) (Nat.le_trans (List.length_filter_le ..) (by rw[List.length_map];exact h5)) fun x hm=>?_
 obtain⟨y,hy,rfl⟩:=XaA hm
 have hne:=(List.mem_filter.1 hm).2
 obtain⟨a1,a2,a3⟩:=hx y hy
 refine⟨XhB h y hy,fun e=>(by simp only at e;rw[e]at hne;cases hne),?_⟩
 refine XmB (Xmo (hR.2 y hy) _ _) (fun z hz=>XhT a3 z (X3K.1 hz).1) ?_
 have:=XbZ y.2 f 1099511627777
 have:=X5d a3
 simp only;omega
theorem Xhs(x:Ser)(l:List Ser):X9Y (x::l)=(x.2.length:Int)+X9Y l:=X4T ..
theorem Xgl:∀(l:List Ser) (f:Int),X9Y (X0u l f)≤X9Y l
 | [],f=>by simp[X0u,X9Y,cL]
 | x::l,f=>by
   have h1:=Xgl l f
   have h2:=XbZ x.2 f 1099511627777
   have e0:X0u (x::l) f=if (X0Z x.2 f 1099511627777).isEmpty then X0u l f else(x.1,X0Z x.2 f 1099511627777)::X0u l f:=by
    unfold X0u
    rw[List.map_cons,List.filter_cons]
    cases (X0Z x.2 f 1099511627777).isEmpty<;>rfl
   rw[e0,Xhs]
   split
   · omega
   · rw[Xhs];simp only;omega
theorem Xik{A C:List Pt}{t f:Int}(hA:Xdq A)(hC:Xdq C)(hf:f≤t):
 X0Z (X2i A (X0Z C t 1099511627777)) t 1099511627777=X0Z (X0Z (X2i A C) f 1099511627777) t 1099511627777:=by
 have hs:=X6P hC t 1099511627777
 refine Xci Xgc (X6P (X4A hA) _ _) (X6P (X6P (X4A hA) _ _) _ _) fun x=>?_
 rw[X3K,X3K,X3K,X1Y hs,X1Y hC,X3K]
 constructor
 · rintro⟨⟨h1,_⟩ | ⟨h1,h2⟩,h3⟩
   · exact⟨⟨.inl h1,by omega,h3.2⟩,h3⟩
   · refine⟨⟨.inr ⟨h1,fun y hy e=>?_⟩,by omega,h3.2⟩,h3⟩
     exact h2 y (X3K.2 ⟨hy,by omega,by omega⟩) e
 · rintro⟨⟨h1 | ⟨h1,h2⟩,_⟩,h3⟩
   · exact⟨.inl ⟨h1,h3⟩,h3⟩
   · exact⟨.inr ⟨h1,fun y hy=>h2 y (X3K.1 hy).1⟩,h3⟩
theorem XiL{e:Eng}(hc:X9p e.2.1)(ho:okF e.2.2=true){t:Int}(ht:e.1≤t):(X0c (t,(X0u e.2.1 t,e.2.2))).1=X0u (X0c e).1 t:=by
 rw[X4N ho,X4N (e:=(t,(X0u e.2.1 t,e.2.2))) ho]
 simp only
 have hX:X9p (X2B (X87 e.2.2)):=X7K _ [] Xbb (XcP _)
 have h1:=X4C hX hc.2
 have h2:=X4C hX (Xdv hc t).2
 have hpts:∀k,X2Q (X0u (X2S (X2B (X87 e.2.2)) (X0u e.2.1 t)) t) k=X2Q (X0u (X0u (X2S (X2B (X87 e.2.2)) e.2.1) e.1) t) k:=fun k=>by
  rw [(X1d h2.1 t k).1,(X1d (X23 h1.1 _) t k).1,(X1d h1.1 _ k).1,X4u hX.1 (fun x hx=>((Xdv hc t).2 x hx).1) (X23 hc.1 t),(X1d hc.1 t k).1,
   X4u hX.1 (fun x hx=>(hc.2 x hx).1) hc.1]
  exact Xik (Xb9 hX.2 k).1 (Xb9 hc.2 k).1 ht
 have hhas:∀k,X5M (X0u (X2S (X2B (X87 e.2.2)) (X0u e.2.1 t)) t) k=X5M (X0u (X0u (X2S (X2B (X87 e.2.2)) e.2.1) e.1) t) k:=fun k=>by
  rw[(X1d h2.1 t k).2,(X1d (X23 h1.1 _) t k).2,←(X1d h2.1 t k).1,hpts,(X1d (X23 h1.1 _) t k).1]
 exact Xet (X23 h2.1 t) (X23 (X23 h1.1 _) t) hhas hpts
def flr(e:Eng)(t:Int):Int:=if e.1<t∧t≤1099511627776 then t else e.1
theorem XjH{e:Eng}(h:X13 e=true)(hq:X5P e)(t:Int):
 (X13 (X4U e t)=true∧X5P (X4U e t))∧(X4U e t).1=flr e t∧(X0c (X4U e t)).1=X0u (X0c e).1 (flr e t):=by
 have G:=X6n h hq
 obtain⟨g1,g2,g3,g4⟩:=X30 h
 obtain⟨k1,k2,k3,k4,k5⟩:=X9c g1
 unfold X4U flr
 split
 · rename_i ht
   have hp:=XiL G.R g2 (t:=t) (by omega)
   refine⟨?_,rfl,hp⟩
   refine Xgq ⟨⟨by simp only;omega,ht.2⟩,XhK k2 t,k4,g2,by rw[hp];exact XhK g4 t,hq.2⟩ (Int.le_trans (Xgl _ _) k3) fun x hx y hy=>?_
   obtain⟨z,hz,rfl⟩:=XaA hx
   exact(X3K.1 hy).2.1
 · refine⟨⟨h,hq⟩,rfl,?_⟩
   rw[X4N g2]
   exact(X9M (X4C (X7K _ [] Xbb (XcP _)) G.R.2) _).symm
end Go.Proofs.YtcfaphojdacmbaaGreatR.B
