/- Right engines stay right. -/
import Derived.Test.YtcfaphojdacmbaaGreatRCEngU
set_option linter.unusedVariables false
set_option linter.unusedSimpArgs false
namespace Go.Proofs.YtcfaphojdacmbaaGreatR.B
open Go Go.Proofs.YtcfaphojdacmbaaGreatR.Bv
theorem Xgt{e:Eng}(G:X9j 4 e)(hc:Xal e.2.1≤40)(hl:∀x∈e.2.1,∀y∈x.2,e.1≤y.1):X1H e=true∧X6f e:=by
 have hcont:XdO e.2.1 e=false:=by
  unfold XdO
  rw[List.any_eq_false]
  intro x hx
  have hne:=((X3b G.ca).2.2.2 x hx).2.1
  have hm:x.2.getD 0 (0,0)∈x.2:=X1e (List.length_pos_iff.2 hne)
  have:=hl x hx _ hm
  unfold XhW
  simp only[decide_eq_true_eq];omega
 have hh:X7F e=true:=by
  have g1:=G.fl
  unfold X7F
  rw[hcont,G.ca,decide_eq_true hc,decide_eq_true G.le]
  simp only[XiM,fIn,Bool.and_eq_true,decide_eq_true_eq,Bool.not_false,Bool.and_true,Bool.true_and]
  omega
 refine⟨?_,X99 G.ca,G.st⟩
 unfold X1H X2w
 rw[if_pos hh,if_pos (by rw[Xe0];exact G.ok)]
 exact G.pl
theorem XdE{e:Eng}(G:X9j 4 e)(h:e.2.1=[]):X1H e=true∧X6f e:=Xgt G (by rw[h];decide) (by rw[h];simp)
theorem Xqj{e:Eng}(h:X1H e=true)(hp:X6f e):(X1H (fFl e)=true∧X6f (fFl e))∧(fFl e).2.1=[]∧X0f (fFl e)=X0f e:=by
 obtain⟨a,b,c⟩:=XdT (X6s h hp)
 exact⟨XdE a b,b,c⟩
theorem Xot{e:Eng}(h:X1H e=true)(hp:X6f e)(hc:e.2.1=[]):(X1H (X5R e)=true∧X6f (X5R e))∧(X5R e).2.1=[]∧X0f (X5R e)=X0f e:=by
 obtain⟨a,b,c⟩:=XiW ((X6s h hp).mono (by omega)) hc
 exact⟨XdE a b,b,c⟩
theorem XpE{p:List Pt}(hpR:Xaq p){f:Int}(hf:¬(p.getD 0 (0,0)).1<f):∀y∈p,f≤y.1:=fun y hy=>by
 obtain⟨i,hi,e1⟩:=List.getElem_of_mem hy
 by_cases h0:i=0
 · subst h0
   rw[X0L hi,e1]at hf;omega
 · have:=X4N (0,0) hpR.1 (i:=0) (j:=i) (by omega) hi
   rw[X0L hi,e1]at this
   simp only[ltI,decide_eq_true_eq]at this
   omega
theorem Xqd{e:Eng}{k:Str}{p:List Pt}(h:X1H e=true)(hq:X6f e)(hp:X0F p=true)(hf:¬(p.getD 0 (0,0)).1<e.1):∀x∈(eX e k p).2.1,∀y∈x.2,e.1≤y.1:=by
 have G:=X6s h hq
 obtain⟨g1,g2,g3,g4⟩:=X6q h
 obtain⟨k1,k2,k3,k4,k5⟩:=X8K g1
 have hpR:=(Xa7 hp).1
 have hpl:=XpE hpR hf
 have hlow:=XnY G.R k5
 intro x hx
 have hx':x∈XcY e.2.1 (k,p):=hx
 rcases XcV hx' with h1 | rfl | ⟨z,hz,rfl⟩
 · exact hlow x h1
 · exact hpl
 · intro y hy
   rcases(X1Q hpR.1).1 hy with h1 | ⟨h1,_⟩
   · exact hpl y h1
   · exact hlow z hz y h1
theorem XqY{e:Eng}(h:X1H e=true)(hq:X6f e)(k:Str)(p:List Pt):
 (X1H (XfS e k p).1=true∧X6f (XfS e k p).1)∧(XfS e k p).1.1=e.1∧
 ((XfS e k p).2=0→(X9f k=true∧X0F p=true∧p≠[])∧¬(p.getD 0 (0,0)).1<e.1∧(X0f (XfS e k p).1).1=X30 (X0f e).1 [(k,p)])∧
 ((XfS e k p).2≠0→(XfS e k p).1=e):=by
 unfold XfS
 rw[if_pos h]
 split
 · rename_i h1
   split
   · exact⟨⟨h,hq⟩,rfl,fun c=>absurd (show(_:Int)=0 from c) (by simp),fun _=>rfl⟩
   · rename_i h2
     obtain⟨a,b⟩:=Xje (k:=k) h hq h1.2.1 h1.2.2 h2
     split
     · rename_i h3
       have G:=b h3
       refine⟨?_,?_,fun _=>⟨h1,h2,?_⟩,fun c=>absurd rfl c⟩
       · simp only
         split
         · obtain⟨a1,a2,a3⟩:=XdT G;exact XdE a1 a2
         · exact Xgt G (by omega) (Xqd h hq h1.2.1 h2)
       · simp only
         split
         · unfold fFl Xcz X5R;split<;>split<;>rfl
         · rfl
       · simp only
         rw[a]
         split
         · rw[(XdT G).2.2]
         · rfl
     · exact⟨⟨h,hq⟩,rfl,fun c=>absurd (show(_:Int)=0 from c) (by simp),fun _=>rfl⟩
 · exact⟨⟨h,hq⟩,rfl,fun c=>absurd (show(_:Int)=0 from c) (by simp),fun _=>rfl⟩
theorem XgY{l:List Ser}(h:X0B l=true)(f:Int):X0B (X0u l f)=true:=by
 obtain⟨hR,_,h5,hx⟩:=X3b h
 refine Xjr (X1R hR.1 f) (Nat.le_trans (List.length_filter_le ..) (by rw[List.length_map];exact h5)) fun x hm=>?_
 obtain⟨y,hy,rfl⟩:=X9W hm
 have hne:=(List.mem_filter.1 hm).2
 obtain⟨a1,a2,a3⟩:=hx y hy
 refine⟨Xhf h y hy,fun e=>(by simp only at e;rw[e]at hne;cases hne),?_⟩
 refine Xmq (Xm8 (hR.2 y hy) _ _) (fun z hz=>Xhd a3 z (X3x.1 hz).1) ?_
 have:=Xbh y.2 f 1099511627777
 have:=X5B a3
 simp only;omega
theorem XgP(x:Ser)(l:List Ser):Xal (x::l)=(x.2.length:Int)+Xal l:=X4w ..
theorem Xf5:∀(l:List Ser) (f:Int),Xal (X0u l f)≤Xal l
 | [],f=>by simp[X0u,Xal,cL]
 | x::l,f=>by
   have h1:=Xf5 l f
   have h2:=Xbh x.2 f 1099511627777
   have e0:X0u (x::l) f=if (X1o x.2 f 1099511627777).isEmpty then X0u l f else(x.1,X1o x.2 f 1099511627777)::X0u l f:=by
    unfold X0u
    rw[List.map_cons,List.filter_cons]
    cases (X1o x.2 f 1099511627777).isEmpty<;>rfl
   rw[e0,XgP]
   split
   · omega
   · rw[XgP];simp only;omega
theorem XgL{A C:List Pt}{t f:Int}(hA:XcI A)(hC:XcI C)(hf:f≤t):
 X1o (X2H A (X1o C t 1099511627777)) t 1099511627777=X1o (X1o (X2H A C) f 1099511627777) t 1099511627777:=by
 have hs:=X6m hC t 1099511627777
 refine Xc2 Xf1 (X6m (X4g hA) _ _) (X6m (X6m (X4g hA) _ _) _ _) fun x=>?_
 rw[X3x,X3x,X3x,X1Q hs,X1Q hC,X3x]
 constructor
 · rintro⟨⟨h1,_⟩ | ⟨h1,h2⟩,h3⟩
   · exact⟨⟨.inl h1,by omega,h3.2⟩,h3⟩
   · refine⟨⟨.inr ⟨h1,fun y hy e=>?_⟩,by omega,h3.2⟩,h3⟩
     exact h2 y (X3x.2 ⟨hy,by omega,by omega⟩) e
 · rintro⟨⟨h1 | ⟨h1,h2⟩,_⟩,h3⟩
   · exact⟨.inl ⟨h1,h3⟩,h3⟩
   · exact⟨.inr ⟨h1,fun y hy=>h2 y (X3x.1 hy).1⟩,h3⟩
theorem XiI{e:Eng}(hc:X8M e.2.1)(ho:okF e.2.2=true){t:Int}(ht:e.1≤t):(X0f (t,(X0u e.2.1 t,e.2.2))).1=X0u (X0f e).1 t:=by
 rw[X51 ho,X51 (e:=(t,(X0u e.2.1 t,e.2.2))) ho]
 simp only
 have hX:X8M (X2q (X7s e.2.2)):=X7Y _ [] Xb5 (Xe8 _)
 have h1:=X4t hX hc.2
 have h2:=X4t hX (XcO hc t).2
 have hpts:∀k,X3j (X0u (X30 (X2q (X7s e.2.2)) (X0u e.2.1 t)) t) k=X3j (X0u (X0u (X30 (X2q (X7s e.2.2)) e.2.1) e.1) t) k:=fun k=>by
  rw [(X1r h2.1 t k).1,(X1r (X1R h1.1 _) t k).1,(X1r h1.1 _ k).1,X4A hX.1 (fun x hx=>((XcO hc t).2 x hx).1) (X1R hc.1 t),(X1r hc.1 t k).1,
   X4A hX.1 (fun x hx=>(hc.2 x hx).1) hc.1]
  exact XgL (XbR hX.2 k).1 (XbR hc.2 k).1 ht
 have hhas:∀k,X5O (X0u (X30 (X2q (X7s e.2.2)) (X0u e.2.1 t)) t) k=X5O (X0u (X0u (X30 (X2q (X7s e.2.2)) e.2.1) e.1) t) k:=fun k=>by
  rw[(X1r h2.1 t k).2,(X1r (X1R h1.1 _) t k).2,←(X1r h2.1 t k).1,hpts,(X1r (X1R h1.1 _) t k).1]
 exact Xd9 (X1R h2.1 t) (X1R (X1R h1.1 _) t) hhas hpts
def flr(e:Eng)(t:Int):Int:=if e.1<t∧t≤1099511627776 then t else e.1
theorem Xne{e:Eng}(h:X1H e=true)(hq:X6f e)(t:Int):
 (X1H (X6u e t)=true∧X6f (X6u e t))∧(X6u e t).1=flr e t∧(X0f (X6u e t)).1=X0u (X0f e).1 (flr e t):=by
 have G:=X6s h hq
 obtain⟨g1,g2,g3,g4⟩:=X6q h
 obtain⟨k1,k2,k3,k4,k5⟩:=X8K g1
 unfold X6u flr
 split
 · rename_i ht
   have hp:=XiI G.R g2 (t:=t) (by omega)
   refine⟨?_,rfl,hp⟩
   refine Xgt ⟨⟨by simp only;omega,ht.2⟩,XgY k2 t,k4,g2,by rw[hp];exact XgY g4 t,hq.2⟩ (Int.le_trans (Xf5 _ _) k3) fun x hx y hy=>?_
   obtain⟨z,hz,rfl⟩:=X9W hx
   exact(X3x.1 hy).2.1
 · refine⟨⟨h,hq⟩,rfl,?_⟩
   rw[X51 g2]
   exact(XaZ (X4t (X7Y _ [] Xb5 (Xe8 _)) G.R.2) _).symm
end Go.Proofs.YtcfaphojdacmbaaGreatR.B
