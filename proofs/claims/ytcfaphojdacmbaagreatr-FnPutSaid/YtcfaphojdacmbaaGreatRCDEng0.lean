/- Right engines stay right. -/
import Derived.Test.YtcfaphojdacmbaaGreatRCEngU
set_option linter.unusedVariables false
set_option linter.unusedSimpArgs false
namespace Go.Proofs.YtcfaphojdacmbaaGreatR.B
open Go Go.Proofs.YtcfaphojdacmbaaGreatR.Bv
theorem XgT{e:Eng}(G:X9G 4 e)(hc:X9F e.2.1≤40)(hl:∀x∈e.2.1,∀y∈x.2,e.1≤y.1):X1Q e=true∧X8M e:=by
 have hcont:XeP e.2.1 e=false:=by
  unfold XeP
  rw[List.any_eq_false]
  intro x hx
  have hne:=((X16 G.ca).2.2.2 x hx).2.1
  have hm:x.2.getD 0 (0,0)∈x.2:=X0Y (List.length_pos_iff.2 hne)
  have:=hl x hx _ hm
  unfold Xih
  simp only[decide_eq_true_eq];omega
 have hh:X82 e=true:=by
  have g1:=G.fl
  unfold X82
  rw[hcont,G.ca,decide_eq_true hc,decide_eq_true G.le]
  simp only[XiV,fIn,Bool.and_eq_true,decide_eq_true_eq,Bool.not_false,Bool.and_true,Bool.true_and]
  omega
 refine⟨?_,Xan G.ca,G.st⟩
 unfold X1Q X2A
 rw[if_pos hh,if_pos (by rw[XdQ];exact G.ok)]
 exact G.pl
theorem XdG{e:Eng}(G:X9G 4 e)(h:e.2.1=[]):X1Q e=true∧X8M e:=XgT G (by rw[h];decide) (by rw[h];simp)
theorem ok_fl{e:Eng}(h:X1Q e=true)(hp:X8M e):(X1Q (fFl e)=true∧X8M (fFl e))∧(fFl e).2.1=[]∧X0c (fFl e)=X0c e:=by
 obtain⟨a,b,c⟩:=XiK (X7M h hp)
 exact⟨XdG a b,b,c⟩
theorem Xra{e:Eng}(h:X1Q e=true)(hp:X8M e)(hc:e.2.1=[]):(X1Q (X83 e)=true∧X8M (X83 e))∧(X83 e).2.1=[]∧X0c (X83 e)=X0c e:=by
 obtain⟨a,b,c⟩:=XjX ((X7M h hp).mono (by omega)) hc
 exact⟨XdG a b,b,c⟩
theorem Xpk{p:List Pt}(hpR:XaI p){f:Int}(hf:¬(p.getD 0 (0,0)).1<f):∀y∈p,f≤y.1:=fun y hy=>by
 obtain⟨i,hi,e1⟩:=List.getElem_of_mem hy
 by_cases h0:i=0
 · subst h0
   rw[X0R hi,e1]at hf;omega
 · have:=X51 (0,0) hpR.1 (i:=0) (j:=i) (by omega) hi
   rw[X0R hi,e1]at this
   simp only[ltI,decide_eq_true_eq]at this
   omega
theorem Xqw{e:Eng}{k:Str}{p:List Pt}(h:X1Q e=true)(hq:X8M e)(hp:X0u p=true)(hf:¬(p.getD 0 (0,0)).1<e.1):∀x∈(eX e k p).2.1,∀y∈x.2,e.1≤y.1:=by
 have G:=X7M h hq
 obtain⟨g1,g2,g3,g4⟩:=X2g h
 obtain⟨k1,k2,k3,k4,k5⟩:=X6B g1
 have hpR:=(X6H hp).1
 have hpl:=Xpk hpR hf
 have hlow:=XoR G.R k5
 intro x hx
 have hx':x∈Xdu e.2.1 (k,p):=hx
 rcases Xdm hx' with h1 | rfl | ⟨z,hz,rfl⟩
 · exact hlow x h1
 · exact hpl
 · intro y hy
   rcases(X21 hpR.1).1 hy with h1 | ⟨h1,_⟩
   · exact hpl y h1
   · exact hlow z hz y h1
theorem XoP{e:Eng}(h:X1Q e=true)(hq:X8M e)(k:Str)(p:List Pt):
 (X1Q (X7I e k p).1=true∧X8M (X7I e k p).1)∧(X7I e k p).1.1=e.1∧
 ((X7I e k p).2=0→(X81 k=true∧X0u p=true∧p≠[])∧¬(p.getD 0 (0,0)).1<e.1∧(X0c (X7I e k p).1).1=X2N (X0c e).1 [(k,p)])∧
 ((X7I e k p).2≠0→(X7I e k p).1=e):=by
 unfold X7I
 rw[if_pos h]
 split
 · rename_i h1
   split
   · exact⟨⟨h,hq⟩,rfl,fun c=>absurd (show(_:Int)=0 from c) (by simp),fun _=>rfl⟩
   · rename_i h2
     obtain⟨a,b⟩:=Xgb (k:=k) h hq h1.2.1 h1.2.2 h2
     split
     · rename_i h3
       have G:=b h3
       refine⟨?_,?_,fun _=>⟨h1,h2,?_⟩,fun c=>absurd rfl c⟩
       · simp only
         split
         · obtain⟨a1,a2,a3⟩:=XiK G;exact XdG a1 a2
         · exact XgT G (by omega) (Xqw h hq h1.2.1 h2)
       · simp only
         split
         · unfold fFl Xdo X83;split<;>split<;>rfl
         · rfl
       · simp only
         rw[a]
         split
         · rw[(XiK G).2.2]
         · rfl
     · exact⟨⟨h,hq⟩,rfl,fun c=>absurd (show(_:Int)=0 from c) (by simp),fun _=>rfl⟩
 · exact⟨⟨h,hq⟩,rfl,fun c=>absurd (show(_:Int)=0 from c) (by simp),fun _=>rfl⟩
theorem Xhu{l:List Ser}(h:X0y l=true)(f:Int):X0y (X0v l f)=true:=by
 obtain⟨hR,_,h5,hx⟩:=X16 h
 refine XjE (X1Z hR.1 f) (Nat.le_trans (List.length_filter_le ..) (by rw[List.length_map];exact h5)) fun x hm=>?_
 obtain⟨y,hy,rfl⟩:=Xai hm
 have hne:=(List.mem_filter.1 hm).2
 obtain⟨a1,a2,a3⟩:=hx y hy
 refine⟨XhC h y hy,fun e=>(by simp only at e;rw[e]at hne;cases hne),?_⟩
 refine XlK (Xme (hR.2 y hy) _ _) (fun z hz=>Xh5 a3 z (X3E.1 hz).1) ?_
 have:=XbL y.2 f 1099511627777
 have:=X4V a3
 simp only;omega
theorem XhI(x:Ser)(l:List Ser):X9F (x::l)=(x.2.length:Int)+X9F l:=X4C ..
theorem XfZ:∀(l:List Ser) (f:Int),X9F (X0v l f)≤X9F l
 | [],f=>by simp[X0v,X9F,cL]
 | x::l,f=>by
   have h1:=XfZ l f
   have h2:=XbL x.2 f 1099511627777
   have e0:X0v (x::l) f=if (X13 x.2 f 1099511627777).isEmpty then X0v l f else(x.1,X13 x.2 f 1099511627777)::X0v l f:=by
    unfold X0v
    rw[List.map_cons,List.filter_cons]
    cases (X13 x.2 f 1099511627777).isEmpty<;>rfl
   rw[e0,XhI]
   split
   · omega
   · rw[XhI];simp only;omega
theorem Xhp{A C:List Pt}{t f:Int}(hA:Xde A)(hC:Xde C)(hf:f≤t):
 X13 (X2o A (X13 C t 1099511627777)) t 1099511627777=X13 (X13 (X2o A C) f 1099511627777) t 1099511627777:=by
 have hs:=X6y hC t 1099511627777
 refine Xco XfQ (X6y (X4q hA) _ _) (X6y (X6y (X4q hA) _ _) _ _) fun x=>?_
 rw[X3E,X3E,X3E,X21 hs,X21 hC,X3E]
 constructor
 · rintro⟨⟨h1,_⟩ | ⟨h1,h2⟩,h3⟩
   · exact⟨⟨.inl h1,by omega,h3.2⟩,h3⟩
   · refine⟨⟨.inr ⟨h1,fun y hy e=>?_⟩,by omega,h3.2⟩,h3⟩
     exact h2 y (X3E.2 ⟨hy,by omega,by omega⟩) e
 · rintro⟨⟨h1 | ⟨h1,h2⟩,_⟩,h3⟩
   · exact⟨.inl ⟨h1,h3⟩,h3⟩
   · exact⟨.inr ⟨h1,fun y hy=>h2 y (X3E.1 hy).1⟩,h3⟩
theorem XiF{e:Eng}(hc:X8T e.2.1)(ho:okF e.2.2=true){t:Int}(ht:e.1≤t):(X0c (t,(X0v e.2.1 t,e.2.2))).1=X0v (X0c e).1 t:=by
 rw[X5d ho,X5d (e:=(t,(X0v e.2.1 t,e.2.2))) ho]
 simp only
 have hX:X8T (X2e (X7b e.2.2)):=X7l _ [] XaG (XbG _)
 have h1:=X4r hX hc.2
 have h2:=X4r hX (Xdp hc t).2
 have hpts:∀k,X2L (X0v (X2N (X2e (X7b e.2.2)) (X0v e.2.1 t)) t) k=X2L (X0v (X0v (X2N (X2e (X7b e.2.2)) e.2.1) e.1) t) k:=fun k=>by
  rw [(X1o h2.1 t k).1,(X1o (X1Z h1.1 _) t k).1,(X1o h1.1 _ k).1,X3V hX.1 (fun x hx=>((Xdp hc t).2 x hx).1) (X1Z hc.1 t),(X1o hc.1 t k).1,
   X3V hX.1 (fun x hx=>(hc.2 x hx).1) hc.1]
  exact Xhp (Xb6 hX.2 k).1 (Xb6 hc.2 k).1 ht
 have hhas:∀k,X5H (X0v (X2N (X2e (X7b e.2.2)) (X0v e.2.1 t)) t) k=X5H (X0v (X0v (X2N (X2e (X7b e.2.2)) e.2.1) e.1) t) k:=fun k=>by
  rw[(X1o h2.1 t k).2,(X1o (X1Z h1.1 _) t k).2,←(X1o h2.1 t k).1,hpts,(X1o (X1Z h1.1 _) t k).1]
 exact Xeh (X1Z h2.1 t) (X1Z (X1Z h1.1 _) t) hhas hpts
def flr(e:Eng)(t:Int):Int:=if e.1<t∧t≤1099511627776 then t else e.1
theorem Xni{e:Eng}(h:X1Q e=true)(hq:X8M e)(t:Int):
 (X1Q (X6D e t)=true∧X8M (X6D e t))∧(X6D e t).1=flr e t∧(X0c (X6D e t)).1=X0v (X0c e).1 (flr e t):=by
 have G:=X7M h hq
 obtain⟨g1,g2,g3,g4⟩:=X2g h
 obtain⟨k1,k2,k3,k4,k5⟩:=X6B g1
 unfold X6D flr
 split
 · rename_i ht
   have hp:=XiF G.R g2 (t:=t) (by omega)
   refine⟨?_,rfl,hp⟩
   refine XgT ⟨⟨by simp only;omega,ht.2⟩,Xhu k2 t,k4,g2,by rw[hp];exact Xhu g4 t,hq.2⟩ (Int.le_trans (XfZ _ _) k3) fun x hx y hy=>?_
   obtain⟨z,hz,rfl⟩:=Xai hx
   exact(X3E.1 hy).2.1
 · refine⟨⟨h,hq⟩,rfl,?_⟩
   rw[X5d g2]
   exact(XbO (X4r (X7l _ [] XaG (XbG _)) G.R.2) _).symm
end Go.Proofs.YtcfaphojdacmbaaGreatR.B
