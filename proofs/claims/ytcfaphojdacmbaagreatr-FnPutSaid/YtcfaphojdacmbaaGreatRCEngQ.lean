/- Engines:asked. -/
import Derived.Test.YtcfaphojdacmbaaGreatRCEngE
set_option maxRecDepth 100000
set_option linter.unusedVariables false
set_option linter.unusedSimpArgs false
namespace Go.Proofs.YtcfaphojdacmbaaGreatR.B
open Go Go.Proofs.YtcfaphojdacmbaaGreatR.Bv
def X9P(e:Eng):List Ser:=if X1Q e=true then(X0c e).1 else []
def X5a(e:Eng)(k:Str)(a b:Int):List Pt:=if X1Q e=true then X13 (X2L (X0c e).1 k) a b else []
theorem X6B{e:Eng}(h:X82 e=true):(0≤e.1∧e.1≤1099511627776)∧X0y e.2.1=true∧X9F e.2.1≤40∧e.2.2.length≤4∧XeP e.2.1 e=false:=by
 unfold X82 XiV fIn at h
 simp only[Bool.and_eq_true,decide_eq_true_eq,Bool.not_eq_true']at h
 exact⟨h.1,h.2.1,h.2.2.1,h.2.2.2.1,h.2.2.2.2⟩
theorem X2g{e:Eng}(h:X1Q e=true):X82 e=true∧okF e.2.2=true∧X2A e=((X0c e).1,true)∧X0y (X0c e).1=true:=by
 have h0:=h
 unfold X1Q X2A at h
 split at h
 · rename_i h1
   split at h
   · rename_i h2
     refine⟨h1,by rw[←XdQ];exact h2,?_,h⟩
     unfold X2A;rw[if_pos h1,if_pos h2,show X0y (X0c e).1=true from h]
   · cases h
 · cases h
theorem Xed(e:Eng):(X2A e).2=X1Q e:=rfl
theorem Xbo{e:Eng}(h:okF e.2.2=true):Xfp e=(X7b e.2.2++[e.2.1],true):=by unfold Xfp;rw[if_pos h]
theorem XlL{e:Eng}(hc:X8T e.2.1):X8T (X0c e).1:=by
 unfold X0c;split
 · exact Xdp (X4r (X7l _ [] XaG (XbG _)) hc.2) _
 · exact XaG
theorem Xlw{e:Eng}(hc:X8T e.2.1)(ho:okF e.2.2=true)(k:Str):X2L (X0c e).1 k=X80 (X7b e.2.2++[e.2.1]) e.1 k:=by
 have hR:X8T (X2e (X7b e.2.2)):=X7l _ [] XaG (XbG _)
 unfold X0c
 rw[if_pos ho]
 rw[(X1o (X4r hR hc.2).1 _ k).1,X3V hR.1 (fun x hx=>(hc.2 x hx).1) hc.1]
 unfold X80
 rw[XnA]
 congr 2
 rw[show X2e (X7b e.2.2)=(X7b e.2.2).foldl X2N [] from rfl,Xcm _ [] XaG (XbG _)];rfl
theorem XqI{l:List Ser}(h:XbV l){k:Str}(hk:X5H l k=true):(l.getD (pos Op.bytesLess Prod.fst k l) ([],[])).2=X2L l k:=by
 obtain⟨p1,p2⟩:=Xck h hk
 have hm:=X0Y (d:=(([]:Str),([]:List Pt))) p1
 have:=((X7R h).1 hm).2
 rw[p2]at this;exact this.symm
theorem Xpg{l:List Ser}(h:X0y l=true):tot l≤305:=(X16 h).2.1
def X8D:Con:={A:=T4q,shA:=[.agg 3],R:=T9q,shR:=[(false,1)],pre:=fun _ a=>(X8M a),f:=some fun _ a=>((X9P a),((),()))}
def X40.F(a0:U3q):Prop:=((X8M (a0.1,(a0.2.1,a0.2.2)))∧∀r1,(Eq r1 ((X1Q (a0.1,(a0.2.1,a0.2.2))),((),())))→(X00 (!r1.1) (Eq (([]:(List U1q)),((),())) ((X9P a0),((),()))) ((Xna (a0.1,(a0.2.1,a0.2.2)))∧∀r2,(Eq r2 ((Xfp (a0.1,(a0.2.1,a0.2.2))),((),())))→((XmE r2.1.1 a0.1)∧∀r3,(Eq r3 ((Xkf r2.1.1 a0.1),((),())))→(Eq (r3.1,((),())) ((X9P a0),((),())))))))
theorem X40.pure(a0:U3q)(h:(X8M a0))(hw:Wf X8D.A a0):X40.F a0:=by
 unfold X40.F
 simp only[Bs,B0,B1,Prod.mk.injEq,X01,Prod.eta]
 have hp:X8M a0:=h
 refine⟨hp,fun h1=>?_,fun h1=>?_⟩
 · unfold X9P;rw[if_neg (by rw[h1];decide)]
 · obtain⟨g1,g2,g3,g4⟩:=X2g h1
   obtain⟨k1,k2,k3,k4,k5⟩:=X6B g1
   obtain⟨s1,s2,s3,s4⟩:=X16 k2
   have ht:=XbU a0
   have e2:=XnX s1 g2
   rw[Xbo g2]
   simp only
   refine⟨⟨hp.2,by omega⟩,by unfold XmE;omega,?_⟩
   unfold X9P;rw[if_pos h1];exact e2
theorem X40.eq:EqS X8D Tryz.f39 [25] [X14.e,X0J.e,X17.e] [] noL (fun i x=>X40.F x):=by intro i x;kernel_rfl
theorem X40.ok:X0l Tryz.prog 39 X8D:=X2d X40.eq Tryz.func39 rfl (by kernel_rfl) fun i x h hi hw=>X40.pure x h hw
def X40.e:GE:=⟨39,X8D,⟨_,Tryz.func39,rfl,rfl⟩,X40.ok⟩
def XcS(e:Eng)(k:Str)(a b:Int):Prop:=X8M e
def X8g:Con:={A:=(.pair T4q (.pair .str T0q)),shA:=[.agg 3,.one,.one,.one],R:=X9H,shR:=[(false,1)],fresh:=[(0,85)],pre:=fun _ a=>(XcS a.1 a.2.1 a.2.2.1 a.2.2.2),f:=some fun _ a=>((X5a a.1 a.2.1 a.2.2.1 a.2.2.2),((),()))}
def X44.F(a0:U3q)(a1:U5q)(a2:Int)(a3:Int):Prop:=((X8M (a0.1,(a0.2.1,a0.2.2)))∧∀r1,(Eq r1 ((X2A (a0.1,(a0.2.1,a0.2.2))),((),())))→(X00 (!r1.1.2) (Eq (([]:U6q),((),())) ((X5a a0 a1 a2 a3),((),()))) ((pSf r1.1.1 a1)∧∀r2,(Eq r2 ((fSf r1.1.1 a1),((),())))→(X00 (!r2.1.2) (Eq (([]:U6q),((),())) ((X5a a0 a1 a2 a3),((),()))) (0≤r2.1.1∧(r2.1.1<(ln r1.1.1)∧((X6n ((List.getD r1.1.1 (tN r2.1.1) ([],[])).2) a2 a3)∧∀r3,(Eq r3 ((X13 ((List.getD r1.1.1 (tN r2.1.1) ([],[])).2) a2 a3),((),())))→(Eq (r3.1,((),())) ((X5a a0 a1 a2 a3),((),()))))))))))
theorem X44.pure(a0:U3q)(a1:U5q)(a2:Int)(a3:Int)(h:(XcS a0 a1 a2 a3))(hw:Wf X8g.A (a0,a1,a2,a3)):X44.F a0 a1 a2 a3:=by
 delta X44.F ln tN
 simp only[Bs,B0,B1,Prod.mk.injEq,X01,Prod.eta,pSf,Xqa]
 have hp:X8M a0:=h
 refine⟨hp,fun h1=>?_,fun h1=>?_⟩
 · unfold X5a;rw[if_neg (by rw[←Xed,h1];decide)]
 have h1:X1Q a0=true:=h1
 obtain⟨g1,g2,g3,g4⟩:=X2g h1
 obtain⟨s1,s2,s3,s4⟩:=X16 g4
 rw[g3]
 simp only
 refine⟨⟨s1.1,by omega⟩,fun h2=>?_,fun h2=>?_⟩
 · have h3:X5H (X0c a0).1 a1=false:=h2
   unfold X5a;rw[if_pos h1,X9v h3,Xcg]
 · have h3:X5H (X0c a0).1 a1=true:=h2
   obtain⟨p1,p2⟩:=Xck s1.1 h3
   have e1:(fSf (X0c a0).1 a1).1=((pos Op.bytesLess Prod.fst a1 (X0c a0).1:Nat):Int):=rfl
   have e2:=XqI s1.1 h3
   have e3:=Xio (X0c a0).1 a1
   rw[e1,Int.toNat_natCast,e2]
   refine⟨by omega,by omega,by unfold X6n;omega,?_⟩
   unfold X5a;rw[if_pos h1]
theorem X44.eq:EqS X8g Tryz.f36 [64] [X1w.e,X1X.e,X3i.e] [] noL (fun i x=>X44.F x.1 x.2.1 x.2.2.1 x.2.2.2):=by intro i x;kernel_rfl
theorem X44.ok:X0l Tryz.prog 36 X8g:=X2d X44.eq Tryz.func36 rfl (by kernel_rfl) fun i x h hi hw=>X44.pure x.1 x.2.1 x.2.2.1 x.2.2.2 h hw
def X44.e:GE:=⟨36,X8g,⟨_,Tryz.func36,rfl,rfl⟩,X44.ok⟩
def X8p:Con:={A:=(.pair T4q (.pair .str T0q)),shA:=[.agg 3,.one,.one,.one],R:=X9H,shR:=[(false,1)],pre:=fun _ a=>(XcS a.1 a.2.1 a.2.2.1 a.2.2.2),f:=some fun _ a=>((X5a a.1 a.2.1 a.2.2.1 a.2.2.2),((),()))}
def X3Y.F(a0:U3q)(a1:U5q)(a2:Int)(a3:Int):Prop:=((X8M (a0.1,(a0.2.1,a0.2.2)))∧∀r1,(Eq r1 ((X1Q (a0.1,(a0.2.1,a0.2.2))),((),())))→(X00 (!r1.1) (Eq (([]:U6q),((),())) ((X5a a0 a1 a2 a3),((),()))) ((Xna (a0.1,(a0.2.1,a0.2.2)))∧∀r2,(Eq r2 ((Xfp (a0.1,(a0.2.1,a0.2.2))),((),())))→((Xkj r2.1.1 a0.1 a1)∧∀r3,(Eq r3 ((X80 r2.1.1 a0.1 a1),((),())))→((X6n r3.1 a2 a3)∧∀r4,(Eq r4 ((X13 r3.1 a2 a3),((),())))→(Eq (r4.1,((),())) ((X5a a0 a1 a2 a3),((),()))))))))
theorem X3Y.pure(a0:U3q)(a1:U5q)(a2:Int)(a3:Int)(h:(XcS a0 a1 a2 a3))(hw:Wf X8p.A (a0,a1,a2,a3)):X3Y.F a0 a1 a2 a3:=by
 unfold X3Y.F
 simp only[Bs,B0,B1,Prod.mk.injEq,X01,Prod.eta]
 have hp:X8M a0:=h
 refine⟨hp,fun h1=>?_,fun h1=>?_⟩
 · unfold X5a;rw[if_neg (by rw[h1];decide)]
 obtain⟨g1,g2,g3,g4⟩:=X2g h1
 obtain⟨k1,k2,k3,k4,k5⟩:=X6B g1
 obtain⟨s1,s2,s3,s4⟩:=X16 k2
 have ht:=XbU a0
 have e2:=Xlw s1 g2 a1
 have e3:=Xio (X0c a0).1 a1
 have e4:=Xpg g4
 rw[Xbo g2]
 simp only
 rw[←e2]
 refine⟨⟨hp.2,by omega⟩,by unfold Xkj;omega,by unfold X6n;omega,?_⟩
 unfold X5a;rw[if_pos h1]
theorem X3Y.eq:EqS X8p Tryz.f44 [64] [X14.e,X1W.e,X0J.e,X2z.e] [] noL (fun i x=>X3Y.F x.1 x.2.1 x.2.2.1 x.2.2.2):=by intro i x;kernel_rfl
theorem X3Y.ok:X0l Tryz.prog 44 X8p:=X2d X3Y.eq Tryz.func44 rfl (by kernel_rfl) fun i x h hi hw=>X3Y.pure x.1 x.2.1 x.2.2.1 x.2.2.2 h hw
def X3Y.e:GE:=⟨44,X8p,⟨_,Tryz.func44,rfl,rfl⟩,X3Y.ok⟩
end Go.Proofs.YtcfaphojdacmbaaGreatR.B
