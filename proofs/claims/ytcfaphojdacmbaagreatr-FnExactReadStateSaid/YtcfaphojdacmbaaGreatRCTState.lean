/- Values of the type State:how large,the same,marked. -/
import Derived.Test.YtcfaphojdacmbaaGreatRCTypes
import Derived.Test.YtcfaphojdacmbaaGreatRCTBucket
import Derived.Test.YtcfaphojdacmbaaGreatRCTEngine
import Derived.Test.YtcfaphojdacmbaaGreatRCTSession
set_option maxRecDepth 100000
set_option linter.unusedVariables false
set_option linter.unusedSimpArgs false
namespace Go.Proofs.YtcfaphojdacmbaaGreatR.B
open Go Go.Proofs.YtcfaphojdacmbaaGreatR.Bv
instance dec_State:DecidableEq U7q:=by(iterate 20 (all_goals (first | infer_instance | refine @instDecidableEqProd _ _ ?_ ?_)))
def X4n(a b:U7q):Bool:=decide (a=b)
def X82:Con:={A:=(.pair T8q T8q),shA:=[.agg 8,.agg 8],R:=.bool,shR:=[(false,1)],pre:=fun _ _=>True,f:=some fun _ a=>((X4n a.1 a.2),((),()))}
def X3p.F(a0:U7q)(a1:U7q):Prop:=(X00 (a0.1 !=a1.1) (Eq (false,((),())) ((X4n a0 a1),((),()))) (X00 (a0.2.1 !=a1.2.1) (Eq (false,((),())) ((X4n a0 a1),((),()))) (X00 (a0.2.2.1 !=a1.2.2.1) (Eq (false,((),())) ((X4n a0 a1),((),()))) (True∧∀r1,(Eq r1 ((X4J a0.2.2.2.1 a1.2.2.2.1),((),())))→(X00 (!r1.1) (Eq (false,((),())) ((X4n a0 a1),((),()))) (True∧∀r2,(Eq r2 ((X6J (a0.2.2.2.2.1.1,(a0.2.2.2.2.1.2.1,a0.2.2.2.2.1.2.2)) (a1.2.2.2.2.1.1,(a1.2.2.2.2.1.2.1,a1.2.2.2.2.1.2.2))),((),())))→(X00 (!r2.1) (Eq (false,((),())) ((X4n a0 a1),((),()))) (True∧∀r3,(Eq r3 ((X4b a0.2.2.2.2.2 a1.2.2.2.2.2),((),())))→(X00 (!r3.1) (Eq (false,((),())) ((X4n a0 a1),((),()))) (Eq (true,((),())) ((X4n a0 a1),((),()))))))))))))
theorem X3p.pure(a0:U7q)(a1:U7q)(h:True)(hw:Wf X82.A (a0,a1)):X3p.F a0 a1:=by
 unfold X3p.F
 obtain⟨x1,x2,x3,x4,⟨x5,x6,x7⟩,x8⟩:=a0
 obtain⟨y1,y2,y3,y4,⟨y5,y6,y7⟩,y8⟩:=a1
 simp only[Bs,B0,B1,Prod.mk.injEq,X01,X4n,X4J,X6J,X4b]
 repeat' (first | (refine And.intro ?_ ?_) | intro _)
 all_goals simp_all
theorem X3p.eq:EqS X82 Tryz.f19 [4] [X1E.e,X32.e,X1b.e] [] noL (fun i x=>X3p.F x.1 x.2):=by intro i x;kernel_rfl
theorem X3p.ok:X0k Tryz.prog 19 X82:=X1Z X3p.eq Tryz.func19 rfl (by kernel_rfl) fun i x h hi hw=>X3p.pure x.1 x.2 h hw
def X3p.e:GE:=⟨19,X82,⟨_,Tryz.func19,rfl,rfl⟩,X3p.ok⟩
def X4d(x:U7q):Int:=cL X0s x.2.2.2.1+cL X0p x.2.2.2.2.1.2.1+cL Xas x.2.2.2.2.1.2.2+cL X0u x.2.2.2.2.2
def XhG(x:U7q)(k:Int):(U6q×(U1q×((List U5q)×(List U3q)))):=(mL X0s X6Z x.2.2.2.1 k,(mL X0p X6o x.2.2.2.2.1.2.1 (k+cL X0s x.2.2.2.1),(mL Xas X6l x.2.2.2.2.1.2.2 (k+cL X0s x.2.2.2.1+cL X0p x.2.2.2.2.1.2.1),mL X0u X5m x.2.2.2.2.2 (k+cL X0s x.2.2.2.1+cL X0p x.2.2.2.2.1.2.1+cL Xas x.2.2.2.2.1.2.2))))
def Xe1(x:U7q)(k:Int):Bool:=oL X0s X6w x.2.2.2.1 k&&oL X0p X5I x.2.2.2.2.1.2.1 (k+cL X0s x.2.2.2.1)&&oL Xas X5N x.2.2.2.2.1.2.2 (k+cL X0s x.2.2.2.1+cL X0p x.2.2.2.2.1.2.1)&&oL X0u X4U x.2.2.2.2.2 (k+cL X0s x.2.2.2.1+cL X0p x.2.2.2.2.1.2.1+cL Xas x.2.2.2.2.1.2.2)
def Xbp(x:U7q)(k:Int):U7q:=(x.1,(x.2.1,(x.2.2.1,(mL X0s X6Z x.2.2.2.1 k,((x.2.2.2.2.1.1,(mL X0p X6o x.2.2.2.2.1.2.1 (k+cL X0s x.2.2.2.1),mL Xas X6l x.2.2.2.2.1.2.2 (k+cL X0s x.2.2.2.1+cL X0p x.2.2.2.2.1.2.1))),mL X0u X5m x.2.2.2.2.2 (k+cL X0s x.2.2.2.1+cL X0p x.2.2.2.2.1.2.1+cL Xas x.2.2.2.2.1.2.2))))))
theorem Xm9(x:U7q):0≤X4d x:=by
 have p0:=X2z X5L x.2.2.2.1
 have p1:=X2z X4q x.2.2.2.2.1.2.1
 have p2:=X2z X4l x.2.2.2.2.1.2.2
 have p3:=X2z X4N x.2.2.2.2.2
 unfold X4d;omega
theorem XmV(x:U7q)(k:Int):Xe1 (Xbp x k) k=true∧X4d (Xbp x k)=X4d x:=by
 simp[Xe1,Xbp,X4d,(Xfb Xj1 _ _).1,(Xfb Xj1 _ _).2,(Xfb XiV _ _).1,(Xfb XiV _ _).2,(Xfb Xi7 _ _).1,(Xfb Xi7 _ _).2,(Xfb Xgf _ _).1,(Xfb Xgf _ _).2]
def X7g(x:U7q)(k:Int):Prop:=0≤k∧k+X4d x≤4611686018427387904
def X8j(x:U7q)(k:Int):Int×(U6q×(U1q×((List U5q)×(List U3q)))):=(k+X4d x,XhG x k)
def X6m:Con:={A:=(.pair T8q (.int .i64)),shA:=[.agg 8,.one],backA:=[(3,43),(5,83),(6,9),(7,88)],B:=(.pair XaB (.pair X5X (.pair (.list .str) (.list T2q)))),R:=(.int .i64),shR:=[(false,1)],pre:=fun _ a=>(X7g a.1 a.2),f:=some fun _ a=>((X8j a.1 a.2).1,((),(X8j a.1 a.2).2))}
def X2o.F(a0:U7q)(a1:Int):Prop:=((X5q a0.2.2.2.1 a1)∧∀r1,(Eq r1 ((X6z a0.2.2.2.1 a1).1,((),(X6z a0.2.2.2.1 a1).2)))→((X6G (a0.2.2.2.2.1.1,(a0.2.2.2.2.1.2.1,a0.2.2.2.2.1.2.2)) r1.1)∧∀r2,(Eq r2 ((X6L (a0.2.2.2.2.1.1,(a0.2.2.2.2.1.2.1,a0.2.2.2.2.1.2.2)) r1.1).1,((),(X6L (a0.2.2.2.2.1.1,(a0.2.2.2.2.1.2.1,a0.2.2.2.2.1.2.2)) r1.1).2)))→((X4u a0.2.2.2.2.2 r2.1)∧∀r3,(Eq r3 ((X5t a0.2.2.2.2.2 r2.1).1,((),(X5t a0.2.2.2.2.2 r2.1).2)))→(Eq (r3.1,((),(r1.2.2,(r2.2.2.1,(r2.2.2.2,r3.2.2))))) ((X8j a0 a1).1,((),(X8j a0 a1).2))))))
theorem X2o.pure(a0:U7q)(a1:Int)(h:(X7g a0 a1))(hw:Wf X6m.A (a0,a1)):X2o.F a0 a1:=by
 unfold X2o.F
 obtain⟨p1,p2⟩:=h
 simp only[X4d,X5f]at p2
 have p3:=X2z X5L a0.2.2.2.1
 have p4:=X2z X4q a0.2.2.2.2.1.2.1
 have p5:=X2z X4l a0.2.2.2.2.1.2.2
 have p6:=X2z X4N a0.2.2.2.2.2
 simp only[Bs,B0,B1,Prod.mk.injEq,X01,X6z,X5q,X6L,X6G,X5f,Xf7,X5t,X4u,X4d,XhG,X8j]
 repeat' (with_reducible (first | (refine And.intro ?_ ?_) | intro _))
 all_goals (try simp only[←Int.add_assoc])
 all_goals (first | omega | rfl | (refine Prod.ext ?_ rfl;simp only;omega) | skip)
theorem X2o.eq:EqS X6m Tryz.f20 [3] [X0U.e,X23.e,X0H.e] [] noL (fun i x=>X2o.F x.1 x.2):=by intro i x;kernel_rfl
theorem X2o.ok:X0k Tryz.prog 20 X6m:=X1Z X2o.eq Tryz.func20 rfl (by kernel_rfl) fun i x h hi hw=>X2o.pure x.1 x.2 h hw
def X2o.e:GE:=⟨20,X6m,⟨_,Tryz.func20,rfl,rfl⟩,X2o.ok⟩
def X5Z(x:U7q)(k:Int):Int:=fHd (X4d x) (Xe1 x k) k
def X68:Con:={A:=(.pair T8q (.int .i64)),shA:=[.agg 8,.one],R:=(.int .i64),shR:=[(false,1)],pre:=fun _ a=>(X7g a.1 a.2),f:=some fun _ a=>((X5Z a.1 a.2),((),()))}
def X2n.F(a0:U7q)(a1:Int):Prop:=((X5q a0.2.2.2.1 a1)∧∀r1,(Eq r1 ((X6F a0.2.2.2.1 a1),((),())))→(X00 (decide (r1.1<(0:Int))) (Eq ((-1),((),())) ((X5Z a0 a1),((),()))) ((X6G (a0.2.2.2.2.1.1,(a0.2.2.2.2.1.2.1,a0.2.2.2.2.1.2.2)) r1.1)∧∀r2,(Eq r2 ((X7F (a0.2.2.2.2.1.1,(a0.2.2.2.2.1.2.1,a0.2.2.2.2.1.2.2)) r1.1),((),())))→(X00 (decide (r2.1<(0:Int))) (Eq ((-1),((),())) ((X5Z a0 a1),((),()))) ((X4u a0.2.2.2.2.2 r2.1)∧∀r3,(Eq r3 ((X3s a0.2.2.2.2.2 r2.1),((),())))→(X00 (decide (r3.1<(0:Int))) (Eq ((-1),((),())) ((X5Z a0 a1),((),()))) (Eq (r3.1,((),())) ((X5Z a0 a1),((),())))))))))
theorem X2n.pure(a0:U7q)(a1:Int)(h:(X7g a0 a1))(hw:Wf X68.A (a0,a1)):X2n.F a0 a1:=by
 unfold X2n.F
 obtain⟨p1,p2⟩:=h
 simp only[X4d,X5f]at p2
 have p3:=X2z X5L a0.2.2.2.1
 have p4:=X2z X4q a0.2.2.2.2.1.2.1
 have p5:=X2z X4l a0.2.2.2.2.1.2.2
 have p6:=X2z X4N a0.2.2.2.2.2
 simp only[Bs,B0,B1,Prod.mk.injEq,X01,X5Z,X5q,X6F,X6G,X7F,X5f,Xfh,X4u,X3s,X4d,Xe1]
 repeat' (with_reducible (first | (refine And.intro ?_ ?_) | intro _))
 all_goals (try simp (disch:=first | omega | assumption) only[X42,X3I,Bool.not_eq_false]at*)
 all_goals (try simp (disch:=first | omega | assumption) only[X42,X3I,Bool.not_eq_false]at*)
 all_goals (try simp (disch:=first | omega | assumption) only[X42,X3I,Bool.not_eq_false]at*)
 all_goals (try simp (disch:=first | omega | assumption) only[X42,X3I,Bool.not_eq_false]at*)
 all_goals (try simp (disch:=first | omega | assumption) only[X42,X3I,Bool.not_eq_false]at*)
 all_goals (try simp (disch:=first | omega | assumption) only[X42,X3I,Bool.not_eq_false]at*)
 all_goals (first | omega | (unfold fHd;grind) | skip)
theorem X2n.eq:EqS X68 Tryz.f21 [3] [X0W.e,X28.e,X0G.e] [] noL (fun i x=>X2n.F x.1 x.2):=by intro i x;kernel_rfl
theorem X2n.ok:X0k Tryz.prog 21 X68:=X1Z X2n.eq Tryz.func21 rfl (by kernel_rfl) fun i x h hi hw=>X2n.pure x.1 x.2 h hw
def X2n.e:GE:=⟨21,X68,⟨_,Tryz.func21,rfl,rfl⟩,X2n.ok⟩
end Go.Proofs.YtcfaphojdacmbaaGreatR.B
