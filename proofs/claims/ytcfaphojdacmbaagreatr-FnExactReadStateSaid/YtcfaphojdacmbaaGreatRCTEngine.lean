/- Values of the type Engine:how large,the same,marked. -/
import Derived.Test.YtcfaphojdacmbaaGreatRCTypes
import Derived.Test.YtcfaphojdacmbaaGreatRCTSeries
set_option maxRecDepth 100000
set_option linter.unusedVariables false
set_option linter.unusedSimpArgs false
namespace Go.Proofs.YtcfaphojdacmbaaGreatR.B
open Go Go.Proofs.YtcfaphojdacmbaaGreatR.Bv
instance dec_Engine:DecidableEq Xad:=by(iterate 20 (all_goals (first | infer_instance | refine @instDecidableEqProd _ _ ?_ ?_)))
def X6J(a b:Xad):Bool:=decide (a=b)
def X6W:Con:={A:=(.pair Xjp Xjp),shA:=[.agg 3,.agg 3],R:=.bool,shR:=[(false,1)],pre:=fun _ _=>True,f:=some fun _ a=>((X6J a.1 a.2),((),()))}
def X32.F(a0:Xad)(a1:Xad):Prop:=(X00 (a0.1 !=a1.1) (Eq (false,((),())) ((X6J a0 a1),((),()))) (True∧∀r1,(Eq r1 ((X4B a0.2.1 a1.2.1),((),())))→(X00 (!r1.1) (Eq (false,((),())) ((X6J a0 a1),((),()))) (True∧∀r2,(Eq r2 ((X4K a0.2.2 a1.2.2),((),())))→(X00 (!r2.1) (Eq (false,((),())) ((X6J a0 a1),((),()))) (Eq (true,((),())) ((X6J a0 a1),((),()))))))))
theorem X32.pure(a0:Xad)(a1:Xad)(h:True)(hw:Wf X6W.A (a0,a1)):X32.F a0 a1:=by
 unfold X32.F
 obtain⟨x1,x2,x3⟩:=a0
 obtain⟨y1,y2,y3⟩:=a1
 simp only[Bs,B0,B1,Prod.mk.injEq,X01,X6J,X4B,X4K]
 repeat' (first | (refine And.intro ?_ ?_) | intro _)
 all_goals simp_all
theorem X32.eq:EqS X6W Tryz.f65 [4] [X1H.e,X1I.e] [] noL (fun i x=>X32.F x.1 x.2):=by intro i x;kernel_rfl
theorem X32.ok:X0k Tryz.prog 65 X6W:=X1Z X32.eq Tryz.func65 rfl (by kernel_rfl) fun i x h hi hw=>X32.pure x.1 x.2 h hw
def X32.e:GE:=⟨65,X6W,⟨_,Tryz.func65,rfl,rfl⟩,X32.ok⟩
def X5f(x:Xad):Int:=cL X0p x.2.1+cL Xas x.2.2
def Xf7(x:Xad)(k:Int):(U1q×(List U5q)):=(mL X0p X6o x.2.1 k,mL Xas X6l x.2.2 (k+cL X0p x.2.1))
def Xfh(x:Xad)(k:Int):Bool:=oL X0p X5I x.2.1 k&&oL Xas X5N x.2.2 (k+cL X0p x.2.1)
def X6G(x:Xad)(k:Int):Prop:=0≤k∧k+X5f x≤4611686018427387904
def X6L(x:Xad)(k:Int):Int×(U1q×(List U5q)):=(k+X5f x,Xf7 x k)
def X5U:Con:={A:=(.pair Xjp (.int .i64)),shA:=[.agg 3,.one],backA:=[(1,83),(2,9)],B:=(.pair X5X (.list .str)),R:=(.int .i64),shR:=[(false,1)],pre:=fun _ a=>(X6G a.1 a.2),f:=some fun _ a=>((X6L a.1 a.2).1,((),(X6L a.1 a.2).2))}
def X23.F(a0:Xad)(a1:Int):Prop:=((X5i a0.2.1 a1)∧∀r1,(Eq r1 ((X6A a0.2.1 a1).1,((),(X6A a0.2.1 a1).2)))→((X5p a0.2.2 r1.1)∧∀r2,(Eq r2 ((X6C a0.2.2 r1.1).1,((),(X6C a0.2.2 r1.1).2)))→(Eq (r2.1,((),(r1.2.2,r2.2.2))) ((X6L a0 a1).1,((),(X6L a0 a1).2)))))
theorem X23.pure(a0:Xad)(a1:Int)(h:(X6G a0 a1))(hw:Wf X5U.A (a0,a1)):X23.F a0 a1:=by
 unfold X23.F
 obtain⟨p1,p2⟩:=h
 simp only[X5f]at p2
 have p3:=X2z X4q a0.2.1
 have p4:=X2z X4l a0.2.2
 simp only[Bs,B0,B1,Prod.mk.injEq,X01,X6A,X5i,X6C,X5p,X5f,Xf7,X6L]
 repeat' (with_reducible (first | (refine And.intro ?_ ?_) | intro _))
 all_goals (try simp only[←Int.add_assoc])
 all_goals (first | omega | rfl | (refine Prod.ext ?_ rfl;simp only;omega) | skip)
theorem X23.eq:EqS X5U Tryz.f68 [3] [X0V.e,X0S.e] [] noL (fun i x=>X23.F x.1 x.2):=by intro i x;kernel_rfl
theorem X23.ok:X0k Tryz.prog 68 X5U:=X1Z X23.eq Tryz.func68 rfl (by kernel_rfl) fun i x h hi hw=>X23.pure x.1 x.2 h hw
def X23.e:GE:=⟨68,X5U,⟨_,Tryz.func68,rfl,rfl⟩,X23.ok⟩
def X7F(x:Xad)(k:Int):Int:=fHd (X5f x) (Xfh x k) k
def X5E:Con:={A:=(.pair Xjp (.int .i64)),shA:=[.agg 3,.one],R:=(.int .i64),shR:=[(false,1)],pre:=fun _ a=>(X6G a.1 a.2),f:=some fun _ a=>((X7F a.1 a.2),((),()))}
def X28.F(a0:Xad)(a1:Int):Prop:=((X5i a0.2.1 a1)∧∀r1,(Eq r1 ((X6x a0.2.1 a1),((),())))→(X00 (decide (r1.1<(0:Int))) (Eq ((-1),((),())) ((X7F a0 a1),((),()))) ((X5p a0.2.2 r1.1)∧∀r2,(Eq r2 ((X7E a0.2.2 r1.1),((),())))→(X00 (decide (r2.1<(0:Int))) (Eq ((-1),((),())) ((X7F a0 a1),((),()))) (Eq (r2.1,((),())) ((X7F a0 a1),((),())))))))
theorem X28.pure(a0:Xad)(a1:Int)(h:(X6G a0 a1))(hw:Wf X5E.A (a0,a1)):X28.F a0 a1:=by
 unfold X28.F
 obtain⟨p1,p2⟩:=h
 simp only[X5f]at p2
 have p3:=X2z X4q a0.2.1
 have p4:=X2z X4l a0.2.2
 simp only[Bs,B0,B1,Prod.mk.injEq,X01,X7F,X5i,X6x,X5p,X7E,X5f,Xfh]
 repeat' (with_reducible (first | (refine And.intro ?_ ?_) | intro _))
 all_goals (try simp (disch:=first | omega | assumption) only[X42,X3I,Bool.not_eq_false]at*)
 all_goals (try simp (disch:=first | omega | assumption) only[X42,X3I,Bool.not_eq_false]at*)
 all_goals (try simp (disch:=first | omega | assumption) only[X42,X3I,Bool.not_eq_false]at*)
 all_goals (try simp (disch:=first | omega | assumption) only[X42,X3I,Bool.not_eq_false]at*)
 all_goals (try simp (disch:=first | omega | assumption) only[X42,X3I,Bool.not_eq_false]at*)
 all_goals (try simp (disch:=first | omega | assumption) only[X42,X3I,Bool.not_eq_false]at*)
 all_goals (first | omega | (unfold fHd;grind) | skip)
theorem X28.eq:EqS X5E Tryz.f71 [3] [X0R.e,X0T.e] [] noL (fun i x=>X28.F x.1 x.2):=by intro i x;kernel_rfl
theorem X28.ok:X0k Tryz.prog 71 X5E:=X1Z X28.eq Tryz.func71 rfl (by kernel_rfl) fun i x h hi hw=>X28.pure x.1 x.2 h hw
def X28.e:GE:=⟨71,X5E,⟨_,Tryz.func71,rfl,rfl⟩,X28.ok⟩
end Go.Proofs.YtcfaphojdacmbaaGreatR.B
