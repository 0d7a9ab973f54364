/- Values of the type Answer:how large,the same,marked. -/
import Derived.Test.YtcfaphojdacmbaaGreatRCTypes
set_option linter.unusedVariables false
set_option linter.unusedSimpArgs false
namespace Go.Proofs.YtcfaphojdacmbaaGreatR.B
open Go Go.Proofs.YtcfaphojdacmbaaGreatR.Bv
def XpB(x:Xjj):Nat:=(x.2.2.2.length)
instance dec_Answer:DecidableEq Xjj:=by(iterate 20 (all_goals (first | infer_instance | refine @instDecidableEqProd _ _ ?_ ?_)))
def X5C(a b:Xjj):Bool:=decide (a=b)
def X7n:Con:={A:=(.pair XpT XpT),shA:=[.agg 4,.agg 4],R:=.bool,shR:=[(false,1)],pre:=fun _ _=>True,f:=some fun _ a=>((X5C a.1 a.2),((),()))}
def X2X.F(a0:Xjj)(a1:Xjj):Prop:=(X00 (a0.1 !=a1.1) (Eq (false,((),())) ((X5C a0 a1),((),()))) (X00 (a0.2.1 !=a1.2.1) (Eq (false,((),())) ((X5C a0 a1),((),()))) (X00 (a0.2.2.1 !=a1.2.2.1) (Eq (false,((),())) ((X5C a0 a1),((),()))) (X00 (!(a0.2.2.2==a1.2.2.2)) (Eq (false,((),())) ((X5C a0 a1),((),()))) (Eq (true,((),())) ((X5C a0 a1),((),())))))))
theorem X2X.pure(a0:Xjj)(a1:Xjj)(h:True)(hw:Wf X7n.A (a0,a1)):X2X.F a0 a1:=by
 unfold X2X.F
 obtain⟨x1,x2,x3,x4⟩:=a0
 obtain⟨y1,y2,y3,y4⟩:=a1
 simp only[Bs,B0,B1,Prod.mk.injEq,X01,X5C]
 repeat' (first | (refine And.intro ?_ ?_) | intro _)
 all_goals simp_all
set_option maxRecDepth 100000 in
theorem X2X.eq:EqS X7n Tryz.f26 [4] [] [] noL (fun i x=>X2X.F x.1 x.2):=by intro i x;kernel_rfl
theorem X2X.ok:X0k Tryz.prog 26 X7n:=X1Z X2X.eq Tryz.func26 rfl (by kernel_rfl) fun i x h hi hw=>X2X.pure x.1 x.2 h hw
def X2X.e:GE:=⟨26,X7n,⟨_,Tryz.func26,rfl,rfl⟩,X2X.ok⟩
end Go.Proofs.YtcfaphojdacmbaaGreatR.B
