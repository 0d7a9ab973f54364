/- What a stretch of time covers. -/
import Derived.Test.YtegmokdppbagiaaCLib
set_option maxRecDepth 100000
set_option linter.unusedVariables false
set_option linter.unusedSimpArgs false
namespace Go.Proofs.Ytegmokdppbagiaa.B
open Go Go.Proofs.Ytegmokdppbagiaa.Bv
def fIn(a l h:Int):Bool:=decide (l≤a)&&decide (a≤h)
def X5J:Con:={A:=(.pair (.int .i64) Xfk),shA:=[.one,.one,.one],R:=.bool,shR:=[(false,1)],pre:=fun _ _=>True,f:=some fun _ a=>((fIn a.1 a.2.1 a.2.2),((),()))}
def X23.F(a0:Int)(a1:Int)(a2:Int):Prop:=(X02 (decide (a0≥a1)) (Eq ((decide (a0≤a2)),((),())) ((fIn a0 a1 a2),((),()))) (Eq (false,((),())) ((fIn a0 a1 a2),((),()))))
theorem X23.pure(a0:Int)(a1:Int)(a2:Int)(h:True)(hw:Wf X5J.A (a0,a1,a2)):X23.F a0 a1 a2:=by
 unfold X23.F fIn
 simp only[X04,and_true,decide_eq_true_eq,decide_eq_false_iff_not,Prod.mk.injEq]
 exact⟨fun h=>by simp[h],fun h=>by simp[h]⟩
theorem X23.eq:EqS X5J Try.f91 [4] [] [] noL (fun i x=>X23.F x.1 x.2.1 x.2.2):=by intro i x;kernel_rfl
theorem X23.ok:X0D Try.prog 91 X5J:=X2U X23.eq Try.func91 rfl (by kernel_rfl) fun i x h hi hw=>X23.pure x.1 x.2.1 x.2.2 h hw
def X23.e:GE:=⟨91,X5J,⟨_,Try.func91,rfl,rfl⟩,X23.ok⟩
def X5U:Con:={A:=(.pair (.int .i64) Xfk),shA:=[.one,.one,.one],R:=.bool,shR:=[(false,1)],pre:=fun _ _=>True,f:=some fun _ a=>((fIn a.1 a.2.1 a.2.2),((),()))}
def X1k.F(a0:Int)(a1:Int)(a2:Int):Prop:=(X02 (decide (a0≥a1)) (Eq ((decide (a0≤a2)),((),())) ((fIn a0 a1 a2),((),()))) (Eq (false,((),())) ((fIn a0 a1 a2),((),()))))
theorem X1k.pure(a0:Int)(a1:Int)(a2:Int)(h:True)(hw:Wf X5U.A (a0,a1,a2)):X1k.F a0 a1 a2:=by
 unfold X1k.F fIn
 simp only[X04,and_true,decide_eq_true_eq,decide_eq_false_iff_not,Prod.mk.injEq]
 exact⟨fun h=>by simp[h],fun h=>by simp[h]⟩
theorem X1k.eq:EqS X5U Try.f85 [4] [] [] noL (fun i x=>X1k.F x.1 x.2.1 x.2.2):=by intro i x;kernel_rfl
theorem X1k.ok:X0D Try.prog 85 X5U:=X2U X1k.eq Try.func85 rfl (by kernel_rfl) fun i x h hi hw=>X1k.pure x.1 x.2.1 x.2.2 h hw
def X1k.e:GE:=⟨85,X5U,⟨_,Try.func85,rfl,rfl⟩,X1k.ok⟩
end Go.Proofs.Ytegmokdppbagiaa.B
