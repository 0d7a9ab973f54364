/- What a stretch of time covers. -/
import Derived.Test.YtegmokdppbagiaaCLib
set_option maxRecDepth 100000
set_option linter.unusedVariables false
set_option linter.unusedSimpArgs false
namespace Go.Proofs.Ytegmokdppbagiaa.B
open Go Go.Proofs.Ytegmokdppbagiaa.Bv
def fIn(a l h:Int):Bool:=decide (l≤a)&&decide (a≤h)
def X5C:Con:={A:=(.pair (.int .i64) T9q),shA:=[.one,.one,.one],R:=.bool,shR:=[(false,1)],pre:=fun _ _=>True,f:=some fun _ a=>((fIn a.1 a.2.1 a.2.2),((),()))}
def X1U.F(a0:Int)(a1:Int)(a2:Int):Prop:=(X03 (decide (a0≥a1)) (Eq ((decide (a0≤a2)),((),())) ((fIn a0 a1 a2),((),()))) (Eq (false,((),())) ((fIn a0 a1 a2),((),()))))
theorem X1U.pure(a0:Int)(a1:Int)(a2:Int)(h:True)(hw:Wf X5C.A (a0,a1,a2)):X1U.F a0 a1 a2:=by
 unfold X1U.F fIn
 simp only[X04,and_true,decide_eq_true_eq,decide_eq_false_iff_not,Prod.mk.injEq]
 exact⟨fun h=>by simp[h],fun h=>by simp[h]⟩
theorem X1U.eq:EqS X5C Try.f91 [4] [] [] noL (fun i x=>X1U.F x.1 x.2.1 x.2.2):=by intro i x;kernel_rfl
theorem X1U.ok:X0I Try.prog 91 X5C:=X35 X1U.eq Try.func91 rfl (by kernel_rfl) fun i x h hi hw=>X1U.pure x.1 x.2.1 x.2.2 h hw
def X1U.e:GE:=⟨91,X5C,⟨_,Try.func91,rfl,rfl⟩,X1U.ok⟩
def X5s:Con:={A:=(.pair (.int .i64) T9q),shA:=[.one,.one,.one],R:=.bool,shR:=[(false,1)],pre:=fun _ _=>True,f:=some fun _ a=>((fIn a.1 a.2.1 a.2.2),((),()))}
def X1k.F(a0:Int)(a1:Int)(a2:Int):Prop:=(X03 (decide (a0≥a1)) (Eq ((decide (a0≤a2)),((),())) ((fIn a0 a1 a2),((),()))) (Eq (false,((),())) ((fIn a0 a1 a2),((),()))))
theorem X1k.pure(a0:Int)(a1:Int)(a2:Int)(h:True)(hw:Wf X5s.A (a0,a1,a2)):X1k.F a0 a1 a2:=by
 unfold X1k.F fIn
 simp only[X04,and_true,decide_eq_true_eq,decide_eq_false_iff_not,Prod.mk.injEq]
 exact⟨fun h=>by simp[h],fun h=>by simp[h]⟩
theorem X1k.eq:EqS X5s Try.f85 [4] [] [] noL (fun i x=>X1k.F x.1 x.2.1 x.2.2):=by intro i x;kernel_rfl
theorem X1k.ok:X0I Try.prog 85 X5s:=X35 X1k.eq Try.func85 rfl (by kernel_rfl) fun i x h hi hw=>X1k.pure x.1 x.2.1 x.2.2 h hw
def X1k.e:GE:=⟨85,X5s,⟨_,Try.func85,rfl,rfl⟩,X1k.ok⟩
end Go.Proofs.Ytegmokdppbagiaa.B
