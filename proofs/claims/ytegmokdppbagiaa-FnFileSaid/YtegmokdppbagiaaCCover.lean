/- What a stretch of time covers. -/
import Derived.Test.YtegmokdppbagiaaCLib
set_option maxRecDepth 100000
set_option linter.unusedVariables false
set_option linter.unusedSimpArgs false
namespace Go.Proofs.Ytegmokdppbagiaa.B
open Go Go.Proofs.Ytegmokdppbagiaa.Bv
def fIn(a l h:Int):Bool:=decide (l≤a)&&decide (a≤h)
def X5c:Con:={A:=(.pair (.int .i64) T0q),shA:=[.one,.one,.one],R:=.bool,shR:=[(false,1)],pre:=fun _ _=>True,f:=some fun _ a=>((fIn a.1 a.2.1 a.2.2),((),()))}
def X2e.F(a0:Int)(a1:Int)(a2:Int):Prop:=(X04 (decide (a0≥a1)) (Eq ((decide (a0≤a2)),((),())) ((fIn a0 a1 a2),((),()))) (Eq (false,((),())) ((fIn a0 a1 a2),((),()))))
theorem X2e.pure(a0:Int)(a1:Int)(a2:Int)(h:True)(hw:Wf X5c.A (a0,a1,a2)):X2e.F a0 a1 a2:=by
 unfold X2e.F fIn
 simp only[X06,and_true,decide_eq_true_eq,decide_eq_false_iff_not,Prod.mk.injEq]
 exact⟨fun h=>by simp[h],fun h=>by simp[h]⟩
theorem X2e.eq:EqS X5c Try.f91 [4] [] [] noL (fun i x=>X2e.F x.1 x.2.1 x.2.2):=by intro i x;kernel_rfl
theorem X2e.ok:X11 Try.prog 91 X5c:=X3V X2e.eq Try.func91 rfl (by kernel_rfl) fun i x h hi hw=>X2e.pure x.1 x.2.1 x.2.2 h hw
def X2e.e:GE:=⟨91,X5c,⟨_,Try.func91,rfl,rfl⟩,X2e.ok⟩
def X5p:Con:={A:=(.pair (.int .i64) T0q),shA:=[.one,.one,.one],R:=.bool,shR:=[(false,1)],pre:=fun _ _=>True,f:=some fun _ a=>((fIn a.1 a.2.1 a.2.2),((),()))}
def X0O.F(a0:Int)(a1:Int)(a2:Int):Prop:=(X04 (decide (a0≥a1)) (Eq ((decide (a0≤a2)),((),())) ((fIn a0 a1 a2),((),()))) (Eq (false,((),())) ((fIn a0 a1 a2),((),()))))
theorem X0O.pure(a0:Int)(a1:Int)(a2:Int)(h:True)(hw:Wf X5p.A (a0,a1,a2)):X0O.F a0 a1 a2:=by
 unfold X0O.F fIn
 simp only[X06,and_true,decide_eq_true_eq,decide_eq_false_iff_not,Prod.mk.injEq]
 exact⟨fun h=>by simp[h],fun h=>by simp[h]⟩
theorem X0O.eq:EqS X5p Try.f85 [4] [] [] noL (fun i x=>X0O.F x.1 x.2.1 x.2.2):=by intro i x;kernel_rfl
theorem X0O.ok:X11 Try.prog 85 X5p:=X3V X0O.eq Try.func85 rfl (by kernel_rfl) fun i x h hi hw=>X0O.pure x.1 x.2.1 x.2.2 h hw
def X0O.e:GE:=⟨85,X5p,⟨_,Try.func85,rfl,rfl⟩,X0O.ok⟩
end Go.Proofs.Ytegmokdppbagiaa.B
