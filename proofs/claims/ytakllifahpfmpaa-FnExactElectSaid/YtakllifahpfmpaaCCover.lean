/- What a stretch of time covers. -/
import Derived.Test.YtakllifahpfmpaaCLib
set_option maxRecDepth 100000
set_option linter.unusedVariables false
set_option linter.unusedSimpArgs false
namespace Go.Proofs.Ytakllifahpfmpaa.B
open Go Go.Proofs.Ytakllifahpfmpaa.Bv
def fIn(a l h:Int):Bool:=decide (l≤a)&&decide (a≤h)
def X65:Con:={A:=(.pair (.int .i64) XfX),shA:=[.one,.one,.one],R:=.bool,shR:=[(false,1)],pre:=fun _ _=>True,f:=some fun _ a=>((fIn a.1 a.2.1 a.2.2),((),()))}
def X2m.F(a0:Int)(a1:Int)(a2:Int):Prop:=(X02 (decide (a0≥a1)) (Eq ((decide (a0≤a2)),((),())) ((fIn a0 a1 a2),((),()))) (Eq (false,((),())) ((fIn a0 a1 a2),((),()))))
theorem X2m.pure(a0:Int)(a1:Int)(a2:Int)(h:True)(hw:Wf X65.A (a0,a1,a2)):X2m.F a0 a1 a2:=by
 unfold X2m.F fIn
 simp only[X04,and_true,decide_eq_true_eq,decide_eq_false_iff_not,Prod.mk.injEq]
 exact⟨fun h=>by simp[h],fun h=>by simp[h]⟩
theorem X2m.eq:EqS X65 Try.f41 [4] [] [] noL (fun i x=>X2m.F x.1 x.2.1 x.2.2):=by intro i x;kernel_rfl
theorem X2m.ok:X0z Try.prog 41 X65:=X2I X2m.eq Try.func41 rfl (by kernel_rfl) fun i x h hi hw=>X2m.pure x.1 x.2.1 x.2.2 h hw
def X2m.e:GE:=⟨41,X65,⟨_,Try.func41,rfl,rfl⟩,X2m.ok⟩
def X60:Con:={A:=(.pair (.int .i64) XfX),shA:=[.one,.one,.one],R:=.bool,shR:=[(false,1)],pre:=fun _ _=>True,f:=some fun _ a=>((fIn a.1 a.2.1 a.2.2),((),()))}
def X1v.F(a0:Int)(a1:Int)(a2:Int):Prop:=(X02 (decide (a0≥a1)) (Eq ((decide (a0≤a2)),((),())) ((fIn a0 a1 a2),((),()))) (Eq (false,((),())) ((fIn a0 a1 a2),((),()))))
theorem X1v.pure(a0:Int)(a1:Int)(a2:Int)(h:True)(hw:Wf X60.A (a0,a1,a2)):X1v.F a0 a1 a2:=by
 unfold X1v.F fIn
 simp only[X04,and_true,decide_eq_true_eq,decide_eq_false_iff_not,Prod.mk.injEq]
 exact⟨fun h=>by simp[h],fun h=>by simp[h]⟩
theorem X1v.eq:EqS X60 Try.f48 [4] [] [] noL (fun i x=>X1v.F x.1 x.2.1 x.2.2):=by intro i x;kernel_rfl
theorem X1v.ok:X0z Try.prog 48 X60:=X2I X1v.eq Try.func48 rfl (by kernel_rfl) fun i x h hi hw=>X1v.pure x.1 x.2.1 x.2.2 h hw
def X1v.e:GE:=⟨48,X60,⟨_,Try.func48,rfl,rfl⟩,X1v.ok⟩
end Go.Proofs.Ytakllifahpfmpaa.B
