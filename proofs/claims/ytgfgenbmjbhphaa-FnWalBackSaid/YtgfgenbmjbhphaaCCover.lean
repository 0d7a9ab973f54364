/- What a stretch of time covers. -/
import Derived.Test.YtgfgenbmjbhphaaCLib
namespace Go.Proofs.Ytgfgenbmjbhphaa.B
set_option linter.unusedVariables false
set_option linter.unusedSimpArgs false
open Go Go.Proofs.Ytgfgenbmjbhphaa.Bv
def fIn (a l h:Int):Bool:=decide (l≤a)&&decide (a≤h)
def c_spec_l1In:Con:={A:=(.pair (.int .i64) (.pair (.int .i64) (.int .i64))),shA:=[.one,.one,.one],R:=.bool,shR:=[(false,1)],pre:=fun _ _=>True,f:=some fun _ a=>((fIn a.1 a.2.1 a.2.2),((),()))}
def spec_l1In.F (a0:Int) (a1:Int) (a2:Int):Prop:=(caseB (decide (a0≥a1)) (Eq ((decide (a0≤a2)),((),())) ((fIn a0 a1 a2),((),()))) (Eq (false,((),())) ((fIn a0 a1 a2),((),()))))
theorem spec_l1In.pure (a0:Int) (a1:Int) (a2:Int) (h:True) (hw:Wf c_spec_l1In.A (a0,a1,a2)):spec_l1In.F a0 a1 a2:=by
 unfold spec_l1In.F fIn
 simp only [caseB_iff,and_true,decide_eq_true_eq,decide_eq_false_iff_not,Prod.mk.injEq]
 exact⟨fun h=>by simp [h],fun h=>by simp [h]⟩
set_option maxRecDepth 100000 in
theorem spec_l1In.eq:EqS c_spec_l1In Try.f34 [4] [] [] noL (fun i x=>spec_l1In.F x.1 x.2.1 x.2.2):=by intro i x;kernel_rfl
theorem spec_l1In.ok:ConOk Try.prog 34 c_spec_l1In:=okOf spec_l1In.eq Try.func34 rfl (by kernel_rfl) fun i x h hi hw=>spec_l1In.pure x.1 x.2.1 x.2.2 h hw
def spec_l1In.e:GE:=⟨34,c_spec_l1In,⟨_,Try.func34,rfl,rfl⟩,spec_l1In.ok⟩
def c_impl_from:Con:={A:=(.pair (.int .i64) (.pair (.int .i64) (.int .i64))),shA:=[.one,.one,.one],R:=.bool,shR:=[(false,1)],pre:=fun _ _=>True,f:=some fun _ a=>((fIn a.1 a.2.1 a.2.2),((),()))}
def impl_from.F (a0:Int) (a1:Int) (a2:Int):Prop:=(caseB (decide (a0≥a1)) (Eq ((decide (a0≤a2)),((),())) ((fIn a0 a1 a2),((),()))) (Eq (false,((),())) ((fIn a0 a1 a2),((),()))))
theorem impl_from.pure (a0:Int) (a1:Int) (a2:Int) (h:True) (hw:Wf c_impl_from.A (a0,a1,a2)):impl_from.F a0 a1 a2:=by
 unfold impl_from.F fIn
 simp only [caseB_iff,and_true,decide_eq_true_eq,decide_eq_false_iff_not,Prod.mk.injEq]
 exact⟨fun h=>by simp [h],fun h=>by simp [h]⟩
set_option maxRecDepth 100000 in
theorem impl_from.eq:EqS c_impl_from Try.f28 [4] [] [] noL (fun i x=>impl_from.F x.1 x.2.1 x.2.2):=by intro i x;kernel_rfl
theorem impl_from.ok:ConOk Try.prog 28 c_impl_from:=okOf impl_from.eq Try.func28 rfl (by kernel_rfl) fun i x h hi hw=>impl_from.pure x.1 x.2.1 x.2.2 h hw
def impl_from.e:GE:=⟨28,c_impl_from,⟨_,Try.func28,rfl,rfl⟩,impl_from.ok⟩
end Go.Proofs.Ytgfgenbmjbhphaa.B
