/- What a stretch of time covers. -/
import Derived.Test.YtnoapekdbmpiaaaGreatCLib
set_option linter.unusedVariables false
set_option linter.unusedSimpArgs false
namespace Go.Proofs.YtnoapekdbmpiaaaGreat.B
open Go Go.Proofs.YtnoapekdbmpiaaaGreat.Bv
def fIn (a l h:Int):Bool:=decide (l≤a)&&decide (a≤h)
def fBucket (t:Int):Int:=if fIn t 0 1099511627776 then t / 100 else -1
def c_spec_l1In:Con:={A:=(.pair (.int .i64) T0q),shA:=[.one,.one,.one],R:=.bool,shR:=[(false,1)],pre:=fun _ _=>True,f:=some fun _ a=>((fIn a.1 a.2.1 a.2.2),((),()))}
def spec_l1In.F (a0:Int) (a1:Int) (a2:Int):Prop:=(caseB (decide (a0≥a1)) (Eq ((decide (a0≤a2)),((),())) ((fIn a0 a1 a2),((),()))) (Eq (false,((),())) ((fIn a0 a1 a2),((),()))))
theorem spec_l1In.pure (a0:Int) (a1:Int) (a2:Int) (h:True) (hw:Wf c_spec_l1In.A (a0,a1,a2)):spec_l1In.F a0 a1 a2:=by
 unfold spec_l1In.F fIn
 simp only [caseB_iff,and_true,decide_eq_true_eq,decide_eq_false_iff_not,Prod.mk.injEq]
 exact⟨fun h=>by simp [h],fun h=>by simp [h]⟩
set_option maxRecDepth 100000 in
theorem spec_l1In.eq:EqS c_spec_l1In Tryz.f91 [4] [] [] noL (fun i x=>spec_l1In.F x.1 x.2.1 x.2.2):=by intro i x;kernel_rfl
theorem spec_l1In.ok:ConOk Tryz.prog 91 c_spec_l1In:=okOf spec_l1In.eq Tryz.func91 rfl (by kernel_rfl) fun i x h hi hw=>spec_l1In.pure x.1 x.2.1 x.2.2 h hw
def spec_l1In.e:GE:=⟨91,c_spec_l1In,⟨_,Tryz.func91,rfl,rfl⟩,spec_l1In.ok⟩
def c_impl_from:Con:={A:=(.pair (.int .i64) T0q),shA:=[.one,.one,.one],R:=.bool,shR:=[(false,1)],pre:=fun _ _=>True,f:=some fun _ a=>((fIn a.1 a.2.1 a.2.2),((),()))}
def impl_from.F (a0:Int) (a1:Int) (a2:Int):Prop:=(caseB (decide (a0≥a1)) (Eq ((decide (a0≤a2)),((),())) ((fIn a0 a1 a2),((),()))) (Eq (false,((),())) ((fIn a0 a1 a2),((),()))))
theorem impl_from.pure (a0:Int) (a1:Int) (a2:Int) (h:True) (hw:Wf c_impl_from.A (a0,a1,a2)):impl_from.F a0 a1 a2:=by
 unfold impl_from.F fIn
 simp only [caseB_iff,and_true,decide_eq_true_eq,decide_eq_false_iff_not,Prod.mk.injEq]
 exact⟨fun h=>by simp [h],fun h=>by simp [h]⟩
set_option maxRecDepth 100000 in
theorem impl_from.eq:EqS c_impl_from Tryz.f99 [4] [] [] noL (fun i x=>impl_from.F x.1 x.2.1 x.2.2):=by intro i x;kernel_rfl
theorem impl_from.ok:ConOk Tryz.prog 99 c_impl_from:=okOf impl_from.eq Tryz.func99 rfl (by kernel_rfl) fun i x h hi hw=>impl_from.pure x.1 x.2.1 x.2.2 h hw
def impl_from.e:GE:=⟨99,c_impl_from,⟨_,Tryz.func99,rfl,rfl⟩,impl_from.ok⟩
def c_spec_BucketOf:Con:={A:=(.int .i64),shA:=[.one],R:=(.int .i64),shR:=[(false,1)],pre:=fun _ _=>True,f:=some fun _ a=>((fBucket a),((),()))}
def spec_BucketOf.F (a0:Int):Prop:=(True∧∀r1,(Eq r1 ((fIn a0 0 1099511627776),((),())))→(caseB (!r1.1) (Eq ((-1),((),())) ((fBucket a0),((),()))) ((100:Int)≠0∧(Eq ((wI (Int.tdiv a0 (100:Int))),((),())) ((fBucket a0),((),()))))))
theorem spec_BucketOf.pure (a0:Int) (h:True) (hw:Wf c_spec_BucketOf.A a0):spec_BucketOf.F a0:=by
 unfold spec_BucketOf.F fBucket
 simp only [forall_eq,true_and,and_true,caseB_iff,Prod.mk.injEq,Bool.not_eq_true',Bool.not_eq_false']
 refine⟨fun h1=>by simp [h1],fun h1=>⟨by omega,?_⟩⟩
 have h2:=h1
 simp only [fIn,Bool.and_eq_true,decide_eq_true_eq] at h2
 rw [if_pos h1,Int.tdiv_eq_ediv_of_nonneg h2.1]
 exact Go.IntWalk.i64_in _ (by omega)
set_option maxRecDepth 100000 in
theorem spec_BucketOf.eq:EqS c_spec_BucketOf Tryz.f94 [3] [spec_l1In.e] [] noL (fun i x=>spec_BucketOf.F x):=by intro i x;kernel_rfl
theorem spec_BucketOf.ok:ConOk Tryz.prog 94 c_spec_BucketOf:=okOf spec_BucketOf.eq Tryz.func94 rfl (by kernel_rfl) fun i x h hi hw=>spec_BucketOf.pure x h hw
def spec_BucketOf.e:GE:=⟨94,c_spec_BucketOf,⟨_,Tryz.func94,rfl,rfl⟩,spec_BucketOf.ok⟩
end Go.Proofs.YtnoapekdbmpiaaaGreat.B
