/- What the law computes. -/
import Derived.Test.YthjlommbnfooaaaCLaw
import Derived.Test.YthjlommbnfooaaaCRFile
namespace Go.Proofs.Ythjlommbnfooaaa.B
set_option linter.unusedVariables false
set_option linter.unusedSimpArgs false
open Go Go.Proofs.Ythjlommbnfooaaa.Bv

def laws_FnExactFileSpan.F  (a0 : (List UInt8)) : Prop := (caseB (decide (((List.length a0 : Nat) : Int) > (1048576 : Int))) (((true, ((), ())) : Bool × (Unit × Unit)) = (true, ((), ()))) ((pStr a0) ∧ ∀ (r1 : (Int × (Int × Bool)) × (Unit × Unit)), ((r1 : (Int × (Int × Bool)) × (Unit × Unit)) = ((fFileSpan a0), ((), ()))) → ((pStr a0) ∧ ∀ (r2 : (Int × (Int × Bool)) × (Unit × Unit)), ((r2 : (Int × (Int × Bool)) × (Unit × Unit)) = ((fFileSpan a0), ((), ()))) → (caseB (r2.1.1 != r1.1.1) (((false, ((), ())) : Bool × (Unit × Unit)) = (true, ((), ()))) (caseB (r2.1.2.1 != r1.1.2.1) (((false, ((), ())) : Bool × (Unit × Unit)) = (true, ((), ()))) (caseB (!(r2.1.2.2 == r1.1.2.2)) (((false, ((), ())) : Bool × (Unit × Unit)) = (true, ((), ()))) (((true, ((), ())) : Bool × (Unit × Unit)) = (true, ((), ())))))))))
def laws_FnExactFileSpan.L  (a0 : (List UInt8)) : Nat → Option LoopAnn := fun p => Go.Proofs.Ythjlommbnfooaaa.Bv.look p []

theorem laws_FnExactFileSpan.pure  (a0 : (List UInt8)) (h : WfD .str a0) (hw : Wf (lawCon .str [.one]).A a0) : laws_FnExactFileSpan.F a0 := by
  unfold laws_FnExactFileSpan.F
  have hk : pStr a0 := h
  simp only [forall_eq, true_and, and_true, caseB_iff, Prod.mk.injEq, decide_eq_true_eq, decide_eq_false_iff_not, Bool.not_eq_true', Bool.not_eq_false', bne_iff_ne, ne_eq, beq_iff_eq, Bool.not_true, Bool.not_false, beq_eq_false_iff_ne, bne_eq_false_iff_eq, List.length_append, List.length_cons, List.length_nil, List.append_nil, Nat.zero_add, decide_true, decide_false, eq_self_iff_true, Prod.eta]
  simp [hk]

set_option maxRecDepth 100000 in
theorem laws_FnExactFileSpan.eq (i : El (lawCon .str [.one]).I) (x : El (lawCon .str [.one]).A) : vc tab (gam [(48, c_spec_FileSpan), (49, c_impl_FileSpan)] [] eqs) (laws_FnExactFileSpan.L x) (match Try.f11.body with | some c => c | none => .skip) 1 (initSt (lawCon .str [.one]) Try.f11.ntmps i x) (bodyK tab (lawCon .str [.one]) Try.f11.results.toList [4] i x) = laws_FnExactFileSpan.F x := by kernel_rfl
theorem laws_FnExactFileSpan.ok : ConOk Try.prog 11 (lawCon .str [.one]) :=
  conOk_of_eq (con := (lawCon .str [.one])) (tab := tab) (Γ := (gam [(48, c_spec_FileSpan), (49, c_impl_FileSpan)] [] eqs)) (fn := Try.f11) (c := (match Try.f11.body with | some c => c | none => .skip)) (fun i x => laws_FnExactFileSpan.L x) (fun i x => laws_FnExactFileSpan.F x) rfl tabOk (gam_cons ⟨_, Try.func48, rfl, rfl⟩ spec_FileSpan.ok (gam_cons ⟨_, Try.func49, rfl, rfl⟩ impl_FileSpan.ok (gam_nil _ [] eqsOk))) Try.func11 rfl [4] (by kernel_rfl) laws_FnExactFileSpan.eq fun i x h hi hw => laws_FnExactFileSpan.pure x h hw

end Go.Proofs.Ythjlommbnfooaaa.B
