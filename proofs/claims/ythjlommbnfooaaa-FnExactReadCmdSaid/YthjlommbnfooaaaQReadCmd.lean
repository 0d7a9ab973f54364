/- What the law computes. -/
import Derived.Test.YthjlommbnfooaaaCLaw
import Derived.Test.YthjlommbnfooaaaCOp
import Derived.Test.YthjlommbnfooaaaCTCmd
namespace Go.Proofs.Ythjlommbnfooaaa.B
set_option linter.unusedVariables false
set_option linter.unusedSimpArgs false
open Go Go.Proofs.Ythjlommbnfooaaa.Bv

def laws_FnExactReadCmd.F  (a0 : (List UInt8)) : Prop := (caseB (decide (((List.length a0 : Nat) : Int) > (1048576 : Int))) (((true, ((), ())) : Bool × (Unit × Unit)) = (true, ((), ()))) ((pStr a0) ∧ ∀ (r1 : ((Int × (Int × (Int × ((List UInt8) × (Int × (Int × (List UInt8))))))) × Bool) × (Unit × Unit)), ((r1 : ((Int × (Int × (Int × ((List UInt8) × (Int × (Int × (List UInt8))))))) × Bool) × (Unit × Unit)) = ((fReadCmd a0), ((), ()))) → ((pStr a0) ∧ ∀ (r2 : ((Int × (Int × (Int × ((List UInt8) × (Int × (Int × (List UInt8))))))) × Bool) × (Unit × Unit)), ((r2 : ((Int × (Int × (Int × ((List UInt8) × (Int × (Int × (List UInt8))))))) × Bool) × (Unit × Unit)) = ((fReadCmd a0), ((), ()))) → (True ∧ ∀ (r3 : Bool × (Unit × Unit)), ((r3 : Bool × (Unit × Unit)) = ((fEq_Cmd (r2.1.1.1, (r2.1.1.2.1, (r2.1.1.2.2.1, (r2.1.1.2.2.2.1, (r2.1.1.2.2.2.2.1, (r2.1.1.2.2.2.2.2.1, r2.1.1.2.2.2.2.2.2)))))) (r1.1.1.1, (r1.1.1.2.1, (r1.1.1.2.2.1, (r1.1.1.2.2.2.1, (r1.1.1.2.2.2.2.1, (r1.1.1.2.2.2.2.2.1, r1.1.1.2.2.2.2.2.2))))))), ((), ()))) → (caseB (!r3.1) (((false, ((), ())) : Bool × (Unit × Unit)) = (true, ((), ()))) (caseB (!(r2.1.2 == r1.1.2)) (((false, ((), ())) : Bool × (Unit × Unit)) = (true, ((), ()))) (((true, ((), ())) : Bool × (Unit × Unit)) = (true, ((), ())))))))))
def laws_FnExactReadCmd.L  (a0 : (List UInt8)) : Nat → Option LoopAnn := fun p => Go.Proofs.Ythjlommbnfooaaa.Bv.look p []

theorem laws_FnExactReadCmd.pure  (a0 : (List UInt8)) (h : WfD .str a0) (hw : Wf (lawCon .str [.one]).A a0) : laws_FnExactReadCmd.F a0 := by
  unfold laws_FnExactReadCmd.F
  have hk : pStr a0 := h
  simp only [forall_eq, true_and, and_true, caseB_iff, Prod.mk.injEq, decide_eq_true_eq, decide_eq_false_iff_not, Bool.not_eq_true', Bool.not_eq_false', bne_iff_ne, ne_eq, beq_iff_eq, Bool.not_true, Bool.not_false, beq_eq_false_iff_ne, bne_eq_false_iff_eq, List.length_append, List.length_cons, List.length_nil, List.append_nil, Nat.zero_add, decide_true, decide_false, eq_self_iff_true, Prod.eta]
  have he : fEq_Cmd (fReadCmd a0).1 (fReadCmd a0).1 = true := by simp [fEq_Cmd]
  simp [hk, he]

set_option maxRecDepth 100000 in
theorem laws_FnExactReadCmd.eq (i : El (lawCon .str [.one]).I) (x : El (lawCon .str [.one]).A) : vc tab (gam [(50, c_spec_ReadCmd), (51, c_impl_ReadCmd), (52, c_laws_eqCmd)] [] eqs) (laws_FnExactReadCmd.L x) (match Try.f12.body with | some c => c | none => .skip) 1 (initSt (lawCon .str [.one]) Try.f12.ntmps i x) (bodyK tab (lawCon .str [.one]) Try.f12.results.toList [4] i x) = laws_FnExactReadCmd.F x := by kernel_rfl
theorem laws_FnExactReadCmd.ok : ConOk Try.prog 12 (lawCon .str [.one]) :=
  conOk_of_eq (con := (lawCon .str [.one])) (tab := tab) (Γ := (gam [(50, c_spec_ReadCmd), (51, c_impl_ReadCmd), (52, c_laws_eqCmd)] [] eqs)) (fn := Try.f12) (c := (match Try.f12.body with | some c => c | none => .skip)) (fun i x => laws_FnExactReadCmd.L x) (fun i x => laws_FnExactReadCmd.F x) rfl tabOk (gam_cons ⟨_, Try.func50, rfl, rfl⟩ spec_ReadCmd.ok (gam_cons ⟨_, Try.func51, rfl, rfl⟩ impl_ReadCmd.ok (gam_cons ⟨_, Try.func52, rfl, rfl⟩ laws_eqCmd.ok (gam_nil _ [] eqsOk)))) Try.func12 rfl [4] (by kernel_rfl) laws_FnExactReadCmd.eq fun i x h hi hw => laws_FnExactReadCmd.pure x h hw

end Go.Proofs.Ythjlommbnfooaaa.B
