/- What the law computes. -/
import Derived.Test.YthjlommbnfooaaaCLaw
import Derived.Test.YthjlommbnfooaaaCOp
import Derived.Test.YthjlommbnfooaaaCTOp
namespace Go.Proofs.Ythjlommbnfooaaa.B
set_option linter.unusedVariables false
set_option linter.unusedSimpArgs false
open Go Go.Proofs.Ythjlommbnfooaaa.Bv

def laws_FnExactShowOp.F  (a0 : (Int × ((List UInt8) × (Int × (Int × (List UInt8)))))) : Prop := ((pSz_Op (a0.1, (a0.2.1, (a0.2.2.1, (a0.2.2.2.1, a0.2.2.2.2)))) 1048576) ∧ ∀ (r1 : Int × (Unit × Unit)), ((r1 : Int × (Unit × Unit)) = ((fSz_Op (a0.1, (a0.2.1, (a0.2.2.1, (a0.2.2.2.1, a0.2.2.2.2)))) 1048576), ((), ()))) → (caseB (decide (r1.1 < (0 : Int))) (((true, ((), ())) : Bool × (Unit × Unit)) = (true, ((), ()))) ((pTo_Op (a0.1, (a0.2.1, (a0.2.2.1, (a0.2.2.2.1, a0.2.2.2.2))))) ∧ ∀ (r2 : (Int × ((List UInt8) × (Int × (Int × (List UInt8))))) × (Unit × Unit)), ((r2 : (Int × ((List UInt8) × (Int × (Int × (List UInt8))))) × (Unit × Unit)) = ((fTo_Op (a0.1, (a0.2.1, (a0.2.2.1, (a0.2.2.2.1, a0.2.2.2.2))))), ((), ()))) → ((pOp (r2.1.1, (r2.1.2.1, (r2.1.2.2.1, (r2.1.2.2.2.1, r2.1.2.2.2.2))))) ∧ ∀ (r3 : (List UInt8) × (Unit × Unit)), ((r3 : (List UInt8) × (Unit × Unit)) = ((fShowOp (r2.1.1, (r2.1.2.1, (r2.1.2.2.1, (r2.1.2.2.2.1, r2.1.2.2.2.2))))), ((), ()))) → ((pTo_Op (a0.1, (a0.2.1, (a0.2.2.1, (a0.2.2.2.1, a0.2.2.2.2))))) ∧ ∀ (r4 : (Int × ((List UInt8) × (Int × (Int × (List UInt8))))) × (Unit × Unit)), ((r4 : (Int × ((List UInt8) × (Int × (Int × (List UInt8))))) × (Unit × Unit)) = ((fTo_Op (a0.1, (a0.2.1, (a0.2.2.1, (a0.2.2.2.1, a0.2.2.2.2))))), ((), ()))) → ((pOp (r4.1.1, (r4.1.2.1, (r4.1.2.2.1, (r4.1.2.2.2.1, r4.1.2.2.2.2))))) ∧ ∀ (r5 : (List UInt8) × (Unit × Unit)), ((r5 : (List UInt8) × (Unit × Unit)) = ((fShowOp (r4.1.1, (r4.1.2.1, (r4.1.2.2.1, (r4.1.2.2.2.1, r4.1.2.2.2.2))))), ((), ()))) → (caseB (!(r5.1 == r3.1)) (((false, ((), ())) : Bool × (Unit × Unit)) = (true, ((), ()))) (((true, ((), ())) : Bool × (Unit × Unit)) = (true, ((), ()))))))))))
def laws_FnExactShowOp.L  (a0 : (Int × ((List UInt8) × (Int × (Int × (List UInt8)))))) : Nat → Option LoopAnn := fun p => Go.Proofs.Ythjlommbnfooaaa.Bv.look p []

theorem laws_FnExactShowOp.pure  (a0 : (Int × ((List UInt8) × (Int × (Int × (List UInt8)))))) (h : WfD (.pair (.int .i64) (.pair .str (.pair (.int .i64) (.pair (.int .i64) .str)))) a0) (hw : Wf (lawCon (.pair (.int .i64) (.pair .str (.pair (.int .i64) (.pair (.int .i64) .str)))) [.agg 5]).A a0) : laws_FnExactShowOp.F a0 := by
  unfold laws_FnExactShowOp.F
  have hk : pOp a0 := h.2.1
  simp only [forall_eq, true_and, and_true, caseB_iff, Prod.mk.injEq, decide_eq_true_eq, decide_eq_false_iff_not, Bool.not_eq_true', Bool.not_eq_false', bne_iff_ne, ne_eq, beq_iff_eq, Bool.not_true, Bool.not_false, beq_eq_false_iff_ne, bne_eq_false_iff_eq, List.length_append, List.length_cons, List.length_nil, List.append_nil, Nat.zero_add, decide_true, decide_false, eq_self_iff_true, Prod.eta, fSz_Op, fTo_Op]
  refine ⟨⟨h, by omega, by omega⟩, fun _ => trivial, fun h1 => ?_⟩
  have hp : pTo_Op a0 := sz_pos2 h1
  simp [hp, hk]

set_option maxRecDepth 100000 in
theorem laws_FnExactShowOp.eq (i : El (lawCon (.pair (.int .i64) (.pair .str (.pair (.int .i64) (.pair (.int .i64) .str)))) [.agg 5]).I) (x : El (lawCon (.pair (.int .i64) (.pair .str (.pair (.int .i64) (.pair (.int .i64) .str)))) [.agg 5]).A) : vc tab (gam [(35, c_laws_szOp), (37, c_laws_toOp), (39, c_spec_ShowOp), (40, c_impl_ShowOp)] [] eqs) (laws_FnExactShowOp.L x) (match Try.f8.body with | some c => c | none => .skip) 1 (initSt (lawCon (.pair (.int .i64) (.pair .str (.pair (.int .i64) (.pair (.int .i64) .str)))) [.agg 5]) Try.f8.ntmps i x) (bodyK tab (lawCon (.pair (.int .i64) (.pair .str (.pair (.int .i64) (.pair (.int .i64) .str)))) [.agg 5]) Try.f8.results.toList [4] i x) = laws_FnExactShowOp.F x := by kernel_rfl
theorem laws_FnExactShowOp.ok : ConOk Try.prog 8 (lawCon (.pair (.int .i64) (.pair .str (.pair (.int .i64) (.pair (.int .i64) .str)))) [.agg 5]) :=
  conOk_of_eq (con := (lawCon (.pair (.int .i64) (.pair .str (.pair (.int .i64) (.pair (.int .i64) .str)))) [.agg 5])) (tab := tab) (Γ := (gam [(35, c_laws_szOp), (37, c_laws_toOp), (39, c_spec_ShowOp), (40, c_impl_ShowOp)] [] eqs)) (fn := Try.f8) (c := (match Try.f8.body with | some c => c | none => .skip)) (fun i x => laws_FnExactShowOp.L x) (fun i x => laws_FnExactShowOp.F x) rfl tabOk (gam_cons ⟨_, Try.func35, rfl, rfl⟩ laws_szOp.ok (gam_cons ⟨_, Try.func37, rfl, rfl⟩ laws_toOp.ok (gam_cons ⟨_, Try.func39, rfl, rfl⟩ spec_ShowOp.ok (gam_cons ⟨_, Try.func40, rfl, rfl⟩ impl_ShowOp.ok (gam_nil _ [] eqsOk))))) Try.func8 rfl [4] (by kernel_rfl) laws_FnExactShowOp.eq fun i x h hi hw => laws_FnExactShowOp.pure x h hw

end Go.Proofs.Ythjlommbnfooaaa.B
