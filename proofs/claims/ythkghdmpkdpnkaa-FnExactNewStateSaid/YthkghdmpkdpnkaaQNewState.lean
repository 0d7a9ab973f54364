/- What the law computes. -/
import Derived.Test.YthkghdmpkdpnkaaCNew
import Derived.Test.YthkghdmpkdpnkaaCTState
namespace Go.Proofs.Ythkghdmpkdpnkaa.B
set_option linter.unusedVariables false
set_option linter.unusedSimpArgs false
open Go Go.Proofs.Ythkghdmpkdpnkaa.Bv

def laws_FnExactNewState.F  (a0 : Int) : Prop := (True ∧ ∀ r1, (Eq r1 ((fNewState a0), ((), ()))) → (True ∧ ∀ r2, (Eq r2 ((fNewState a0), ((), ()))) → (True ∧ ∀ r3, (Eq r3 ((fEq_State (r2.1.1.1, (r2.1.1.2.1, (r2.1.1.2.2.1, (r2.1.1.2.2.2.1, ((r2.1.1.2.2.2.2.1.1, (r2.1.1.2.2.2.2.1.2.1, r2.1.1.2.2.2.2.1.2.2)), r2.1.1.2.2.2.2.2))))) (r1.1.1.1, (r1.1.1.2.1, (r1.1.1.2.2.1, (r1.1.1.2.2.2.1, ((r1.1.1.2.2.2.2.1.1, (r1.1.1.2.2.2.2.1.2.1, r1.1.1.2.2.2.2.1.2.2)), r1.1.1.2.2.2.2.2)))))), ((), ()))) → (caseB (!r3.1) (Eq (false, ((), ())) (true, ((), ()))) (caseB (!(r2.1.2 == r1.1.2)) (Eq (false, ((), ())) (true, ((), ()))) ((pMk_State (r2.1.1.1, (r2.1.1.2.1, (r2.1.1.2.2.1, (r2.1.1.2.2.2.1, ((r2.1.1.2.2.2.2.1.1, (r2.1.1.2.2.2.2.1.2.1, r2.1.1.2.2.2.2.1.2.2)), r2.1.1.2.2.2.2.2))))) 1) ∧ ∀ r4, (Eq r4 ((fMk_State (r2.1.1.1, (r2.1.1.2.1, (r2.1.1.2.2.1, (r2.1.1.2.2.2.1, ((r2.1.1.2.2.2.2.1.1, (r2.1.1.2.2.2.2.1.2.1, r2.1.1.2.2.2.2.1.2.2)), r2.1.1.2.2.2.2.2))))) 1).1, ((), (fMk_State (r2.1.1.1, (r2.1.1.2.1, (r2.1.1.2.2.1, (r2.1.1.2.2.2.1, ((r2.1.1.2.2.2.2.1.1, (r2.1.1.2.2.2.2.1.2.1, r2.1.1.2.2.2.2.1.2.2)), r2.1.1.2.2.2.2.2))))) 1).2))) → ((pMk_State (r2.1.1.1, (r2.1.1.2.1, (r2.1.1.2.2.1, (r4.2.2.1, ((r2.1.1.2.2.2.2.1.1, (r4.2.2.2.1, r4.2.2.2.2.1)), r4.2.2.2.2.2))))) 1) ∧ ∀ r5, (Eq r5 ((fHd_State (r2.1.1.1, (r2.1.1.2.1, (r2.1.1.2.2.1, (r4.2.2.1, ((r2.1.1.2.2.2.2.1.1, (r4.2.2.2.1, r4.2.2.2.2.1)), r4.2.2.2.2.2))))) 1), ((), ()))) → (caseB (decide (r5.1 < (0 : Int))) (Eq (false, ((), ())) (true, ((), ()))) (caseB (r5.1 != r4.1) (Eq (false, ((), ())) (true, ((), ()))) (True ∧ ∀ r6, (Eq r6 ((fNewState a0), ((), ()))) → (True ∧ ∀ r7, (Eq r7 ((fEq_State (r6.1.1.1, (r6.1.1.2.1, (r6.1.1.2.2.1, (r6.1.1.2.2.2.1, ((r6.1.1.2.2.2.2.1.1, (r6.1.1.2.2.2.2.1.2.1, r6.1.1.2.2.2.2.1.2.2)), r6.1.1.2.2.2.2.2))))) (r1.1.1.1, (r1.1.1.2.1, (r1.1.1.2.2.1, (r1.1.1.2.2.2.1, ((r1.1.1.2.2.2.2.1.1, (r1.1.1.2.2.2.2.1.2.1, r1.1.1.2.2.2.2.1.2.2)), r1.1.1.2.2.2.2.2)))))), ((), ()))) → (caseB (!r7.1) (Eq (false, ((), ())) (true, ((), ()))) (caseB (!(r6.1.2 == r1.1.2)) (Eq (false, ((), ())) (true, ((), ()))) ((pMk_State (r2.1.1.1, (r2.1.1.2.1, (r2.1.1.2.2.1, (r4.2.2.1, ((r2.1.1.2.2.2.2.1.1, (r4.2.2.2.1, r4.2.2.2.2.1)), r4.2.2.2.2.2))))) 1) ∧ ∀ r8, (Eq r8 ((fHd_State (r2.1.1.1, (r2.1.1.2.1, (r2.1.1.2.2.1, (r4.2.2.1, ((r2.1.1.2.2.2.2.1.1, (r4.2.2.2.1, r4.2.2.2.2.1)), r4.2.2.2.2.2))))) 1), ((), ()))) → (caseB (decide (r8.1 < (0 : Int))) (Eq (false, ((), ())) (true, ((), ()))) (caseB (r8.1 != r4.1) (Eq (false, ((), ())) (true, ((), ()))) (Eq (true, ((), ())) (true, ((), ())))))))))))))))))))

theorem laws_FnExactNewState.pure  (a0 : Int) (h : WfD (.int .i64) a0) (hw : Wf (lawCon (.int .i64) [.one]).A a0) : laws_FnExactNewState.F a0 := by
  unfold laws_FnExactNewState.F
  simp only [forall_eq, true_and, and_true, caseB_iff, Prod.mk.injEq, decide_eq_true_eq, decide_eq_false_iff_not, Bool.not_eq_true', Bool.not_eq_false', bne_iff_ne, ne_eq, beq_iff_eq, Bool.not_true, Bool.not_false, beq_eq_false_iff_ne, bne_eq_false_iff_eq, List.length_append, List.length_cons, List.length_nil, List.append_nil, Nat.zero_add, decide_true, decide_false, eq_self_iff_true]
  have hc : c_sState (fNewState a0).1 = 0 := by unfold fNewState; split <;> rfl
  have ho : ∀ k, m_sState (fNewState a0).1 k = ([], [], [], []) := fun k => by unfold fNewState; split <;> rfl
  have hm : pMk_State (fNewState a0).1 1 := ⟨by omega, by omega⟩
  have hz : ∀ x : (Int × (Int × (Int × ((List (Int × Int)) × ((Int × ((List ((List UInt8) × (List (Int × Int)))) × (List (List UInt8)))) × (List (Int × (Int × (Int × (Int × (Int × (List UInt8)))))))))))), x.2.2.2.1 = [] → x.2.2.2.2.1.2.1 = [] → x.2.2.2.2.1.2.2 = [] → x.2.2.2.2.2 = [] → fHd_State x 1 = 1 ∧ pMk_State x 1 ∧ c_sState x = 0 ∧ m_sState x 1 = ([], [], [], []) := fun x h1 h2 h3 h4 => by
    unfold fHd_State pMk_State c_sState o_sState m_sState; rw [h1, h2, h3, h4]; exact ⟨rfl, by decide, rfl, rfl⟩
  have hf : (fNewState a0).1.2.2.2.1 = [] ∧ (fNewState a0).1.2.2.2.2.1.2.1 = [] ∧ (fNewState a0).1.2.2.2.2.1.2.2 = [] ∧ (fNewState a0).1.2.2.2.2.2 = [] := by unfold fNewState; split <;> exact ⟨rfl, rfl, rfl, rfl⟩
  obtain ⟨f1, f2, f3, f4⟩ := hf
  obtain ⟨z1, z2, z3, z4⟩ := hz _ f1 f2 f3 f4
  simp only [fMk_State, z4, z3, fEq_State, decide_true]
  obtain ⟨y1, y2, y3, y4⟩ := hz ((fNewState a0).1.1, ((fNewState a0).1.2.1, ((fNewState a0).1.2.2.1, ([], (((fNewState a0).1.2.2.2.2.1.1, ([], [])), []))))) rfl rfl rfl rfl
  simp [hm, y1, y2]

set_option maxRecDepth 100000 in
theorem laws_FnExactNewState.eq : EqS (lawCon (.int .i64) [.one]) Try.f5 [4] [spec_NewState.e, impl_NewState.e, laws_eqState.e, laws_markState.e, laws_heldState.e] [] noL (fun i x => laws_FnExactNewState.F x) := by intro i x; kernel_rfl
theorem laws_FnExactNewState.ok : ConOk Try.prog 5 (lawCon (.int .i64) [.one]) := okOf laws_FnExactNewState.eq Try.func5 rfl (by kernel_rfl) fun i x h hi hw => laws_FnExactNewState.pure x h hw
def laws_FnExactNewState.e : GE := ⟨5, (lawCon (.int .i64) [.one]), ⟨_, Try.func5, rfl, rfl⟩, laws_FnExactNewState.ok⟩

end Go.Proofs.Ythkghdmpkdpnkaa.B
