/- What the law computes. -/
import Derived.Test.YthkghdmpkdpnkaaCMrgB
import Derived.Test.YthkghdmpkdpnkaaCLaw
import Derived.Test.YthkghdmpkdpnkaaCTPoint
namespace Go.Proofs.Ythkghdmpkdpnkaa.B
set_option linter.unusedVariables false
set_option linter.unusedSimpArgs false
open Go Go.Proofs.Ythkghdmpkdpnkaa.Bv

theorem cL_two3 : ∀ l : List (Int × Int), cL c_mPoint l = 2 * l.length
  | [] => by simp [cL]
  | x :: l => by rw [cL_cons, cL_two3 l, show c_mPoint x = 2 from rfl, List.length_cons]; omega
theorem mergeT_len (a b : List Pt) : (fMergeT a b).1.length ≤ 60 := by
  unfold fMergeT; split
  · rename_i h; exact h.2.2
  · simp
def laws_FnExactMerge.F  (a0 : (List (Int × Int))) (a1 : (List (Int × Int))) : Prop := ((pSz_PointS a0 1048576) ∧ ∀ r1, (Eq r1 ((fSz_PointS a0 1048576), ((), ()))) → (caseB (decide (r1.1 < (0 : Int))) (Eq (true, ((), ())) (true, ((), ()))) ((pSz_PointS a1 r1.1) ∧ ∀ r2, (Eq r2 ((fSz_PointS a1 r1.1), ((), ()))) → (caseB (decide (r2.1 < (0 : Int))) (Eq (true, ((), ())) (true, ((), ()))) ((pTo_PointS a0) ∧ ∀ r3, (Eq r3 ((fTo_PointS a0), ((), ()))) → ((pTo_PointS a1) ∧ ∀ r4, (Eq r4 ((fTo_PointS a1), ((), ()))) → (True ∧ ∀ r5, (Eq r5 ((fMergeT r3.1 r4.1), ((), ()))) → ((pTo_PointS a0) ∧ ∀ r6, (Eq r6 ((fTo_PointS a0), ((), ()))) → ((pTo_PointS a1) ∧ ∀ r7, (Eq r7 ((fTo_PointS a1), ((), ()))) → (True ∧ ∀ r8, (Eq r8 ((fMergeT r6.1 r7.1), ((), ()))) → (True ∧ ∀ r9, (Eq r9 ((fEq_PointS r8.1.1 r5.1.1), ((), ()))) → (caseB (!r9.1) (Eq (false, ((), ())) (true, ((), ()))) (caseB (!(r8.1.2 == r5.1.2)) (Eq (false, ((), ())) (true, ((), ()))) ((pTo_PointS a0) ∧ ∀ r10, (Eq r10 ((fTo_PointS a0), ((), ()))) → (True ∧ ∀ r11, (Eq r11 ((fEq_PointS r6.1 r10.1), ((), ()))) → (caseB (!r11.1) (Eq (false, ((), ())) (true, ((), ()))) ((pTo_PointS a1) ∧ ∀ r12, (Eq r12 ((fTo_PointS a1), ((), ()))) → (True ∧ ∀ r13, (Eq r13 ((fEq_PointS r7.1 r12.1), ((), ()))) → (caseB (!r13.1) (Eq (false, ((), ())) (true, ((), ()))) ((pMk_PointS r6.1 1) ∧ ∀ r14, (Eq r14 ((fMk_PointS r6.1 1).1, ((), (fMk_PointS r6.1 1).2))) → ((pMk_PointS r7.1 r14.1) ∧ ∀ r15, (Eq r15 ((fMk_PointS r7.1 r14.1).1, ((), (fMk_PointS r7.1 r14.1).2))) → (caseB (decide (r15.1 < (0 : Int))) (Eq (false, ((), ())) (true, ((), ()))) (True ∧ ∀ r16, (Eq r16 ((fEq_PointS r8.1.1 r5.1.1), ((), ()))) → (caseB (!r16.1) (Eq (false, ((), ())) (true, ((), ()))) (caseB (!(r8.1.2 == r5.1.2)) (Eq (false, ((), ())) (true, ((), ()))) ((pMk_PointS r8.1.1 1) ∧ ∀ r17, (Eq r17 ((fMk_PointS r8.1.1 1).1, ((), (fMk_PointS r8.1.1 1).2))) → ((pMk_PointS r17.2.2 1) ∧ ∀ r18, (Eq r18 ((fHd_PointS r17.2.2 1), ((), ()))) → (caseB (decide (r18.1 < (0 : Int))) (Eq (false, ((), ())) (true, ((), ()))) (caseB (r18.1 != r17.1) (Eq (false, ((), ())) (true, ((), ()))) ((pTo_PointS a0) ∧ ∀ r19, (Eq r19 ((fTo_PointS a0), ((), ()))) → ((pTo_PointS a1) ∧ ∀ r20, (Eq r20 ((fTo_PointS a1), ((), ()))) → (True ∧ ∀ r21, (Eq r21 ((fMergeT r19.1 r20.1), ((), ()))) → (True ∧ ∀ r22, (Eq r22 ((fEq_PointS r21.1.1 r5.1.1), ((), ()))) → (caseB (!r22.1) (Eq (false, ((), ())) (true, ((), ()))) (caseB (!(r21.1.2 == r5.1.2)) (Eq (false, ((), ())) (true, ((), ()))) ((pMk_PointS r17.2.2 1) ∧ ∀ r23, (Eq r23 ((fHd_PointS r17.2.2 1), ((), ()))) → (caseB (decide (r23.1 < (0 : Int))) (Eq (false, ((), ())) (true, ((), ()))) (caseB (r23.1 != r17.1) (Eq (false, ((), ())) (true, ((), ()))) (Eq (true, ((), ())) (true, ((), ())))))))))))))))))))))))))))))))))))))))))

theorem laws_FnExactMerge.pure  (a0 : (List (Int × Int))) (a1 : (List (Int × Int))) (h : WfD (.pair (.list (.pair (.int .i64) (.int .i64))) (.list (.pair (.int .i64) (.int .i64)))) (a0, a1)) (hw : Wf (lawCon (.pair (.list (.pair (.int .i64) (.int .i64))) (.list (.pair (.int .i64) (.int .i64)))) [.one, .one]).A (a0, a1)) : laws_FnExactMerge.F a0 a1 := by
  unfold laws_FnExactMerge.F
  simp only [forall_eq, true_and, and_true, caseB_iff, Prod.mk.injEq, decide_eq_true_eq, decide_eq_false_iff_not, Bool.not_eq_true', Bool.not_eq_false', bne_iff_ne, ne_eq, beq_iff_eq, Bool.not_true, Bool.not_false, beq_eq_false_iff_ne, bne_eq_false_iff_eq, List.length_append, List.length_cons, List.length_nil, List.append_nil, Nat.zero_add, decide_true, decide_false, eq_self_iff_true, fSz_PointS, fTo_PointS, Prod.eta]
  have w0 : WfD (.list (.pair (.int .i64) (.int .i64))) a0 := h.1
  have w1 : WfD (.list (.pair (.int .i64) (.int .i64))) a1 := h.2
  refine ⟨⟨w0, by omega, by omega⟩, fun _ => trivial, fun h1 => ?_⟩
  have hn0 : a0.length ≤ 1048576 := sz_pos2 h1
  have e0 : fSz (List.length a0) 1048576 = 1048576 - (a0.length : Int) := fSz_yes (by omega)
  simp only [e0]
  refine ⟨⟨w1, by omega, by omega⟩, fun _ => trivial, fun h2 => ?_⟩
  have hn1 : (a1.length : Int) ≤ 1048576 - (a0.length : Int) := by
    by_cases hc : (1048576 - (a0.length : Int)) < (a1.length : Int)
    · rw [fSz_no hc] at h2; exact absurd (by decide) h2
    · omega
  have hp0 : pTo_PointS a0 := hn0
  have hp1 : pTo_PointS a1 := by unfold pTo_PointS; omega
  have hg := mergeT_len a0 a1
  have hc0 := cL_pos pos_Point (fMergeT a0 a1).1
  have hc := cL_two3 (fMergeT a0 a1).1
  have ha := cL_two3 a0
  have hb := cL_two3 a1
  obtain ⟨o1, o2⟩ := oL_mL ok_Point (fMergeT a0 a1).1 1
  have hm0 : pMk_PointS a0 1 := ⟨by omega, by omega⟩
  have hm1 : pMk_PointS a1 (1 + cL c_mPoint a0) := ⟨by omega, by omega⟩
  have hm2 : pMk_PointS (fMergeT a0 a1).1 1 := ⟨by omega, by omega⟩
  have hm3 : pMk_PointS (mL c_mPoint m_Point (fMergeT a0 a1).1 1) 1 := ⟨by omega, by rw [o2]; omega⟩
  have he : ∀ x : List (Int × Int), fEq_PointS x x = true := fun x => by simp [fEq_PointS]
  have hh : fHd (cL c_mPoint (mL c_mPoint m_Point (fMergeT a0 a1).1 1)) (oL c_mPoint o_Point (mL c_mPoint m_Point (fMergeT a0 a1).1 1) 1) 1 = 1 + cL c_mPoint (fMergeT a0 a1).1 := by rw [fHd_yes o1, o2]
  have hk1 : ¬ (1 + cL c_mPoint a0 + cL c_mPoint a1 < 0) := by omega
  have hk2 : ¬ (1 + cL c_mPoint (fMergeT a0 a1).1 < 0) := by omega
  simp only [fMk_PointS, fHd_PointS]
  simp [hp0, hp1, hm0, hm1, hm2, hm3, he, hh, hk1, hk2]

set_option maxRecDepth 100000 in
theorem laws_FnExactMerge.eq : EqS (lawCon (.pair (.list (.pair (.int .i64) (.int .i64))) (.list (.pair (.int .i64) (.int .i64)))) [.one, .one]) Try.f3 [4] [laws_szPointS.e, spec_Merge.e, laws_toPointS.e, impl_Merge.e, laws_eqPointS.e, laws_markPointS.e, laws_heldPointS.e] [] noL (fun i x => laws_FnExactMerge.F x.1 x.2) := by intro i x; kernel_rfl
theorem laws_FnExactMerge.ok : ConOk Try.prog 3 (lawCon (.pair (.list (.pair (.int .i64) (.int .i64))) (.list (.pair (.int .i64) (.int .i64)))) [.one, .one]) := okOf laws_FnExactMerge.eq Try.func3 rfl (by kernel_rfl) fun i x h hi hw => laws_FnExactMerge.pure x.1 x.2 h hw
def laws_FnExactMerge.e : GE := ⟨3, (lawCon (.pair (.list (.pair (.int .i64) (.int .i64))) (.list (.pair (.int .i64) (.int .i64)))) [.one, .one]), ⟨_, Try.func3, rfl, rfl⟩, laws_FnExactMerge.ok⟩

end Go.Proofs.Ythkghdmpkdpnkaa.B
