/- What the law computes. -/
import Derived.Test.YtcbehcpmojnnfaaCSplit
namespace Go.Proofs.Ytcbehcpmojnnfaa.B
set_option linter.unusedVariables false
set_option linter.unusedSimpArgs false
open Go Go.Proofs.Ytcbehcpmojnnfaa.Bv

theorem cL_set {α : Type} (c : α → Int) (d y : α) {l : List α} {i : Nat} (h : i < l.length) : cL c (l.set i y) = cL c l - c (l.getD i d) + c y := by
  have e : l.set i y = l.take i ++ y :: l.drop (i + 1) := by rw [List.set_eq_take_append_cons_drop, if_pos h]
  rw [e, cL_append, cL_cons, (cL_split c d h).2]; omega
theorem c_mPoint_two (x : Int × Int) : c_mPoint x = 2 := rfl
theorem cL_two : ∀ l : List (Int × Int), cL c_mPoint l = 2 * l.length
  | [] => by simp [cL]
  | x :: l => by rw [cL_cons, cL_two l, c_mPoint_two, List.length_cons]; omega
theorem spAdd_c (out : List Part) (p : Pt) : cL c_mPart (spAdd out p) ≤ cL c_mPart out + 3 := by
  unfold spAdd
  split
  · rename_i h
    have hp : 0 < out.length := List.length_pos_iff.2 h.1
    rw [cL_set c_mPart (0, []) _ (by omega)]
    simp only [c_mPart, cL_two, List.length_append, List.length_cons, List.length_nil]; omega
  · rw [cL_append]; simp [cL, c_mPart, c_mPoint]
theorem fold_c : ∀ (l : List Pt) (out : List Part), cL c_mPart (l.foldl spAdd out) ≤ cL c_mPart out + 3 * l.length
  | [], out => by simp
  | p :: l, out => by
    have h1 := fold_c l (spAdd out p)
    have h2 := spAdd_c out p
    rw [List.foldl_cons, List.length_cons]; omega
theorem fSplit_c (l : List Pt) : cL c_mPart (fSplit l) ≤ 180 := by
  unfold fSplit
  split
  · rename_i h
    have h1 := fold_c l []
    have h2 := fPtsOk_len h
    have h3 : cL c_mPart ([] : List Part) = 0 := rfl
    omega
  · simp [cL]
def laws_FnExactSplit.F  (a0 : (List (Int × Int))) : Prop := ((pSz_PointS a0 1048576) ∧ ∀ (r1 : Int × (Unit × Unit)), ((r1 : Int × (Unit × Unit)) = ((fSz_PointS a0 1048576), ((), ()))) → (caseB (decide (r1.1 < (0 : Int))) (((true, ((), ())) : Bool × (Unit × Unit)) = (true, ((), ()))) ((pTo_PointS a0) ∧ ∀ (r2 : (List (Int × Int)) × (Unit × Unit)), ((r2 : (List (Int × Int)) × (Unit × Unit)) = ((fTo_PointS a0), ((), ()))) → (True ∧ ∀ (r3 : (List (Int × (List (Int × Int)))) × (Unit × Unit)), ((r3 : (List (Int × (List (Int × Int)))) × (Unit × Unit)) = ((fSplit r2.1), ((), ()))) → ((pTo_PointS a0) ∧ ∀ (r4 : (List (Int × Int)) × (Unit × Unit)), ((r4 : (List (Int × Int)) × (Unit × Unit)) = ((fTo_PointS a0), ((), ()))) → (True ∧ ∀ (r5 : (List (Int × (List (Int × Int)))) × (Unit × Unit)), ((r5 : (List (Int × (List (Int × Int)))) × (Unit × Unit)) = ((fSplit r4.1), ((), ()))) → (True ∧ ∀ (r6 : Bool × (Unit × Unit)), ((r6 : Bool × (Unit × Unit)) = ((fEq_PartS r5.1 r3.1), ((), ()))) → (caseB (!r6.1) (((false, ((), ())) : Bool × (Unit × Unit)) = (true, ((), ()))) ((pTo_PointS a0) ∧ ∀ (r7 : (List (Int × Int)) × (Unit × Unit)), ((r7 : (List (Int × Int)) × (Unit × Unit)) = ((fTo_PointS a0), ((), ()))) → (True ∧ ∀ (r8 : Bool × (Unit × Unit)), ((r8 : Bool × (Unit × Unit)) = ((fEq_PointS r4.1 r7.1), ((), ()))) → (caseB (!r8.1) (((false, ((), ())) : Bool × (Unit × Unit)) = (true, ((), ()))) ((pMk_PointS r4.1 1) ∧ ∀ (r9 : Int × (Unit × (List (Int × Int)))), ((r9 : Int × (Unit × (List (Int × Int)))) = ((fMk_PointS r4.1 1).1, ((), (fMk_PointS r4.1 1).2))) → (caseB (decide (r9.1 < (0 : Int))) (((false, ((), ())) : Bool × (Unit × Unit)) = (true, ((), ()))) (True ∧ ∀ (r10 : Bool × (Unit × Unit)), ((r10 : Bool × (Unit × Unit)) = ((fEq_PartS r5.1 r3.1), ((), ()))) → (caseB (!r10.1) (((false, ((), ())) : Bool × (Unit × Unit)) = (true, ((), ()))) ((pMk_PartS r5.1 1) ∧ ∀ (r11 : Int × (Unit × (List (Int × (List (Int × Int)))))), ((r11 : Int × (Unit × (List (Int × (List (Int × Int)))))) = ((fMk_PartS r5.1 1).1, ((), (fMk_PartS r5.1 1).2))) → ((pMk_PartS r11.2.2 1) ∧ ∀ (r12 : Int × (Unit × Unit)), ((r12 : Int × (Unit × Unit)) = ((fHd_PartS r11.2.2 1), ((), ()))) → (caseB (decide (r12.1 < (0 : Int))) (((false, ((), ())) : Bool × (Unit × Unit)) = (true, ((), ()))) (caseB (r12.1 != r11.1) (((false, ((), ())) : Bool × (Unit × Unit)) = (true, ((), ()))) ((pTo_PointS a0) ∧ ∀ (r13 : (List (Int × Int)) × (Unit × Unit)), ((r13 : (List (Int × Int)) × (Unit × Unit)) = ((fTo_PointS a0), ((), ()))) → (True ∧ ∀ (r14 : (List (Int × (List (Int × Int)))) × (Unit × Unit)), ((r14 : (List (Int × (List (Int × Int)))) × (Unit × Unit)) = ((fSplit r13.1), ((), ()))) → (True ∧ ∀ (r15 : Bool × (Unit × Unit)), ((r15 : Bool × (Unit × Unit)) = ((fEq_PartS r14.1 r3.1), ((), ()))) → (caseB (!r15.1) (((false, ((), ())) : Bool × (Unit × Unit)) = (true, ((), ()))) ((pMk_PartS r11.2.2 1) ∧ ∀ (r16 : Int × (Unit × Unit)), ((r16 : Int × (Unit × Unit)) = ((fHd_PartS r11.2.2 1), ((), ()))) → (caseB (decide (r16.1 < (0 : Int))) (((false, ((), ())) : Bool × (Unit × Unit)) = (true, ((), ()))) (caseB (r16.1 != r11.1) (((false, ((), ())) : Bool × (Unit × Unit)) = (true, ((), ()))) (((true, ((), ())) : Bool × (Unit × Unit)) = (true, ((), ())))))))))))))))))))))))))))))
def laws_FnExactSplit.L  (a0 : (List (Int × Int))) : Nat → Option LoopAnn := fun p => Go.Proofs.Ytcbehcpmojnnfaa.Bv.look p []

theorem laws_FnExactSplit.pure  (a0 : (List (Int × Int))) (h : WfD (.list (.pair (.int .i64) (.int .i64))) a0) (hw : Wf (lawCon (.list (.pair (.int .i64) (.int .i64))) [.one]).A a0) : laws_FnExactSplit.F a0 := by
  unfold laws_FnExactSplit.F
  have hl : a0.length ≤ 9223372036854775807 := h.1
  simp only [forall_eq, true_and, and_true, caseB_iff, Prod.mk.injEq, decide_eq_true_eq, decide_eq_false_iff_not, Bool.not_eq_true', Bool.not_eq_false', bne_iff_ne, ne_eq, beq_iff_eq, Bool.not_true, Bool.not_false, beq_eq_false_iff_ne, bne_eq_false_iff_eq, List.length_append, List.length_cons, List.length_nil, List.append_nil, Nat.zero_add, decide_true, decide_false, eq_self_iff_true, fSz_PointS, fTo_PointS, fMk_PointS, fMk_PartS, fHd_PartS]
  have hc := fSplit_c a0
  have hc0 := cL_pos pos_Part (fSplit a0)
  obtain ⟨o1, o2⟩ := oL_mL ok_Part (fSplit a0) 1
  have o3 : oL c_mPart o_Part (mL c_mPart m_Part (fSplit a0) 1) 1 = true := o1
  refine ⟨⟨h, by omega, by omega⟩, fun _ => trivial, fun h1 => ?_⟩
  have hn : a0.length ≤ 1048576 := by
    by_cases hc : (1048576 : Int) < (a0.length : Int)
    · rw [fSz_no hc] at h1; exact absurd (by decide) h1
    · omega
  have hp : pTo_PointS a0 := hn
  have hm0 : pMk_PointS a0 1 := ⟨by omega, by rw [cL_two]; omega⟩
  have hm1 : pMk_PartS (fSplit a0) 1 := ⟨by omega, by omega⟩
  have hm2 : pMk_PartS (mL c_mPart m_Part (fSplit a0) 1) 1 := ⟨by omega, by rw [o2]; omega⟩
  have he : fEq_PartS (fSplit a0) (fSplit a0) = true := by simp [fEq_PartS]
  have he2 : fEq_PointS a0 a0 = true := by simp [fEq_PointS]
  have hh : fHd (cL c_mPart (mL c_mPart m_Part (fSplit a0) 1)) (oL c_mPart o_Part (mL c_mPart m_Part (fSplit a0) 1) 1) 1 = 1 + cL c_mPart (fSplit a0) := by rw [fHd_yes o3, o2]
  have hk : ¬ (1 + cL c_mPoint a0 < 0) := by rw [cL_two]; omega
  simp [hp, hm0, hm1, hm2, he, he2, hh, hk]
  omega

set_option maxRecDepth 100000 in
theorem laws_FnExactSplit.eq (i : El (lawCon (.list (.pair (.int .i64) (.int .i64))) [.one]).I) (x : El (lawCon (.list (.pair (.int .i64) (.int .i64))) [.one]).A) : vc tab (gam [(51, c_laws_szPointS), (52, c_spec_Split), (53, c_laws_toPointS), (54, c_impl_Split), (55, c_laws_eqPartS), (56, c_laws_eqPointS), (57, c_laws_markPointS), (58, c_laws_markPartS), (59, c_laws_heldPartS)] []) (laws_FnExactSplit.L x) (match Try.f11.body with | some c => c | none => .skip) 1 (initSt (lawCon (.list (.pair (.int .i64) (.int .i64))) [.one]) Try.f11.ntmps i x) (bodyK tab (lawCon (.list (.pair (.int .i64) (.int .i64))) [.one]) Try.f11.results.toList [4] i x) = laws_FnExactSplit.F x := by kernel_rfl
theorem laws_FnExactSplit.ok : ConOk Try.prog 11 (lawCon (.list (.pair (.int .i64) (.int .i64))) [.one]) :=
  conOk_of_eq (con := (lawCon (.list (.pair (.int .i64) (.int .i64))) [.one])) (tab := tab) (Γ := (gam [(51, c_laws_szPointS), (52, c_spec_Split), (53, c_laws_toPointS), (54, c_impl_Split), (55, c_laws_eqPartS), (56, c_laws_eqPointS), (57, c_laws_markPointS), (58, c_laws_markPartS), (59, c_laws_heldPartS)] [])) (fn := Try.f11) (c := (match Try.f11.body with | some c => c | none => .skip)) (fun i x => laws_FnExactSplit.L x) (fun i x => laws_FnExactSplit.F x) rfl tabOk (gam_cons ⟨_, Try.func51, rfl, rfl⟩ laws_szPointS.ok (gam_cons ⟨_, Try.func52, rfl, rfl⟩ spec_Split.ok (gam_cons ⟨_, Try.func53, rfl, rfl⟩ laws_toPointS.ok (gam_cons ⟨_, Try.func54, rfl, rfl⟩ impl_Split.ok (gam_cons ⟨_, Try.func55, rfl, rfl⟩ laws_eqPartS.ok (gam_cons ⟨_, Try.func56, rfl, rfl⟩ laws_eqPointS.ok (gam_cons ⟨_, Try.func57, rfl, rfl⟩ laws_markPointS.ok (gam_cons ⟨_, Try.func58, rfl, rfl⟩ laws_markPartS.ok (gam_cons ⟨_, Try.func59, rfl, rfl⟩ laws_heldPartS.ok (gam_nil _ [])))))))))) Try.func11 rfl [4] (by kernel_rfl) laws_FnExactSplit.eq fun i x h hi hw => laws_FnExactSplit.pure x h hw

end Go.Proofs.Ytcbehcpmojnnfaa.B
