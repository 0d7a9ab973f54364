/- What the law computes. -/
import Derived.Test.YthjlommbnfooaaaCRBlk
import Derived.Test.YthjlommbnfooaaaCTypes
namespace Go.Proofs.Ythjlommbnfooaaa.B
set_option linter.unusedVariables false
set_option linter.unusedSimpArgs false
open Go Go.Proofs.Ythjlommbnfooaaa.Bv

theorem cL_two2 : ∀ l : List (Int × Int), cL c_mPoint l = 2 * l.length
  | [] => by simp [cL]
  | x :: l => by rw [cL_cons, cL_two2 l, show c_mPoint x = 2 from rfl, List.length_cons]; omega
theorem readB_len (s : List UInt8) : (fReadBlock s).1.length ≤ 60 := by
  unfold fReadBlock
  split
  · rename_i h; exact fPtsOk_len h.1.1
  · simp

def laws_FnExactReadBlock.F  (a0 : (List UInt8)) : Prop := (caseB (decide (((List.length a0 : Nat) : Int) > (1048576 : Int))) (((true, ((), ())) : Bool × (Unit × Unit)) = (true, ((), ()))) (True ∧ ∀ (r1 : ((List (Int × Int)) × Bool) × (Unit × Unit)), ((r1 : ((List (Int × Int)) × Bool) × (Unit × Unit)) = ((fReadBlock a0), ((), ()))) → (True ∧ ∀ (r2 : ((List (Int × Int)) × Bool) × (Unit × Unit)), ((r2 : ((List (Int × Int)) × Bool) × (Unit × Unit)) = ((fReadBlock a0), ((), ()))) → (True ∧ ∀ (r3 : Bool × (Unit × Unit)), ((r3 : Bool × (Unit × Unit)) = ((fEq_PointS r2.1.1 r1.1.1), ((), ()))) → (caseB (!r3.1) (((false, ((), ())) : Bool × (Unit × Unit)) = (true, ((), ()))) (caseB (!(r2.1.2 == r1.1.2)) (((false, ((), ())) : Bool × (Unit × Unit)) = (true, ((), ()))) ((pMk_PointS r2.1.1 1) ∧ ∀ (r4 : Int × (Unit × (List (Int × Int)))), ((r4 : Int × (Unit × (List (Int × Int)))) = ((fMk_PointS r2.1.1 1).1, ((), (fMk_PointS r2.1.1 1).2))) → ((pMk_PointS r4.2.2 1) ∧ ∀ (r5 : Int × (Unit × Unit)), ((r5 : Int × (Unit × Unit)) = ((fHd_PointS r4.2.2 1), ((), ()))) → (caseB (decide (r5.1 < (0 : Int))) (((false, ((), ())) : Bool × (Unit × Unit)) = (true, ((), ()))) (caseB (r5.1 != r4.1) (((false, ((), ())) : Bool × (Unit × Unit)) = (true, ((), ()))) (True ∧ ∀ (r6 : ((List (Int × Int)) × Bool) × (Unit × Unit)), ((r6 : ((List (Int × Int)) × Bool) × (Unit × Unit)) = ((fReadBlock a0), ((), ()))) → (True ∧ ∀ (r7 : Bool × (Unit × Unit)), ((r7 : Bool × (Unit × Unit)) = ((fEq_PointS r6.1.1 r1.1.1), ((), ()))) → (caseB (!r7.1) (((false, ((), ())) : Bool × (Unit × Unit)) = (true, ((), ()))) (caseB (!(r6.1.2 == r1.1.2)) (((false, ((), ())) : Bool × (Unit × Unit)) = (true, ((), ()))) ((pMk_PointS r4.2.2 1) ∧ ∀ (r8 : Int × (Unit × Unit)), ((r8 : Int × (Unit × Unit)) = ((fHd_PointS r4.2.2 1), ((), ()))) → (caseB (decide (r8.1 < (0 : Int))) (((false, ((), ())) : Bool × (Unit × Unit)) = (true, ((), ()))) (caseB (r8.1 != r4.1) (((false, ((), ())) : Bool × (Unit × Unit)) = (true, ((), ()))) (((true, ((), ())) : Bool × (Unit × Unit)) = (true, ((), ()))))))))))))))))))))
def laws_FnExactReadBlock.L  (a0 : (List UInt8)) : Nat → Option LoopAnn := fun p => Go.Proofs.Ythjlommbnfooaaa.Bv.look p []

theorem laws_FnExactReadBlock.pure  (a0 : (List UInt8)) (h : WfD .str a0) (hw : Wf (lawCon .str [.one]).A a0) : laws_FnExactReadBlock.F a0 := by
  unfold laws_FnExactReadBlock.F
  simp only [forall_eq, true_and, and_true, caseB_iff, Prod.mk.injEq, decide_eq_true_eq, decide_eq_false_iff_not, Bool.not_eq_true', Bool.not_eq_false', bne_iff_ne, ne_eq, beq_iff_eq, Bool.not_true, Bool.not_false, beq_eq_false_iff_ne, bne_eq_false_iff_eq, List.length_append, List.length_cons, List.length_nil, List.append_nil, Nat.zero_add, decide_true, decide_false, eq_self_iff_true, fMk_PointS, fHd_PointS]
  have hn := readB_len a0
  obtain ⟨o1, o2⟩ := oL_mL ok_Point (fReadBlock a0).1 1
  have o3 : oL c_mPoint o_Point (mL c_mPoint m_Point (fReadBlock a0).1 1) 1 = true := o1
  have hc := cL_two2 (fReadBlock a0).1
  have hm1 : pMk_PointS (fReadBlock a0).1 1 := ⟨by omega, by omega⟩
  have hm2 : pMk_PointS (mL c_mPoint m_Point (fReadBlock a0).1 1) 1 := ⟨by omega, by rw [o2]; omega⟩
  have he : fEq_PointS (fReadBlock a0).1 (fReadBlock a0).1 = true := by simp [fEq_PointS]
  have hh : fHd (cL c_mPoint (mL c_mPoint m_Point (fReadBlock a0).1 1)) (oL c_mPoint o_Point (mL c_mPoint m_Point (fReadBlock a0).1 1) 1) 1 = 1 + cL c_mPoint (fReadBlock a0).1 := by rw [fHd_yes o3, o2]
  have hk : ¬ (1 + cL c_mPoint (fReadBlock a0).1 < 0) := by rw [hc]; omega
  simp [hm1, hm2, he, hh, hk]

set_option maxRecDepth 100000 in
theorem laws_FnExactReadBlock.eq (i : El (lawCon .str [.one]).I) (x : El (lawCon .str [.one]).A) : vc tab (gam [(30, c_spec_ReadBlock), (31, c_impl_ReadBlock), (32, c_laws_eqPointS), (33, c_laws_markPointS), (34, c_laws_heldPointS)] [] eqs) (laws_FnExactReadBlock.L x) (match Try.f6.body with | some c => c | none => .skip) 1 (initSt (lawCon .str [.one]) Try.f6.ntmps i x) (bodyK tab (lawCon .str [.one]) Try.f6.results.toList [4] i x) = laws_FnExactReadBlock.F x := by kernel_rfl
theorem laws_FnExactReadBlock.ok : ConOk Try.prog 6 (lawCon .str [.one]) :=
  conOk_of_eq (con := (lawCon .str [.one])) (tab := tab) (Γ := (gam [(30, c_spec_ReadBlock), (31, c_impl_ReadBlock), (32, c_laws_eqPointS), (33, c_laws_markPointS), (34, c_laws_heldPointS)] [] eqs)) (fn := Try.f6) (c := (match Try.f6.body with | some c => c | none => .skip)) (fun i x => laws_FnExactReadBlock.L x) (fun i x => laws_FnExactReadBlock.F x) rfl tabOk (gam_cons ⟨_, Try.func30, rfl, rfl⟩ spec_ReadBlock.ok (gam_cons ⟨_, Try.func31, rfl, rfl⟩ impl_ReadBlock.ok (gam_cons ⟨_, Try.func32, rfl, rfl⟩ laws_eqPointS.ok (gam_cons ⟨_, Try.func33, rfl, rfl⟩ laws_markPointS.ok (gam_cons ⟨_, Try.func34, rfl, rfl⟩ laws_heldPointS.ok (gam_nil _ [] eqsOk)))))) Try.func6 rfl [4] (by kernel_rfl) laws_FnExactReadBlock.eq fun i x h hi hw => laws_FnExactReadBlock.pure x h hw

end Go.Proofs.Ythjlommbnfooaaa.B
