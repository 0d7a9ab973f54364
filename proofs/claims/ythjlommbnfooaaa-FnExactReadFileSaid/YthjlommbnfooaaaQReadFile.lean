/- What the law computes. -/
import Derived.Test.YthjlommbnfooaaaCLaw
import Derived.Test.YthjlommbnfooaaaCRFile
import Derived.Test.YthjlommbnfooaaaCTSeries
namespace Go.Proofs.Ythjlommbnfooaaa.B
set_option linter.unusedVariables false
set_option linter.unusedSimpArgs false
open Go Go.Proofs.Ythjlommbnfooaaa.Bv

theorem cL_two2 : ∀ l : List (Int × Int), cL c_mPoint l = 2 * l.length
  | [] => by simp [cL]
  | x :: l => by rw [cL_cons, cL_two2 l, show c_mPoint x = 2 from rfl, List.length_cons]; omega
theorem cL_ser : ∀ l : List Ser, (∀ x ∈ l, x.2.length ≤ 60) → cL c_mSeries l ≤ 121 * l.length
  | [], _ => by simp [cL]
  | x :: l, h => by
    have h1 := cL_ser l fun y hy => h y (by simp [hy])
    have h2 := h x (by simp)
    have h3 : c_mSeries x = 1 + cL c_mPoint x.2 := rfl
    rw [cL_cons, h3, cL_two2, List.length_cons]; omega
theorem readF_c (s : List UInt8) : cL c_mSeries (fReadFile s).1 ≤ 605 ∧ (fReadFile s).1.length ≤ 5 := by
  unfold fReadFile
  split
  · rename_i h
    have h5 := (fSer_at h.1.1).1
    have := cL_ser (cF s) fun x hx => by
      obtain ⟨i, hi, e⟩ := List.mem_iff_getElem.1 hx
      have := (ser_pts h.1.1 hi).2.1
      rw [List.getD_eq_getElem?_getD, List.getElem?_eq_getElem hi, Option.getD_some, e] at this
      exact this
    simp only; omega
  · simp [cL]
def laws_FnExactReadFile.F  (a0 : (List UInt8)) : Prop := (caseB (decide (((List.length a0 : Nat) : Int) > (1048576 : Int))) (((true, ((), ())) : Bool × (Unit × Unit)) = (true, ((), ()))) ((pStr a0) ∧ ∀ (r1 : ((List ((List UInt8) × (List (Int × Int)))) × Bool) × (Unit × Unit)), ((r1 : ((List ((List UInt8) × (List (Int × Int)))) × Bool) × (Unit × Unit)) = ((fReadFile a0), ((), ()))) → ((pStr a0) ∧ ∀ (r2 : ((List ((List UInt8) × (List (Int × Int)))) × Bool) × (Unit × Unit)), ((r2 : ((List ((List UInt8) × (List (Int × Int)))) × Bool) × (Unit × Unit)) = ((fReadFile a0), ((), ()))) → (True ∧ ∀ (r3 : Bool × (Unit × Unit)), ((r3 : Bool × (Unit × Unit)) = ((fEq_SeriesS r2.1.1 r1.1.1), ((), ()))) → (caseB (!r3.1) (((false, ((), ())) : Bool × (Unit × Unit)) = (true, ((), ()))) (caseB (!(r2.1.2 == r1.1.2)) (((false, ((), ())) : Bool × (Unit × Unit)) = (true, ((), ()))) ((pMk_SeriesS r2.1.1 1) ∧ ∀ (r4 : Int × (Unit × (List ((List UInt8) × (List (Int × Int)))))), ((r4 : Int × (Unit × (List ((List UInt8) × (List (Int × Int)))))) = ((fMk_SeriesS r2.1.1 1).1, ((), (fMk_SeriesS r2.1.1 1).2))) → ((pMk_SeriesS r4.2.2 1) ∧ ∀ (r5 : Int × (Unit × Unit)), ((r5 : Int × (Unit × Unit)) = ((fHd_SeriesS r4.2.2 1), ((), ()))) → (caseB (decide (r5.1 < (0 : Int))) (((false, ((), ())) : Bool × (Unit × Unit)) = (true, ((), ()))) (caseB (r5.1 != r4.1) (((false, ((), ())) : Bool × (Unit × Unit)) = (true, ((), ()))) ((pStr a0) ∧ ∀ (r6 : ((List ((List UInt8) × (List (Int × Int)))) × Bool) × (Unit × Unit)), ((r6 : ((List ((List UInt8) × (List (Int × Int)))) × Bool) × (Unit × Unit)) = ((fReadFile a0), ((), ()))) → (True ∧ ∀ (r7 : Bool × (Unit × Unit)), ((r7 : Bool × (Unit × Unit)) = ((fEq_SeriesS r6.1.1 r1.1.1), ((), ()))) → (caseB (!r7.1) (((false, ((), ())) : Bool × (Unit × Unit)) = (true, ((), ()))) (caseB (!(r6.1.2 == r1.1.2)) (((false, ((), ())) : Bool × (Unit × Unit)) = (true, ((), ()))) ((pMk_SeriesS r4.2.2 1) ∧ ∀ (r8 : Int × (Unit × Unit)), ((r8 : Int × (Unit × Unit)) = ((fHd_SeriesS r4.2.2 1), ((), ()))) → (caseB (decide (r8.1 < (0 : Int))) (((false, ((), ())) : Bool × (Unit × Unit)) = (true, ((), ()))) (caseB (r8.1 != r4.1) (((false, ((), ())) : Bool × (Unit × Unit)) = (true, ((), ()))) (((true, ((), ())) : Bool × (Unit × Unit)) = (true, ((), ()))))))))))))))))))))
def laws_FnExactReadFile.L  (a0 : (List UInt8)) : Nat → Option LoopAnn := fun p => Go.Proofs.Ythjlommbnfooaaa.Bv.look p []

theorem laws_FnExactReadFile.pure  (a0 : (List UInt8)) (h : WfD .str a0) (hw : Wf (lawCon .str [.one]).A a0) : laws_FnExactReadFile.F a0 := by
  unfold laws_FnExactReadFile.F
  have hk : pStr a0 := h
  simp only [forall_eq, true_and, and_true, caseB_iff, Prod.mk.injEq, decide_eq_true_eq, decide_eq_false_iff_not, Bool.not_eq_true', Bool.not_eq_false', bne_iff_ne, ne_eq, beq_iff_eq, Bool.not_true, Bool.not_false, beq_eq_false_iff_ne, bne_eq_false_iff_eq, List.length_append, List.length_cons, List.length_nil, List.append_nil, Nat.zero_add, decide_true, decide_false, eq_self_iff_true, Prod.eta, fMk_SeriesS, fHd_SeriesS]
  obtain ⟨hc, hn⟩ := readF_c a0
  have hc0 := cL_pos pos_Series (fReadFile a0).1
  obtain ⟨o1, o2⟩ := oL_mL ok_Series (fReadFile a0).1 1
  have o3 : oL c_mSeries o_Series (mL c_mSeries m_Series (fReadFile a0).1 1) 1 = true := o1
  have hm1 : pMk_SeriesS (fReadFile a0).1 1 := ⟨by omega, by omega⟩
  have hm2 : pMk_SeriesS (mL c_mSeries m_Series (fReadFile a0).1 1) 1 := ⟨by omega, by rw [o2]; omega⟩
  have he : fEq_SeriesS (fReadFile a0).1 (fReadFile a0).1 = true := by simp [fEq_SeriesS]
  have hh : fHd (cL c_mSeries (mL c_mSeries m_Series (fReadFile a0).1 1)) (oL c_mSeries o_Series (mL c_mSeries m_Series (fReadFile a0).1 1) 1) 1 = 1 + cL c_mSeries (fReadFile a0).1 := by rw [fHd_yes o3, o2]
  have hk2 : ¬ (1 + cL c_mSeries (fReadFile a0).1 < 0) := by omega
  simp [hk, hm1, hm2, he, hh, hk2]

set_option maxRecDepth 100000 in
theorem laws_FnExactReadFile.eq (i : El (lawCon .str [.one]).I) (x : El (lawCon .str [.one]).A) : vc tab (gam [(29, c_laws_eqSeriesS), (55, c_spec_ReadFile), (56, c_impl_ReadFile), (57, c_laws_markSeriesS), (58, c_laws_heldSeriesS)] [] eqs) (laws_FnExactReadFile.L x) (match Try.f14.body with | some c => c | none => .skip) 1 (initSt (lawCon .str [.one]) Try.f14.ntmps i x) (bodyK tab (lawCon .str [.one]) Try.f14.results.toList [4] i x) = laws_FnExactReadFile.F x := by kernel_rfl
theorem laws_FnExactReadFile.ok : ConOk Try.prog 14 (lawCon .str [.one]) :=
  conOk_of_eq (con := (lawCon .str [.one])) (tab := tab) (Γ := (gam [(29, c_laws_eqSeriesS), (55, c_spec_ReadFile), (56, c_impl_ReadFile), (57, c_laws_markSeriesS), (58, c_laws_heldSeriesS)] [] eqs)) (fn := Try.f14) (c := (match Try.f14.body with | some c => c | none => .skip)) (fun i x => laws_FnExactReadFile.L x) (fun i x => laws_FnExactReadFile.F x) rfl tabOk (gam_cons ⟨_, Try.func29, rfl, rfl⟩ laws_eqSeriesS.ok (gam_cons ⟨_, Try.func55, rfl, rfl⟩ spec_ReadFile.ok (gam_cons ⟨_, Try.func56, rfl, rfl⟩ impl_ReadFile.ok (gam_cons ⟨_, Try.func57, rfl, rfl⟩ laws_markSeriesS.ok (gam_cons ⟨_, Try.func58, rfl, rfl⟩ laws_heldSeriesS.ok (gam_nil _ [] eqsOk)))))) Try.func14 rfl [4] (by kernel_rfl) laws_FnExactReadFile.eq fun i x h hi hw => laws_FnExactReadFile.pure x h hw

end Go.Proofs.Ythjlommbnfooaaa.B
