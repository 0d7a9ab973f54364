/- What the law computes. -/
import Derived.Test.YthjlommbnfooaaaCFile
namespace Go.Proofs.Ythjlommbnfooaaa.B
set_option linter.unusedVariables false
set_option linter.unusedSimpArgs false
open Go Go.Proofs.Ythjlommbnfooaaa.Bv

theorem sz_pos {n : Nat} (h : ¬ fSz n 1048576 < 0) : n ≤ 1048576 := by
  by_cases hc : (1048576 : Int) < (n : Int)
  · rw [fSz_no hc] at h; exact absurd (by decide) h
  · omega
def laws_FnExactFileText.F  (a0 : (List ((List UInt8) × (List (Int × Int))))) : Prop := ((pSz_SeriesS a0 1048576) ∧ ∀ (r1 : Int × (Unit × Unit)), ((r1 : Int × (Unit × Unit)) = ((fSz_SeriesS a0 1048576), ((), ()))) → (caseB (decide (r1.1 < (0 : Int))) (((true, ((), ())) : Bool × (Unit × Unit)) = (true, ((), ()))) ((pTo_SeriesS a0) ∧ ∀ (r2 : (List ((List UInt8) × (List (Int × Int)))) × (Unit × Unit)), ((r2 : (List ((List UInt8) × (List (Int × Int)))) × (Unit × Unit)) = ((fTo_SeriesS a0), ((), ()))) → ((pSerOk r2.1) ∧ ∀ (r3 : (List UInt8) × (Unit × Unit)), ((r3 : (List UInt8) × (Unit × Unit)) = ((fFileText r2.1), ((), ()))) → ((pTo_SeriesS a0) ∧ ∀ (r4 : (List ((List UInt8) × (List (Int × Int)))) × (Unit × Unit)), ((r4 : (List ((List UInt8) × (List (Int × Int)))) × (Unit × Unit)) = ((fTo_SeriesS a0), ((), ()))) → ((pSerOk r4.1) ∧ ∀ (r5 : (List UInt8) × (Unit × Unit)), ((r5 : (List UInt8) × (Unit × Unit)) = ((fFileText r4.1), ((), ()))) → (caseB (!(r5.1 == r3.1)) (((false, ((), ())) : Bool × (Unit × Unit)) = (true, ((), ()))) ((pTo_SeriesS a0) ∧ ∀ (r6 : (List ((List UInt8) × (List (Int × Int)))) × (Unit × Unit)), ((r6 : (List ((List UInt8) × (List (Int × Int)))) × (Unit × Unit)) = ((fTo_SeriesS a0), ((), ()))) → (True ∧ ∀ (r7 : Bool × (Unit × Unit)), ((r7 : Bool × (Unit × Unit)) = ((fEq_SeriesS r4.1 r6.1), ((), ()))) → (caseB (!r7.1) (((false, ((), ())) : Bool × (Unit × Unit)) = (true, ((), ()))) (((true, ((), ())) : Bool × (Unit × Unit)) = (true, ((), ())))))))))))))
def laws_FnExactFileText.L  (a0 : (List ((List UInt8) × (List (Int × Int))))) : Nat → Option LoopAnn := fun p => Go.Proofs.Ythjlommbnfooaaa.Bv.look p []

theorem laws_FnExactFileText.pure  (a0 : (List ((List UInt8) × (List (Int × Int))))) (h : WfD (.list (.pair .str (.list (.pair (.int .i64) (.int .i64))))) a0) (hw : Wf (lawCon (.list (.pair .str (.list (.pair (.int .i64) (.int .i64))))) [.one]).A a0) : laws_FnExactFileText.F a0 := by
  unfold laws_FnExactFileText.F
  have hk : pSerOk a0 := fun s hs => (h.2 s hs).1
  have he : fEq_SeriesS a0 a0 = true := by simp [fEq_SeriesS]
  simp only [forall_eq, true_and, and_true, caseB_iff, Prod.mk.injEq, decide_eq_true_eq, decide_eq_false_iff_not, Bool.not_eq_true', Bool.not_eq_false', bne_iff_ne, ne_eq, beq_iff_eq, Bool.not_true, Bool.not_false, beq_eq_false_iff_ne, bne_eq_false_iff_eq, List.length_append, List.length_cons, List.length_nil, List.append_nil, Nat.zero_add, decide_true, decide_false, eq_self_iff_true, fSz_SeriesS, fTo_SeriesS]
  refine ⟨⟨h, by omega, by omega⟩, fun _ => trivial, fun h1 => ?_⟩
  have hp : pTo_SeriesS a0 := sz_pos h1
  simp [hp, hk, he]

set_option maxRecDepth 100000 in
theorem laws_FnExactFileText.eq (i : El (lawCon (.list (.pair .str (.list (.pair (.int .i64) (.int .i64))))) [.one]).I) (x : El (lawCon (.list (.pair .str (.list (.pair (.int .i64) (.int .i64))))) [.one]).A) : vc tab (gam [(25, c_laws_szSeriesS), (26, c_spec_FileText), (27, c_laws_toSeriesS), (28, c_impl_FileText), (29, c_laws_eqSeriesS)] [] eqs) (laws_FnExactFileText.L x) (match Try.f5.body with | some c => c | none => .skip) 1 (initSt (lawCon (.list (.pair .str (.list (.pair (.int .i64) (.int .i64))))) [.one]) Try.f5.ntmps i x) (bodyK tab (lawCon (.list (.pair .str (.list (.pair (.int .i64) (.int .i64))))) [.one]) Try.f5.results.toList [4] i x) = laws_FnExactFileText.F x := by kernel_rfl
theorem laws_FnExactFileText.ok : ConOk Try.prog 5 (lawCon (.list (.pair .str (.list (.pair (.int .i64) (.int .i64))))) [.one]) :=
  conOk_of_eq (con := (lawCon (.list (.pair .str (.list (.pair (.int .i64) (.int .i64))))) [.one])) (tab := tab) (Γ := (gam [(25, c_laws_szSeriesS), (26, c_spec_FileText), (27, c_laws_toSeriesS), (28, c_impl_FileText), (29, c_laws_eqSeriesS)] [] eqs)) (fn := Try.f5) (c := (match Try.f5.body with | some c => c | none => .skip)) (fun i x => laws_FnExactFileText.L x) (fun i x => laws_FnExactFileText.F x) rfl tabOk (gam_cons ⟨_, Try.func25, rfl, rfl⟩ laws_szSeriesS.ok (gam_cons ⟨_, Try.func26, rfl, rfl⟩ spec_FileText.ok (gam_cons ⟨_, Try.func27, rfl, rfl⟩ laws_toSeriesS.ok (gam_cons ⟨_, Try.func28, rfl, rfl⟩ impl_FileText.ok (gam_cons ⟨_, Try.func29, rfl, rfl⟩ laws_eqSeriesS.ok (gam_nil _ [] eqsOk)))))) Try.func5 rfl [4] (by kernel_rfl) laws_FnExactFileText.eq fun i x h hi hw => laws_FnExactFileText.pure x h hw

end Go.Proofs.Ythjlommbnfooaaa.B
