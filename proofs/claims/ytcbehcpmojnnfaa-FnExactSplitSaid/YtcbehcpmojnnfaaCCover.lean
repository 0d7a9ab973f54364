/- What a stretch of time covers. -/
import Derived.Test.YtcbehcpmojnnfaaCLib
namespace Go.Proofs.Ytcbehcpmojnnfaa.B
set_option linter.unusedVariables false
set_option linter.unusedSimpArgs false
open Go Go.Proofs.Ytcbehcpmojnnfaa.Bv

def fIn (a l h : Int) : Bool := decide (l ≤ a) && decide (a ≤ h)
def fBucket (t : Int) : Int := if fIn t 0 1099511627776 then t / 100 else -1
/-- The numbers from a on, so many. -/
def upFrom (a : Int) (n : Nat) : List Int := (List.range n).map fun (j : Nat) => a + (j : Int)

theorem upFrom_length (a : Int) (n : Nat) : (upFrom a n).length = n := by simp [upFrom]
theorem upFrom_succ (a : Int) (n : Nat) : upFrom a (n + 1) = upFrom a n ++ [a + (n : Int)] := by simp [upFrom, List.range_succ]
theorem upFrom_zero (a : Int) : upFrom a 0 = [] := rfl

def fCover (a b : Int) : List Int := if a < 0 ∨ b ≤ a ∨ b > 1099511627776 ∨ (b - 1) / 100 - a / 100 ≥ 8 then [] else upFrom (a / 100) ((b - 1) / 100 - a / 100 + 1).toNat
def covI (a b k : Int) (out : List Int) : Prop := 0 ≤ a ∧ a < b ∧ b ≤ 1099511627776 ∧ (b - 1) / 100 - a / 100 < 8 ∧ a / 100 ≤ k ∧ k ≤ (b - 1) / 100 + 1 ∧ out = upFrom (a / 100) (k - a / 100).toNat
def covM (a b k : Int) (out : List Int) : Nat := ((b - 1) / 100 + 1 - k).toNat

theorem cov_step {a b k : Int} {out : List Int} (h : covI a b k out) (hk : k ≤ (b - 1) / 100) :
    out.length ≤ 8 ∧ IntKind.wrap .i64 (k + 1) = k + 1 ∧ covI a b (k + 1) (out ++ [k]) ∧ covM a b (k + 1) (out ++ [k]) < covM a b k out := by
  obtain ⟨h1, h2, h3, h4, h5, h6, h7⟩ := h
  refine ⟨by rw [h7, upFrom_length]; omega, Go.IntWalk.i64_in _ (by omega), ⟨h1, h2, h3, h4, by omega, by omega, ?_⟩, by unfold covM; omega⟩
  have e : (k + 1 - a / 100).toNat = (k - a / 100).toNat + 1 := by omega
  rw [e, upFrom_succ, h7]
  congr 2
  omega

theorem cov_end {a b k : Int} {out : List Int} (h : covI a b k out) (hk : ¬ k ≤ (b - 1) / 100) : out = fCover a b := by
  obtain ⟨h1, h2, h3, h4, h5, h6, h7⟩ := h
  unfold fCover
  rw [if_neg (by omega), h7]
  congr 2
  omega


def c_spec_l1In : Con := { io := false, I := .unit, ownI := [], A := (.pair (.int .i64) (.pair (.int .i64) (.int .i64))), shA := [.one, .one, .one], ownA := [], backA := [], B := .unit, R := .bool, shR := [(false, 1)], fresh := [], newR := false, pre := fun _ a => True, f := some fun _ a => ((fIn a.1 a.2.1 a.2.2), ((), ())) }
def spec_l1In.F  (a0 : Int) (a1 : Int) (a2 : Int) : Prop := (caseB (decide (a0 ≥ a1)) ((((decide (a0 ≤ a2)), ((), ())) : Bool × (Unit × Unit)) = ((fIn a0 a1 a2), ((), ()))) (((false, ((), ())) : Bool × (Unit × Unit)) = ((fIn a0 a1 a2), ((), ()))))
def spec_l1In.L  (a0 : Int) (a1 : Int) (a2 : Int) : Nat → Option LoopAnn := fun p => Go.Proofs.Ytcbehcpmojnnfaa.Bv.look p []

theorem spec_l1In.pure  (a0 : Int) (a1 : Int) (a2 : Int) (h : True) (hw : Wf c_spec_l1In.A (a0, a1, a2)) : spec_l1In.F a0 a1 a2 := by
  unfold spec_l1In.F fIn
  simp only [caseB_iff, and_true, decide_eq_true_eq, decide_eq_false_iff_not, Prod.mk.injEq]
  exact ⟨fun h => by simp [h], fun h => by simp [h]⟩

set_option maxRecDepth 100000 in
theorem spec_l1In.eq (i : El c_spec_l1In.I) (x : El c_spec_l1In.A) : vc tab (gam [] []) (spec_l1In.L x.1 x.2.1 x.2.2) (match Try.f67.body with | some c => c | none => .skip) 1 (initSt c_spec_l1In Try.f67.ntmps i x) (bodyK tab c_spec_l1In Try.f67.results.toList [4] i x) = spec_l1In.F x.1 x.2.1 x.2.2 := by kernel_rfl
theorem spec_l1In.ok : ConOk Try.prog 67 c_spec_l1In :=
  conOk_of_eq (con := c_spec_l1In) (tab := tab) (Γ := (gam [] [])) (fn := Try.f67) (c := (match Try.f67.body with | some c => c | none => .skip)) (fun i x => spec_l1In.L x.1 x.2.1 x.2.2) (fun i x => spec_l1In.F x.1 x.2.1 x.2.2) rfl tabOk (gam_nil _ []) Try.func67 rfl [4] (by kernel_rfl) spec_l1In.eq fun i x h hi hw => spec_l1In.pure x.1 x.2.1 x.2.2 h hw

def c_impl_from : Con := { io := false, I := .unit, ownI := [], A := (.pair (.int .i64) (.pair (.int .i64) (.int .i64))), shA := [.one, .one, .one], ownA := [], backA := [], B := .unit, R := .bool, shR := [(false, 1)], fresh := [], newR := false, pre := fun _ a => True, f := some fun _ a => ((fIn a.1 a.2.1 a.2.2), ((), ())) }
def impl_from.F  (a0 : Int) (a1 : Int) (a2 : Int) : Prop := (caseB (decide (a0 ≥ a1)) ((((decide (a0 ≤ a2)), ((), ())) : Bool × (Unit × Unit)) = ((fIn a0 a1 a2), ((), ()))) (((false, ((), ())) : Bool × (Unit × Unit)) = ((fIn a0 a1 a2), ((), ()))))
def impl_from.L  (a0 : Int) (a1 : Int) (a2 : Int) : Nat → Option LoopAnn := fun p => Go.Proofs.Ytcbehcpmojnnfaa.Bv.look p []

theorem impl_from.pure  (a0 : Int) (a1 : Int) (a2 : Int) (h : True) (hw : Wf c_impl_from.A (a0, a1, a2)) : impl_from.F a0 a1 a2 := by
  unfold impl_from.F fIn
  simp only [caseB_iff, and_true, decide_eq_true_eq, decide_eq_false_iff_not, Prod.mk.injEq]
  exact ⟨fun h => by simp [h], fun h => by simp [h]⟩

set_option maxRecDepth 100000 in
theorem impl_from.eq (i : El c_impl_from.I) (x : El c_impl_from.A) : vc tab (gam [] []) (impl_from.L x.1 x.2.1 x.2.2) (match Try.f68.body with | some c => c | none => .skip) 1 (initSt c_impl_from Try.f68.ntmps i x) (bodyK tab c_impl_from Try.f68.results.toList [4] i x) = impl_from.F x.1 x.2.1 x.2.2 := by kernel_rfl
theorem impl_from.ok : ConOk Try.prog 68 c_impl_from :=
  conOk_of_eq (con := c_impl_from) (tab := tab) (Γ := (gam [] [])) (fn := Try.f68) (c := (match Try.f68.body with | some c => c | none => .skip)) (fun i x => impl_from.L x.1 x.2.1 x.2.2) (fun i x => impl_from.F x.1 x.2.1 x.2.2) rfl tabOk (gam_nil _ []) Try.func68 rfl [4] (by kernel_rfl) impl_from.eq fun i x h hi hw => impl_from.pure x.1 x.2.1 x.2.2 h hw

def c_spec_BucketOf : Con := { io := false, I := .unit, ownI := [], A := (.int .i64), shA := [.one], ownA := [], backA := [], B := .unit, R := (.int .i64), shR := [(false, 1)], fresh := [], newR := false, pre := fun _ a => True, f := some fun _ a => ((fBucket a), ((), ())) }
def spec_BucketOf.F  (a0 : Int) : Prop := (True ∧ ∀ (r1 : Bool × (Unit × Unit)), ((r1 : Bool × (Unit × Unit)) = ((fIn a0 0 1099511627776), ((), ()))) → (caseB (!r1.1) ((((-1), ((), ())) : Int × (Unit × Unit)) = ((fBucket a0), ((), ()))) ((100 : Int) ≠ 0 ∧ ((((IntKind.wrap .i64 (Int.tdiv a0 (100 : Int))), ((), ())) : Int × (Unit × Unit)) = ((fBucket a0), ((), ()))))))
def spec_BucketOf.L  (a0 : Int) : Nat → Option LoopAnn := fun p => Go.Proofs.Ytcbehcpmojnnfaa.Bv.look p []

theorem spec_BucketOf.pure  (a0 : Int) (h : True) (hw : Wf c_spec_BucketOf.A a0) : spec_BucketOf.F a0 := by
  unfold spec_BucketOf.F fBucket
  simp only [forall_eq, true_and, and_true, caseB_iff, Prod.mk.injEq, Bool.not_eq_true', Bool.not_eq_false']
  refine ⟨fun h1 => by simp [h1], fun h1 => ⟨by omega, ?_⟩⟩
  have h2 := h1
  simp only [fIn, Bool.and_eq_true, decide_eq_true_eq] at h2
  rw [if_pos h1, Int.tdiv_eq_ediv_of_nonneg h2.1]
  exact Go.IntWalk.i64_in _ (by omega)

set_option maxRecDepth 100000 in
theorem spec_BucketOf.eq (i : El c_spec_BucketOf.I) (x : El c_spec_BucketOf.A) : vc tab (gam [(67, c_spec_l1In)] []) (spec_BucketOf.L x) (match Try.f16.body with | some c => c | none => .skip) 1 (initSt c_spec_BucketOf Try.f16.ntmps i x) (bodyK tab c_spec_BucketOf Try.f16.results.toList [3] i x) = spec_BucketOf.F x := by kernel_rfl
theorem spec_BucketOf.ok : ConOk Try.prog 16 c_spec_BucketOf :=
  conOk_of_eq (con := c_spec_BucketOf) (tab := tab) (Γ := (gam [(67, c_spec_l1In)] [])) (fn := Try.f16) (c := (match Try.f16.body with | some c => c | none => .skip)) (fun i x => spec_BucketOf.L x) (fun i x => spec_BucketOf.F x) rfl tabOk (gam_cons ⟨_, Try.func67, rfl, rfl⟩ spec_l1In.ok (gam_nil _ [])) Try.func16 rfl [3] (by kernel_rfl) spec_BucketOf.eq fun i x h hi hw => spec_BucketOf.pure x h hw

def c_spec_Cover : Con := { io := false, I := .unit, ownI := [], A := (.pair (.int .i64) (.int .i64)), shA := [.one, .one], ownA := [], backA := [], B := .unit, R := (.list (.int .i64)), shR := [(false, 1)], fresh := [(0, 3)], newR := false, pre := fun _ a => True, f := some fun _ a => ((fCover a.1 a.2), ((), ())) }
def spec_Cover.F  (a0 : Int) (a1 : Int) : Prop := (caseB (decide (a0 < (0 : Int))) (((([] : (List Int)), ((), ())) : (List Int) × (Unit × Unit)) = ((fCover a0 a1), ((), ()))) (caseB (decide (a1 ≤ a0)) (((([] : (List Int)), ((), ())) : (List Int) × (Unit × Unit)) = ((fCover a0 a1), ((), ()))) (caseB (decide (a1 > (1099511627776 : Int))) (((([] : (List Int)), ((), ())) : (List Int) × (Unit × Unit)) = ((fCover a0 a1), ((), ()))) (True ∧ ∀ (r1 : Int × (Unit × Unit)), ((r1 : Int × (Unit × Unit)) = ((fBucket a0), ((), ()))) → (True ∧ ∀ (r2 : Int × (Unit × Unit)), ((r2 : Int × (Unit × Unit)) = ((fBucket (IntKind.wrap .i64 (a1 - (1 : Int)))), ((), ()))) → (caseB (decide ((IntKind.wrap .i64 (r2.1 - r1.1)) ≥ (8 : Int))) (((([] : (List Int)), ((), ())) : (List Int) × (Unit × Unit)) = ((fCover a0 a1), ((), ()))) (([(7, .val false [.int .i64 r2.1])] : List (Nat × Sv)) = [(7, .val false [.int .i64 r2.1])] ∧ ((covI a0 a1 r1.1 ([] : List Int)) ∧ ∀ (y3 : (Int × (List Int))), (covI a0 a1 y3.1 y3.2) → (caseB (decide (y3.1 ≤ r2.1)) (List.length y3.2 + List.length [y3.1] ≤ 9223372036854775807 ∧ ((List.length y3.2 + List.length [y3.1]) * 8 ≤ 140737488355328 ∧ (([(7, .val false [.int .i64 r2.1])] : List (Nat × Sv)) = [(7, .val false [.int .i64 r2.1])] ∧ (covI a0 a1 (IntKind.wrap .i64 (y3.1 + (1 : Int))) (y3.2 ++ [y3.1])) ∧ (covM a0 a1 (IntKind.wrap .i64 (y3.1 + (1 : Int))) (y3.2 ++ [y3.1])) < (covM a0 a1 y3.1 y3.2)))) (((y3.2, ((), ())) : (List Int) × (Unit × Unit)) = ((fCover a0 a1), ((), ()))))))))))))
def spec_Cover.L  (a0 : Int) (a1 : Int) : Nat → Option LoopAnn := fun p => Go.Proofs.Ytcbehcpmojnnfaa.Bv.look p [(1018, { kp := { hold := [7], slots := [5, 8], boxes := [], rows := [{ bx := false, s := 5, i := 0, k := 1000643, e := 3, hot := true }] }, T := (.pair (.int .i64) (.list (.int .i64))), I := fun st y => covI a0 a1 y.1 y.2, μ := fun st y => covM a0 a1 y.1 y.2 })]

theorem spec_Cover.pure  (a0 : Int) (a1 : Int) (h : True) (hw : Wf c_spec_Cover.A (a0, a1)) : spec_Cover.F a0 a1 := by
  unfold spec_Cover.F
  simp only [forall_eq, true_and, and_true, caseB_iff, Prod.mk.injEq, decide_eq_true_eq, decide_eq_false_iff_not]
  refine ⟨fun h1 => by simp [fCover, h1], fun h1 => ⟨fun h2 => by simp [fCover, h2], fun h2 => ⟨fun h3 => by simp [fCover, h3], fun h3 => ?_⟩⟩⟩
  have e0 : IntKind.wrap .i64 (a1 - 1) = a1 - 1 := Go.IntWalk.i64_in _ (by omega)
  have e1 : fBucket a0 = a0 / 100 := by unfold fBucket fIn; rw [if_pos (by simp; omega)]
  have e2 : fBucket (a1 - 1) = (a1 - 1) / 100 := by unfold fBucket fIn; rw [if_pos (by simp; omega)]
  have e3 : IntKind.wrap .i64 ((a1 - 1) / 100 - a0 / 100) = (a1 - 1) / 100 - a0 / 100 := Go.IntWalk.i64_in _ (by omega)
  simp only [e0, e1, e2, e3]
  refine ⟨fun h4 => by unfold fCover; rw [if_pos (by omega)], fun h4 => ⟨⟨by omega, by omega, by omega, by omega, by omega, by omega, by simp [upFrom]⟩, ?_⟩⟩
  rintro ⟨k, out⟩ hI
  simp only at hI ⊢
  refine ⟨fun hk => ?_, fun hk => cov_end hI hk⟩
  obtain ⟨h5, h6, h7, h8⟩ := cov_step hI hk
  rw [h6]
  exact ⟨by simp; omega, by simp; omega, h7, h8⟩

set_option maxRecDepth 100000 in
theorem spec_Cover.eq (i : El c_spec_Cover.I) (x : El c_spec_Cover.A) : vc tab (gam [(16, c_spec_BucketOf)] []) (spec_Cover.L x.1 x.2) (match Try.f24.body with | some c => c | none => .skip) 1 (initSt c_spec_Cover Try.f24.ntmps i x) (bodyK tab c_spec_Cover Try.f24.results.toList [32] i x) = spec_Cover.F x.1 x.2 := by kernel_rfl
theorem spec_Cover.ok : ConOk Try.prog 24 c_spec_Cover :=
  conOk_of_eq (con := c_spec_Cover) (tab := tab) (Γ := (gam [(16, c_spec_BucketOf)] [])) (fn := Try.f24) (c := (match Try.f24.body with | some c => c | none => .skip)) (fun i x => spec_Cover.L x.1 x.2) (fun i x => spec_Cover.F x.1 x.2) rfl tabOk (gam_cons ⟨_, Try.func16, rfl, rfl⟩ spec_BucketOf.ok (gam_nil _ [])) Try.func24 rfl [32] (by kernel_rfl) spec_Cover.eq fun i x h hi hw => spec_Cover.pure x.1 x.2 h hw

def c_impl_Cover : Con := { io := false, I := .unit, ownI := [], A := (.pair (.int .i64) (.int .i64)), shA := [.one, .one], ownA := [], backA := [], B := .unit, R := (.list (.int .i64)), shR := [(false, 1)], fresh := [(0, 3)], newR := false, pre := fun _ a => True, f := some fun _ a => ((fCover a.1 a.2), ((), ())) }
def impl_Cover.F  (a0 : Int) (a1 : Int) : Prop := (caseB (decide (a0 < (0 : Int))) (((([] : (List Int)), ((), ())) : (List Int) × (Unit × Unit)) = ((fCover a0 a1), ((), ()))) (caseB (decide (a1 ≤ a0)) (((([] : (List Int)), ((), ())) : (List Int) × (Unit × Unit)) = ((fCover a0 a1), ((), ()))) (caseB (decide (a1 > (1099511627776 : Int))) (((([] : (List Int)), ((), ())) : (List Int) × (Unit × Unit)) = ((fCover a0 a1), ((), ()))) ((100 : Int) ≠ 0 ∧ ((100 : Int) ≠ 0 ∧ (caseB (decide ((IntKind.wrap .i64 ((IntKind.wrap .i64 (Int.tdiv (IntKind.wrap .i64 (a1 - (1 : Int))) (100 : Int))) - (IntKind.wrap .i64 (Int.tdiv a0 (100 : Int))))) ≥ (8 : Int))) (((([] : (List Int)), ((), ())) : (List Int) × (Unit × Unit)) = ((fCover a0 a1), ((), ()))) (([(6, .val false [.int .i64 (IntKind.wrap .i64 (Int.tdiv (IntKind.wrap .i64 (a1 - (1 : Int))) (100 : Int)))])] : List (Nat × Sv)) = [(6, .val false [.int .i64 (IntKind.wrap .i64 (Int.tdiv (IntKind.wrap .i64 (a1 - (1 : Int))) (100 : Int)))])] ∧ ((covI a0 a1 (IntKind.wrap .i64 (Int.tdiv a0 (100 : Int))) ([] : List Int)) ∧ ∀ (y1 : (Int × (List Int))), (covI a0 a1 y1.1 y1.2) → (caseB (decide (y1.1 ≤ (IntKind.wrap .i64 (Int.tdiv (IntKind.wrap .i64 (a1 - (1 : Int))) (100 : Int))))) (List.length y1.2 + List.length [y1.1] ≤ 9223372036854775807 ∧ ((List.length y1.2 + List.length [y1.1]) * 8 ≤ 140737488355328 ∧ (([(6, .val false [.int .i64 (IntKind.wrap .i64 (Int.tdiv (IntKind.wrap .i64 (a1 - (1 : Int))) (100 : Int)))])] : List (Nat × Sv)) = [(6, .val false [.int .i64 (IntKind.wrap .i64 (Int.tdiv (IntKind.wrap .i64 (a1 - (1 : Int))) (100 : Int)))])] ∧ (covI a0 a1 (IntKind.wrap .i64 (y1.1 + (1 : Int))) (y1.2 ++ [y1.1])) ∧ (covM a0 a1 (IntKind.wrap .i64 (y1.1 + (1 : Int))) (y1.2 ++ [y1.1])) < (covM a0 a1 y1.1 y1.2)))) (((y1.2, ((), ())) : (List Int) × (Unit × Unit)) = ((fCover a0 a1), ((), ()))))))))))))
def impl_Cover.L  (a0 : Int) (a1 : Int) : Nat → Option LoopAnn := fun p => Go.Proofs.Ytcbehcpmojnnfaa.Bv.look p [(506, { kp := { hold := [6], slots := [7, 8], boxes := [], rows := [{ bx := false, s := 7, i := 0, k := 1000899, e := 3, hot := true }] }, T := (.pair (.int .i64) (.list (.int .i64))), I := fun st y => covI a0 a1 y.1 y.2, μ := fun st y => covM a0 a1 y.1 y.2 })]

theorem impl_Cover.pure  (a0 : Int) (a1 : Int) (h : True) (hw : Wf c_impl_Cover.A (a0, a1)) : impl_Cover.F a0 a1 := by
  unfold impl_Cover.F
  simp only [forall_eq, true_and, and_true, caseB_iff, Prod.mk.injEq, decide_eq_true_eq, decide_eq_false_iff_not]
  refine ⟨fun h1 => by simp [fCover, h1], fun h1 => ⟨fun h2 => by simp [fCover, h2], fun h2 => ⟨fun h3 => by simp [fCover, h3], fun h3 => ⟨by omega, by omega, ?_⟩⟩⟩⟩
  have e0 : IntKind.wrap .i64 (a1 - 1) = a1 - 1 := Go.IntWalk.i64_in _ (by omega)
  have e1 : IntKind.wrap .i64 (Int.tdiv a0 100) = a0 / 100 := by rw [Int.tdiv_eq_ediv_of_nonneg (by omega)]; exact Go.IntWalk.i64_in _ (by omega)
  have e2 : IntKind.wrap .i64 (Int.tdiv (a1 - 1) 100) = (a1 - 1) / 100 := by rw [Int.tdiv_eq_ediv_of_nonneg (by omega)]; exact Go.IntWalk.i64_in _ (by omega)
  have e3 : IntKind.wrap .i64 ((a1 - 1) / 100 - a0 / 100) = (a1 - 1) / 100 - a0 / 100 := Go.IntWalk.i64_in _ (by omega)
  simp only [e0, e1, e2, e3]
  refine ⟨fun h4 => by unfold fCover; rw [if_pos (by omega)], fun h4 => ⟨⟨by omega, by omega, by omega, by omega, by omega, by omega, by simp [upFrom]⟩, ?_⟩⟩
  rintro ⟨k, out⟩ hI
  simp only at hI ⊢
  refine ⟨fun hk => ?_, fun hk => cov_end hI hk⟩
  obtain ⟨h5, h6, h7, h8⟩ := cov_step hI hk
  rw [h6]
  exact ⟨by simp; omega, by simp; omega, h7, h8⟩

set_option maxRecDepth 100000 in
theorem impl_Cover.eq (i : El c_impl_Cover.I) (x : El c_impl_Cover.A) : vc tab (gam [] []) (impl_Cover.L x.1 x.2) (match Try.f25.body with | some c => c | none => .skip) 1 (initSt c_impl_Cover Try.f25.ntmps i x) (bodyK tab c_impl_Cover Try.f25.results.toList [32] i x) = impl_Cover.F x.1 x.2 := by kernel_rfl
theorem impl_Cover.ok : ConOk Try.prog 25 c_impl_Cover :=
  conOk_of_eq (con := c_impl_Cover) (tab := tab) (Γ := (gam [] [])) (fn := Try.f25) (c := (match Try.f25.body with | some c => c | none => .skip)) (fun i x => impl_Cover.L x.1 x.2) (fun i x => impl_Cover.F x.1 x.2) rfl tabOk (gam_nil _ []) Try.func25 rfl [32] (by kernel_rfl) impl_Cover.eq fun i x h hi hw => impl_Cover.pure x.1 x.2 h hw

end Go.Proofs.Ytcbehcpmojnnfaa.B
