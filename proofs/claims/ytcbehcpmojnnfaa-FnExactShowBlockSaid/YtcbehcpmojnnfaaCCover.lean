/- What a stretch of time covers. -/
import Derived.Test.YtcbehcpmojnnfaaCLib
namespace Go.Proofs.Ytcbehcpmojnnfaa.B
set_option linter.unusedVariables false
set_option linter.unusedSimpArgs false
open Go Go.Proofs.Ytcbehcpmojnnfaa.Bv

def fIn (a l h : Int) : Bool := decide (l ≤ a) && decide (a ≤ h)
def fBucket (t : Int) : Int := if fIn t 0 1099511627776 then t / 100 else -1
/-- The numbers from a on, so many. -/
def upFrom (a : Int) (n : Nat) : List Int := (List.range n).map fun (j : Nat) => a + (j : Int)

theorem upFrom_length (a : Int) (n : Nat) : (upFrom a n).length = n := by simp [upFrom]
theorem upFrom_succ (a : Int) (n : Nat) : upFrom a (n + 1) = upFrom a n ++ [a + (n : Int)] := by simp [upFrom, List.range_succ]
theorem upFrom_zero (a : Int) : upFrom a 0 = [] := rfl

def fCover (a b : Int) : List Int := if a < 0 ∨ b ≤ a ∨ b > 1099511627776 ∨ (b - 1) / 100 - a / 100 ≥ 8 then [] else upFrom (a / 100) ((b - 1) / 100 - a / 100 + 1).toNat
def covI (a b k : Int) (out : List Int) : Prop := 0 ≤ a ∧ a < b ∧ b ≤ 1099511627776 ∧ (b - 1) / 100 - a / 100 < 8 ∧ a / 100 ≤ k ∧ k ≤ (b - 1) / 100 + 1 ∧ out = upFrom (a / 100) (k - a / 100).toNat
def covM (a b k : Int) (out : List Int) : Nat := ((b - 1) / 100 + 1 - k).toNat

theorem cov_step {a b k : Int} {out : List Int} (h : covI a b k out) (hk : k ≤ (b - 1) / 100) :
    out.length ≤ 8 ∧ IntKind.wrap .i64 (k + 1) = k + 1 ∧ covI a b (k + 1) (out ++ [k]) ∧ covM a b (k + 1) (out ++ [k]) < covM a b k out := by
  obtain ⟨h1, h2, h3, h4, h5, h6, h7⟩ := h
  refine ⟨by rw [h7, upFrom_length]; omega, Go.IntWalk.i64_in _ (by omega), ⟨h1, h2, h3, h4, by omega, by omega, ?_⟩, by unfold covM; omega⟩
  have e : (k + 1 - a / 100).toNat = (k - a / 100).toNat + 1 := by omega
  rw [e, upFrom_succ, h7]
  congr 2
  omega

theorem cov_end {a b k : Int} {out : List Int} (h : covI a b k out) (hk : ¬ k ≤ (b - 1) / 100) : out = fCover a b := by
  obtain ⟨h1, h2, h3, h4, h5, h6, h7⟩ := h
  unfold fCover
  rw [if_neg (by omega), h7]
  congr 2
  omega

def pMark (l : List Int) (k : Int) : Prop := l.length ≤ 1152921504606846976 ∧ 0 ≤ k ∧ k ≤ 1152921504606846976
def fMark (l : List Int) (k : Int) : Int × List Int := (k + l.length, upFrom k l.length)
def markI (a : List Int) (k0 k i : Int) (l : List Int) : Prop := 0 ≤ i ∧ i ≤ a.length ∧ k = k0 + i ∧ l = upFrom k0 i.toNat ++ a.drop i.toNat
def markM (a : List Int) (k0 k i : Int) (l : List Int) : Nat := (a.length - i).toNat

theorem set_mid (x y : List Int) (i : Nat) (v : Int) (hx : x.length = i) (hi : i < y.length) : List.set (x ++ y.drop i) i v = (x ++ [v]) ++ y.drop (i + 1) := by
  rw [List.drop_eq_getElem_cons hi, List.set_append_right _ _ (by omega), hx, Nat.sub_self, List.set_cons_zero, List.append_assoc]
  rfl

def fHeld (l : List Int) (k : Int) : Int := if l = upFrom k l.length then k + l.length else -1
def heldI (a : List Int) (k0 k i : Int) : Prop := 0 ≤ i ∧ i ≤ a.length ∧ k = k0 + i ∧ a.take i.toNat = upFrom k0 i.toNat
def heldM (a : List Int) (k0 k i : Int) : Nat := (a.length - i).toNat
def fEq (l k : List Int) : Bool := decide (l = k)
def eqI (a b : List Int) (i : Int) : Prop := 0 ≤ i ∧ i ≤ a.length ∧ a.length = b.length ∧ a.take i.toNat = b.take i.toNat
def eqM (a b : List Int) (i : Int) : Nat := (a.length - i).toNat

theorem take_more {a : List Int} {n : Nat} (h : n < a.length) : a.take (n + 1) = a.take n ++ [a.getD n 0] := by
  rw [List.take_add_one, List.getElem?_eq_getElem h, List.getD_eq_getElem?_getD, List.getElem?_eq_getElem h]; rfl

def c_spec_l1In : Con := { io := false, I := .unit, ownI := [], A := (.pair (.int .i64) (.pair (.int .i64) (.int .i64))), shA := [.one, .one, .one], ownA := [], backA := [], B := .unit, R := .bool, shR := [(false, 1)], fresh := [], newR := false, pre := fun _ a => True, f := some fun _ a => ((fIn a.1 a.2.1 a.2.2), ((), ())) }
def spec_l1In.F  (a0 : Int) (a1 : Int) (a2 : Int) : Prop := (caseB (decide (a0 ≥ a1)) ((((decide (a0 ≤ a2)), ((), ())) : Bool × (Unit × Unit)) = ((fIn a0 a1 a2), ((), ()))) (((false, ((), ())) : Bool × (Unit × Unit)) = ((fIn a0 a1 a2), ((), ()))))
def spec_l1In.L  (a0 : Int) (a1 : Int) (a2 : Int) : Nat → Option LoopAnn := fun p => Go.Proofs.Ytcbehcpmojnnfaa.Bv.look p []

theorem spec_l1In.pure  (a0 : Int) (a1 : Int) (a2 : Int) (h : True) (hw : Wf c_spec_l1In.A (a0, a1, a2)) : spec_l1In.F a0 a1 a2 := by
  unfold spec_l1In.F fIn
  simp only [caseB_iff, and_true, decide_eq_true_eq, decide_eq_false_iff_not, Prod.mk.injEq]
  exact ⟨fun h => by simp [h], fun h => by simp [h]⟩

set_option maxRecDepth 100000 in
theorem spec_l1In.eq (i : El c_spec_l1In.I) (x : El c_spec_l1In.A) : vc tab (gam [] []) (spec_l1In.L x.1 x.2.1 x.2.2) (match Try.f67.body with | some c => c | none => .skip) 1 (initSt c_spec_l1In Try.f67.ntmps i x) (bodyK tab c_spec_l1In Try.f67.results.toList [4] i x) = spec_l1In.F x.1 x.2.1 x.2.2 := by kernel_rfl
theorem spec_l1In.ok : ConOk Try.prog 67 c_spec_l1In :=
  conOk_of_eq (con := c_spec_l1In) (tab := tab) (Γ := (gam [] [])) (fn := Try.f67) (c := (match Try.f67.body with | some c => c | none => .skip)) (fun i x => spec_l1In.L x.1 x.2.1 x.2.2) (fun i x => spec_l1In.F x.1 x.2.1 x.2.2) rfl tabOk (gam_nil _ []) Try.func67 rfl [4] (by kernel_rfl) spec_l1In.eq fun i x h hi hw => spec_l1In.pure x.1 x.2.1 x.2.2 h hw

def c_impl_from : Con := { io := false, I := .unit, ownI := [], A := (.pair (.int .i64) (.pair (.int .i64) (.int .i64))), shA := [.one, .one, .one], ownA := [], backA := [], B := .unit, R := .bool, shR := [(false, 1)], fresh := [], newR := false, pre := fun _ a => True, f := some fun _ a => ((fIn a.1 a.2.1 a.2.2), ((), ())) }
def impl_from.F  (a0 : Int) (a1 : Int) (a2 : Int) : Prop := (caseB (decide (a0 ≥ a1)) ((((decide (a0 ≤ a2)), ((), ())) : Bool × (Unit × Unit)) = ((fIn a0 a1 a2), ((), ()))) (((false, ((), ())) : Bool × (Unit × Unit)) = ((fIn a0 a1 a2), ((), ()))))
def impl_from.L  (a0 : Int) (a1 : Int) (a2 : Int) : Nat → Option LoopAnn := fun p => Go.Proofs.Ytcbehcpmojnnfaa.Bv.look p []

theorem impl_from.pure  (a0 : Int) (a1 : Int) (a2 : Int) (h : True) (hw : Wf c_impl_from.A (a0, a1, a2)) : impl_from.F a0 a1 a2 := by
  unfold impl_from.F fIn
  simp only [caseB_iff, and_true, decide_eq_true_eq, decide_eq_false_iff_not, Prod.mk.injEq]
  exact ⟨fun h => by simp [h], fun h => by simp [h]⟩

set_option maxRecDepth 100000 in
theorem impl_from.eq (i : El c_impl_from.I) (x : El c_impl_from.A) : vc tab (gam [] []) (impl_from.L x.1 x.2.1 x.2.2) (match Try.f68.body with | some c => c | none => .skip) 1 (initSt c_impl_from Try.f68.ntmps i x) (bodyK tab c_impl_from Try.f68.results.toList [4] i x) = impl_from.F x.1 x.2.1 x.2.2 := by kernel_rfl
theorem impl_from.ok : ConOk Try.prog 68 c_impl_from :=
  conOk_of_eq (con := c_impl_from) (tab := tab) (Γ := (gam [] [])) (fn := Try.f68) (c := (match Try.f68.body with | some c => c | none => .skip)) (fun i x => impl_from.L x.1 x.2.1 x.2.2) (fun i x => impl_from.F x.1 x.2.1 x.2.2) rfl tabOk (gam_nil _ []) Try.func68 rfl [4] (by kernel_rfl) impl_from.eq fun i x h hi hw => impl_from.pure x.1 x.2.1 x.2.2 h hw

def c_spec_BucketOf : Con := { io := false, I := .unit, ownI := [], A := (.int .i64), shA := [.one], ownA := [], backA := [], B := .unit, R := (.int .i64), shR := [(false, 1)], fresh := [], newR := false, pre := fun _ a => True, f := some fun _ a => ((fBucket a), ((), ())) }
def spec_BucketOf.F  (a0 : Int) : Prop := (True ∧ ∀ (r1 : Bool × (Unit × Unit)), ((r1 : Bool × (Unit × Unit)) = ((fIn a0 0 1099511627776), ((), ()))) → (caseB (!r1.1) ((((-1), ((), ())) : Int × (Unit × Unit)) = ((fBucket a0), ((), ()))) ((100 : Int) ≠ 0 ∧ ((((IntKind.wrap .i64 (Int.tdiv a0 (100 : Int))), ((), ())) : Int × (Unit × Unit)) = ((fBucket a0), ((), ()))))))
def spec_BucketOf.L  (a0 : Int) : Nat → Option LoopAnn := fun p => Go.Proofs.Ytcbehcpmojnnfaa.Bv.look p []

theorem spec_BucketOf.pure  (a0 : Int) (h : True) (hw : Wf c_spec_BucketOf.A a0) : spec_BucketOf.F a0 := by
  unfold spec_BucketOf.F fBucket
  simp only [forall_eq, true_and, and_true, caseB_iff, Prod.mk.injEq, Bool.not_eq_true', Bool.not_eq_false']
  refine ⟨fun h1 => by simp [h1], fun h1 => ⟨by omega, ?_⟩⟩
  have h2 := h1
  simp only [fIn, Bool.and_eq_true, decide_eq_true_eq] at h2
  rw [if_pos h1, Int.tdiv_eq_ediv_of_nonneg h2.1]
  exact Go.IntWalk.i64_in _ (by omega)

set_option maxRecDepth 100000 in
theorem spec_BucketOf.eq (i : El c_spec_BucketOf.I) (x : El c_spec_BucketOf.A) : vc tab (gam [(67, c_spec_l1In)] []) (spec_BucketOf.L x) (match Try.f16.body with | some c => c | none => .skip) 1 (initSt c_spec_BucketOf Try.f16.ntmps i x) (bodyK tab c_spec_BucketOf Try.f16.results.toList [3] i x) = spec_BucketOf.F x := by kernel_rfl
theorem spec_BucketOf.ok : ConOk Try.prog 16 c_spec_BucketOf :=
  conOk_of_eq (con := c_spec_BucketOf) (tab := tab) (Γ := (gam [(67, c_spec_l1In)] [])) (fn := Try.f16) (c := (match Try.f16.body with | some c => c | none => .skip)) (fun i x => spec_BucketOf.L x) (fun i x => spec_BucketOf.F x) rfl tabOk (gam_cons ⟨_, Try.func67, rfl, rfl⟩ spec_l1In.ok (gam_nil _ [])) Try.func16 rfl [3] (by kernel_rfl) spec_BucketOf.eq fun i x h hi hw => spec_BucketOf.pure x h hw

def c_spec_Cover : Con := { io := false, I := .unit, ownI := [], A := (.pair (.int .i64) (.int .i64)), shA := [.one, .one], ownA := [], backA := [], B := .unit, R := (.list (.int .i64)), shR := [(false, 1)], fresh := [(0, 3)], newR := false, pre := fun _ a => True, f := some fun _ a => ((fCover a.1 a.2), ((), ())) }
def spec_Cover.F  (a0 : Int) (a1 : Int) : Prop := (caseB (decide (a0 < (0 : Int))) ((([], ((), ())) : (List Int) × (Unit × Unit)) = ((fCover a0 a1), ((), ()))) (caseB (decide (a1 ≤ a0)) ((([], ((), ())) : (List Int) × (Unit × Unit)) = ((fCover a0 a1), ((), ()))) (caseB (decide (a1 > (1099511627776 : Int))) ((([], ((), ())) : (List Int) × (Unit × Unit)) = ((fCover a0 a1), ((), ()))) (True ∧ ∀ (r1 : Int × (Unit × Unit)), ((r1 : Int × (Unit × Unit)) = ((fBucket a0), ((), ()))) → (True ∧ ∀ (r2 : Int × (Unit × Unit)), ((r2 : Int × (Unit × Unit)) = ((fBucket (IntKind.wrap .i64 (a1 - (1 : Int)))), ((), ()))) → (caseB (decide ((IntKind.wrap .i64 (r2.1 - r1.1)) ≥ (8 : Int))) ((([], ((), ())) : (List Int) × (Unit × Unit)) = ((fCover a0 a1), ((), ()))) (([(7, .val false [.int .i64 r2.1])] : List (Nat × Sv)) = [(7, .val false [.int .i64 r2.1])] ∧ ((covI a0 a1 r1.1 ([] : List Int)) ∧ ∀ (y3 : (Int × (List Int))), (covI a0 a1 y3.1 y3.2) → (caseB (decide (y3.1 ≤ r2.1)) (List.length y3.2 + List.length [y3.1] ≤ 9223372036854775807 ∧ ((List.length y3.2 + List.length [y3.1]) * 8 ≤ 140737488355328 ∧ (([(7, .val false [.int .i64 r2.1])] : List (Nat × Sv)) = [(7, .val false [.int .i64 r2.1])] ∧ (covI a0 a1 (IntKind.wrap .i64 (y3.1 + (1 : Int))) (y3.2 ++ [y3.1])) ∧ (covM a0 a1 (IntKind.wrap .i64 (y3.1 + (1 : Int))) (y3.2 ++ [y3.1])) < (covM a0 a1 y3.1 y3.2)))) (((y3.2, ((), ())) : (List Int) × (Unit × Unit)) = ((fCover a0 a1), ((), ()))))))))))))
def spec_Cover.L  (a0 : Int) (a1 : Int) : Nat → Option LoopAnn := fun p => Go.Proofs.Ytcbehcpmojnnfaa.Bv.look p [(1018, { kp := { hold := [7], slots := [5, 8], boxes := [], rows := [{ bx := false, s := 5, i := 0, k := 1000643, e := 3, hot := true }] }, T := (.pair (.int .i64) (.list (.int .i64))), I := fun st y => covI a0 a1 y.1 y.2, μ := fun st y => covM a0 a1 y.1 y.2 })]

theorem spec_Cover.pure  (a0 : Int) (a1 : Int) (h : True) (hw : Wf c_spec_Cover.A (a0, a1)) : spec_Cover.F a0 a1 := by
  unfold spec_Cover.F
  simp only [forall_eq, true_and, and_true, caseB_iff, Prod.mk.injEq, decide_eq_true_eq, decide_eq_false_iff_not]
  refine ⟨fun h1 => by simp [fCover, h1], fun h1 => ⟨fun h2 => by simp [fCover, h2], fun h2 => ⟨fun h3 => by simp [fCover, h3], fun h3 => ?_⟩⟩⟩
  have e0 : IntKind.wrap .i64 (a1 - 1) = a1 - 1 := Go.IntWalk.i64_in _ (by omega)
  have e1 : fBucket a0 = a0 / 100 := by unfold fBucket fIn; rw [if_pos (by simp; omega)]
  have e2 : fBucket (a1 - 1) = (a1 - 1) / 100 := by unfold fBucket fIn; rw [if_pos (by simp; omega)]
  have e3 : IntKind.wrap .i64 ((a1 - 1) / 100 - a0 / 100) = (a1 - 1) / 100 - a0 / 100 := Go.IntWalk.i64_in _ (by omega)
  simp only [e0, e1, e2, e3]
  refine ⟨fun h4 => by unfold fCover; rw [if_pos (by omega)], fun h4 => ⟨⟨by omega, by omega, by omega, by omega, by omega, by omega, by simp [upFrom]⟩, ?_⟩⟩
  rintro ⟨k, out⟩ hI
  simp only at hI ⊢
  refine ⟨fun hk => ?_, fun hk => cov_end hI hk⟩
  obtain ⟨h5, h6, h7, h8⟩ := cov_step hI hk
  rw [h6]
  exact ⟨by simp; omega, by simp; omega, h7, h8⟩

set_option maxRecDepth 100000 in
theorem spec_Cover.eq (i : El c_spec_Cover.I) (x : El c_spec_Cover.A) : vc tab (gam [(16, c_spec_BucketOf)] []) (spec_Cover.L x.1 x.2) (match Try.f24.body with | some c => c | none => .skip) 1 (initSt c_spec_Cover Try.f24.ntmps i x) (bodyK tab c_spec_Cover Try.f24.results.toList [32] i x) = spec_Cover.F x.1 x.2 := by kernel_rfl
theorem spec_Cover.ok : ConOk Try.prog 24 c_spec_Cover :=
  conOk_of_eq (con := c_spec_Cover) (tab := tab) (Γ := (gam [(16, c_spec_BucketOf)] [])) (fn := Try.f24) (c := (match Try.f24.body with | some c => c | none => .skip)) (fun i x => spec_Cover.L x.1 x.2) (fun i x => spec_Cover.F x.1 x.2) rfl tabOk (gam_cons ⟨_, Try.func16, rfl, rfl⟩ spec_BucketOf.ok (gam_nil _ [])) Try.func24 rfl [32] (by kernel_rfl) spec_Cover.eq fun i x h hi hw => spec_Cover.pure x.1 x.2 h hw

def c_impl_Cover : Con := { io := false, I := .unit, ownI := [], A := (.pair (.int .i64) (.int .i64)), shA := [.one, .one], ownA := [], backA := [], B := .unit, R := (.list (.int .i64)), shR := [(false, 1)], fresh := [(0, 3)], newR := false, pre := fun _ a => True, f := some fun _ a => ((fCover a.1 a.2), ((), ())) }
def impl_Cover.F  (a0 : Int) (a1 : Int) : Prop := (caseB (decide (a0 < (0 : Int))) ((([], ((), ())) : (List Int) × (Unit × Unit)) = ((fCover a0 a1), ((), ()))) (caseB (decide (a1 ≤ a0)) ((([], ((), ())) : (List Int) × (Unit × Unit)) = ((fCover a0 a1), ((), ()))) (caseB (decide (a1 > (1099511627776 : Int))) ((([], ((), ())) : (List Int) × (Unit × Unit)) = ((fCover a0 a1), ((), ()))) ((100 : Int) ≠ 0 ∧ ((100 : Int) ≠ 0 ∧ (caseB (decide ((IntKind.wrap .i64 ((IntKind.wrap .i64 (Int.tdiv (IntKind.wrap .i64 (a1 - (1 : Int))) (100 : Int))) - (IntKind.wrap .i64 (Int.tdiv a0 (100 : Int))))) ≥ (8 : Int))) ((([], ((), ())) : (List Int) × (Unit × Unit)) = ((fCover a0 a1), ((), ()))) (([(6, .val false [.int .i64 (IntKind.wrap .i64 (Int.tdiv (IntKind.wrap .i64 (a1 - (1 : Int))) (100 : Int)))])] : List (Nat × Sv)) = [(6, .val false [.int .i64 (IntKind.wrap .i64 (Int.tdiv (IntKind.wrap .i64 (a1 - (1 : Int))) (100 : Int)))])] ∧ ((covI a0 a1 (IntKind.wrap .i64 (Int.tdiv a0 (100 : Int))) ([] : List Int)) ∧ ∀ (y1 : (Int × (List Int))), (covI a0 a1 y1.1 y1.2) → (caseB (decide (y1.1 ≤ (IntKind.wrap .i64 (Int.tdiv (IntKind.wrap .i64 (a1 - (1 : Int))) (100 : Int))))) (List.length y1.2 + List.length [y1.1] ≤ 9223372036854775807 ∧ ((List.length y1.2 + List.length [y1.1]) * 8 ≤ 140737488355328 ∧ (([(6, .val false [.int .i64 (IntKind.wrap .i64 (Int.tdiv (IntKind.wrap .i64 (a1 - (1 : Int))) (100 : Int)))])] : List (Nat × Sv)) = [(6, .val false [.int .i64 (IntKind.wrap .i64 (Int.tdiv (IntKind.wrap .i64 (a1 - (1 : Int))) (100 : Int)))])] ∧ (covI a0 a1 (IntKind.wrap .i64 (y1.1 + (1 : Int))) (y1.2 ++ [y1.1])) ∧ (covM a0 a1 (IntKind.wrap .i64 (y1.1 + (1 : Int))) (y1.2 ++ [y1.1])) < (covM a0 a1 y1.1 y1.2)))) (((y1.2, ((), ())) : (List Int) × (Unit × Unit)) = ((fCover a0 a1), ((), ()))))))))))))
def impl_Cover.L  (a0 : Int) (a1 : Int) : Nat → Option LoopAnn := fun p => Go.Proofs.Ytcbehcpmojnnfaa.Bv.look p [(506, { kp := { hold := [6], slots := [7, 8], boxes := [], rows := [{ bx := false, s := 7, i := 0, k := 1000899, e := 3, hot := true }] }, T := (.pair (.int .i64) (.list (.int .i64))), I := fun st y => covI a0 a1 y.1 y.2, μ := fun st y => covM a0 a1 y.1 y.2 })]

theorem impl_Cover.pure  (a0 : Int) (a1 : Int) (h : True) (hw : Wf c_impl_Cover.A (a0, a1)) : impl_Cover.F a0 a1 := by
  unfold impl_Cover.F
  simp only [forall_eq, true_and, and_true, caseB_iff, Prod.mk.injEq, decide_eq_true_eq, decide_eq_false_iff_not]
  refine ⟨fun h1 => by simp [fCover, h1], fun h1 => ⟨fun h2 => by simp [fCover, h2], fun h2 => ⟨fun h3 => by simp [fCover, h3], fun h3 => ⟨by omega, by omega, ?_⟩⟩⟩⟩
  have e0 : IntKind.wrap .i64 (a1 - 1) = a1 - 1 := Go.IntWalk.i64_in _ (by omega)
  have e1 : IntKind.wrap .i64 (Int.tdiv a0 100) = a0 / 100 := by rw [Int.tdiv_eq_ediv_of_nonneg (by omega)]; exact Go.IntWalk.i64_in _ (by omega)
  have e2 : IntKind.wrap .i64 (Int.tdiv (a1 - 1) 100) = (a1 - 1) / 100 := by rw [Int.tdiv_eq_ediv_of_nonneg (by omega)]; exact Go.IntWalk.i64_in _ (by omega)
  have e3 : IntKind.wrap .i64 ((a1 - 1) / 100 - a0 / 100) = (a1 - 1) / 100 - a0 / 100 := Go.IntWalk.i64_in _ (by omega)
  simp only [e0, e1, e2, e3]
  refine ⟨fun h4 => by unfold fCover; rw [if_pos (by omega)], fun h4 => ⟨⟨by omega, by omega, by omega, by omega, by omega, by omega, by simp [upFrom]⟩, ?_⟩⟩
  rintro ⟨k, out⟩ hI
  simp only at hI ⊢
  refine ⟨fun hk => ?_, fun hk => cov_end hI hk⟩
  obtain ⟨h5, h6, h7, h8⟩ := cov_step hI hk
  rw [h6]
  exact ⟨by simp; omega, by simp; omega, h7, h8⟩

set_option maxRecDepth 100000 in
theorem impl_Cover.eq (i : El c_impl_Cover.I) (x : El c_impl_Cover.A) : vc tab (gam [] []) (impl_Cover.L x.1 x.2) (match Try.f25.body with | some c => c | none => .skip) 1 (initSt c_impl_Cover Try.f25.ntmps i x) (bodyK tab c_impl_Cover Try.f25.results.toList [32] i x) = impl_Cover.F x.1 x.2 := by kernel_rfl
theorem impl_Cover.ok : ConOk Try.prog 25 c_impl_Cover :=
  conOk_of_eq (con := c_impl_Cover) (tab := tab) (Γ := (gam [] [])) (fn := Try.f25) (c := (match Try.f25.body with | some c => c | none => .skip)) (fun i x => impl_Cover.L x.1 x.2) (fun i x => impl_Cover.F x.1 x.2) rfl tabOk (gam_nil _ []) Try.func25 rfl [32] (by kernel_rfl) impl_Cover.eq fun i x h hi hw => impl_Cover.pure x.1 x.2 h hw

def c_laws_markIntS : Con := { io := false, I := .unit, ownI := [], A := (.pair (.list (.int .i64)) (.int .i64)), shA := [.one, .one], ownA := [], backA := [(0, 3)], B := (.list (.int .i64)), R := (.int .i64), shR := [(false, 1)], fresh := [], newR := false, pre := fun _ a => (pMark a.1 a.2), f := some fun _ a => ((fMark a.1 a.2).1, ((), (fMark a.1 a.2).2)) }
def laws_markIntS.F  (a0 : (List Int)) (a1 : Int) : Prop := (([(0, .val false [.own (.int .i64) 2])] : List (Nat × Sv)) = [(0, .val false [.own (.int .i64) 2])] ∧ ((markI a0 a1 a1 0 a0) ∧ ∀ (y1 : (Int × (Int × (List Int)))), (markI a0 a1 y1.1 y1.2.1 y1.2.2) → (caseB (decide (y1.2.1 < ((List.length y1.2.2 : Nat) : Int))) (0 ≤ y1.2.1 ∧ (y1.2.1 < ((List.length y1.2.2 : Nat) : Int) ∧ (([(0, .val false [.own (.int .i64) 2])] : List (Nat × Sv)) = [(0, .val false [.own (.int .i64) 2])] ∧ (markI a0 a1 (IntKind.wrap .i64 (y1.1 + (1 : Int))) (IntKind.wrap .i64 (y1.2.1 + (1 : Int))) (List.set y1.2.2 (Int.toNat y1.2.1) y1.1)) ∧ (markM a0 a1 (IntKind.wrap .i64 (y1.1 + (1 : Int))) (IntKind.wrap .i64 (y1.2.1 + (1 : Int))) (List.set y1.2.2 (Int.toNat y1.2.1) y1.1)) < (markM a0 a1 y1.1 y1.2.1 y1.2.2)))) (((y1.1, ((), y1.2.2)) : Int × (Unit × (List Int))) = ((fMark a0 a1).1, ((), (fMark a0 a1).2))))))
def laws_markIntS.L  (a0 : (List Int)) (a1 : Int) : Nat → Option LoopAnn := fun p => Go.Proofs.Ytcbehcpmojnnfaa.Bv.look p [(26, { kp := { hold := [0], slots := [1, 5], boxes := [], rows := [{ bx := false, s := 0, i := 0, k := 2, e := 3, hot := true }] }, T := (.pair (.int .i64) (.pair (.int .i64) (.list (.int .i64)))), I := fun st y => markI a0 a1 y.1 y.2.1 y.2.2, μ := fun st y => markM a0 a1 y.1 y.2.1 y.2.2 })]

theorem laws_markIntS.pure  (a0 : (List Int)) (a1 : Int) (h : (pMark a0 a1)) (hw : Wf c_laws_markIntS.A (a0, a1)) : laws_markIntS.F a0 a1 := by
  unfold laws_markIntS.F
  obtain ⟨p1, p2, p3⟩ := h
  simp only [forall_eq, true_and, and_true, caseB_iff, Prod.mk.injEq, decide_eq_true_eq, decide_eq_false_iff_not]
  refine ⟨⟨by omega, by omega, by omega, by simp [upFrom]⟩, ?_⟩
  rintro ⟨k, i, l⟩ ⟨h1, h2, h3, h4⟩
  simp only at h1 h2 h3 h4 ⊢
  have hl : l.length = a0.length := by rw [h4, List.length_append, upFrom_length, List.length_drop]; omega
  rw [hl]
  refine ⟨fun hi => ⟨h1, hi, ?_, ?_⟩, fun hi => ?_⟩
  · have e1 : IntKind.wrap .i64 (k + 1) = k + 1 := Go.IntWalk.i64_in _ (by omega)
    have e2 : IntKind.wrap .i64 (i + 1) = i + 1 := Go.IntWalk.i64_in _ (by omega)
    rw [e1, e2]
    refine ⟨by omega, by omega, by omega, ?_⟩
    have e3 : (i + 1).toNat = i.toNat + 1 := by omega
    rw [e3, h4, set_mid _ _ _ _ (upFrom_length _ _) (by omega), upFrom_succ]
    congr 3
    omega
  · have e2 : IntKind.wrap .i64 (i + 1) = i + 1 := Go.IntWalk.i64_in _ (by omega)
    rw [e2]; unfold markM; omega
  · have e : i = a0.length := by omega
    subst e
    refine ⟨by simp [fMark, h3], ?_⟩
    rw [h4]
    simp [fMark]

set_option maxRecDepth 100000 in
theorem laws_markIntS.eq (i : El c_laws_markIntS.I) (x : El c_laws_markIntS.A) : vc tab (gam [] []) (laws_markIntS.L x.1 x.2) (match Try.f27.body with | some c => c | none => .skip) 1 (initSt c_laws_markIntS Try.f27.ntmps i x) (bodyK tab c_laws_markIntS Try.f27.results.toList [3] i x) = laws_markIntS.F x.1 x.2 := by kernel_rfl
theorem laws_markIntS.ok : ConOk Try.prog 27 c_laws_markIntS :=
  conOk_of_eq (con := c_laws_markIntS) (tab := tab) (Γ := (gam [] [])) (fn := Try.f27) (c := (match Try.f27.body with | some c => c | none => .skip)) (fun i x => laws_markIntS.L x.1 x.2) (fun i x => laws_markIntS.F x.1 x.2) rfl tabOk (gam_nil _ []) Try.func27 rfl [3] (by kernel_rfl) laws_markIntS.eq fun i x h hi hw => laws_markIntS.pure x.1 x.2 h hw

def c_laws_heldIntS : Con := { io := false, I := .unit, ownI := [], A := (.pair (.list (.int .i64)) (.int .i64)), shA := [.one, .one], ownA := [], backA := [], B := .unit, R := (.int .i64), shR := [(false, 1)], fresh := [], newR := false, pre := fun _ a => (pMark a.1 a.2), f := some fun _ a => ((fHeld a.1 a.2), ((), ())) }
def laws_heldIntS.F  (a0 : (List Int)) (a1 : Int) : Prop := (([(0, .val false [.lst (.int .i64) a0 none])] : List (Nat × Sv)) = [(0, .val false [.lst (.int .i64) a0 none])] ∧ ((heldI a0 a1 a1 0) ∧ ∀ (y1 : (Int × Int)), (heldI a0 a1 y1.1 y1.2) → (caseB (decide (y1.2 < ((List.length a0 : Nat) : Int))) (0 ≤ y1.2 ∧ (y1.2 < ((List.length a0 : Nat) : Int) ∧ (caseB ((List.getD a0 (Int.toNat y1.2) (0 : Int)) != y1.1) ((((-1), ((), ())) : Int × (Unit × Unit)) = ((fHeld a0 a1), ((), ()))) (([(0, .val false [.lst (.int .i64) a0 none])] : List (Nat × Sv)) = [(0, .val false [.lst (.int .i64) a0 none])] ∧ (heldI a0 a1 (IntKind.wrap .i64 (y1.1 + (1 : Int))) (IntKind.wrap .i64 (y1.2 + (1 : Int)))) ∧ (heldM a0 a1 (IntKind.wrap .i64 (y1.1 + (1 : Int))) (IntKind.wrap .i64 (y1.2 + (1 : Int)))) < (heldM a0 a1 y1.1 y1.2))))) (((y1.1, ((), ())) : Int × (Unit × Unit)) = ((fHeld a0 a1), ((), ()))))))
def laws_heldIntS.L  (a0 : (List Int)) (a1 : Int) : Nat → Option LoopAnn := fun p => Go.Proofs.Ytcbehcpmojnnfaa.Bv.look p [(26, { kp := { hold := [0], slots := [1, 5], boxes := [], rows := [] }, T := (.pair (.int .i64) (.int .i64)), I := fun st y => heldI a0 a1 y.1 y.2, μ := fun st y => heldM a0 a1 y.1 y.2 })]

theorem laws_heldIntS.pure  (a0 : (List Int)) (a1 : Int) (h : (pMark a0 a1)) (hw : Wf c_laws_heldIntS.A (a0, a1)) : laws_heldIntS.F a0 a1 := by
  unfold laws_heldIntS.F
  obtain ⟨p1, p2, p3⟩ := h
  simp only [forall_eq, true_and, and_true, caseB_iff, Prod.mk.injEq, decide_eq_true_eq, decide_eq_false_iff_not]
  refine ⟨⟨by omega, by omega, by omega, by simp [upFrom]⟩, ?_⟩
  rintro ⟨k, i⟩ ⟨h1, h2, h3, h4⟩
  simp only at h1 h2 h3 h4 ⊢
  refine ⟨fun hi => ⟨h1, hi, fun hne => ?_, fun he => ?_⟩, fun hi => ?_⟩
  · unfold fHeld
    rw [if_neg]
    intro e
    have hg : a0.getD i.toNat 0 = a1 + (i.toNat : Int) := by
      rw [e, List.getD_eq_getElem?_getD]
      simp only [upFrom, List.getElem?_map]
      rw [List.getElem?_range (by omega)]
      rfl
    simp only [bne_iff_ne, ne_eq] at hne
    exact hne (by rw [hg]; omega)
  · have hg : a0.getD i.toNat 0 = k := by simpa using he
    have e1 : IntKind.wrap .i64 (k + 1) = k + 1 := Go.IntWalk.i64_in _ (by omega)
    have e2 : IntKind.wrap .i64 (i + 1) = i + 1 := Go.IntWalk.i64_in _ (by omega)
    rw [e1, e2]
    have e3 : (i + 1).toNat = i.toNat + 1 := by omega
    refine ⟨⟨by omega, by omega, by omega, ?_⟩, by unfold heldM; omega⟩
    rw [e3, take_more (by omega), h4, upFrom_succ, hg]
    congr 2
    omega
  · have e : i = a0.length := by omega
    subst e
    simp only [Int.toNat_natCast, List.take_length] at h4
    unfold fHeld
    rw [if_pos h4, h3]

set_option maxRecDepth 100000 in
theorem laws_heldIntS.eq (i : El c_laws_heldIntS.I) (x : El c_laws_heldIntS.A) : vc tab (gam [] []) (laws_heldIntS.L x.1 x.2) (match Try.f28.body with | some c => c | none => .skip) 1 (initSt c_laws_heldIntS Try.f28.ntmps i x) (bodyK tab c_laws_heldIntS Try.f28.results.toList [3] i x) = laws_heldIntS.F x.1 x.2 := by kernel_rfl
theorem laws_heldIntS.ok : ConOk Try.prog 28 c_laws_heldIntS :=
  conOk_of_eq (con := c_laws_heldIntS) (tab := tab) (Γ := (gam [] [])) (fn := Try.f28) (c := (match Try.f28.body with | some c => c | none => .skip)) (fun i x => laws_heldIntS.L x.1 x.2) (fun i x => laws_heldIntS.F x.1 x.2) rfl tabOk (gam_nil _ []) Try.func28 rfl [3] (by kernel_rfl) laws_heldIntS.eq fun i x h hi hw => laws_heldIntS.pure x.1 x.2 h hw

def c_laws_eqIntS : Con := { io := false, I := .unit, ownI := [], A := (.pair (.list (.int .i64)) (.list (.int .i64))), shA := [.one, .one], ownA := [], backA := [], B := .unit, R := .bool, shR := [(false, 1)], fresh := [], newR := false, pre := fun _ a => True, f := some fun _ a => ((fEq a.1 a.2), ((), ())) }
def laws_eqIntS.F  (a0 : (List Int)) (a1 : (List Int)) : Prop := (caseB (((List.length a0 : Nat) : Int) != ((List.length a1 : Nat) : Int)) (((false, ((), ())) : Bool × (Unit × Unit)) = ((fEq a0 a1), ((), ()))) (([(0, .val false [.lst (.int .i64) a0 none]), (1, .val false [.lst (.int .i64) a1 none])] : List (Nat × Sv)) = [(0, .val false [.lst (.int .i64) a0 none]), (1, .val false [.lst (.int .i64) a1 none])] ∧ ((eqI a0 a1 0) ∧ ∀ (y1 : Int), (eqI a0 a1 y1) → (caseB (decide (y1 < ((List.length a0 : Nat) : Int))) (0 ≤ y1 ∧ (y1 < ((List.length a0 : Nat) : Int) ∧ (0 ≤ y1 ∧ (y1 < ((List.length a1 : Nat) : Int) ∧ (caseB ((List.getD a0 (Int.toNat y1) (0 : Int)) != (List.getD a1 (Int.toNat y1) (0 : Int))) (((false, ((), ())) : Bool × (Unit × Unit)) = ((fEq a0 a1), ((), ()))) (([(0, .val false [.lst (.int .i64) a0 none]), (1, .val false [.lst (.int .i64) a1 none])] : List (Nat × Sv)) = [(0, .val false [.lst (.int .i64) a0 none]), (1, .val false [.lst (.int .i64) a1 none])] ∧ (eqI a0 a1 (IntKind.wrap .i64 (y1 + (1 : Int)))) ∧ (eqM a0 a1 (IntKind.wrap .i64 (y1 + (1 : Int)))) < (eqM a0 a1 y1))))))) (((true, ((), ())) : Bool × (Unit × Unit)) = ((fEq a0 a1), ((), ())))))))
def laws_eqIntS.L  (a0 : (List Int)) (a1 : (List Int)) : Nat → Option LoopAnn := fun p => Go.Proofs.Ytcbehcpmojnnfaa.Bv.look p [(58, { kp := { hold := [0, 1], slots := [5], boxes := [], rows := [] }, T := (.int .i64), I := fun st y => eqI a0 a1 y, μ := fun st y => eqM a0 a1 y })]

theorem laws_eqIntS.pure  (a0 : (List Int)) (a1 : (List Int)) (h : True) (hw : Wf c_laws_eqIntS.A (a0, a1)) : laws_eqIntS.F a0 a1 := by
  unfold laws_eqIntS.F
  have hw1 : a0.length ≤ maxLen := hw.1.1
  unfold maxLen at hw1
  simp only [forall_eq, true_and, and_true, caseB_iff, Prod.mk.injEq, decide_eq_true_eq, decide_eq_false_iff_not]
  refine ⟨fun h1 => ?_, fun h1 => ?_⟩
  · have : a0 ≠ a1 := fun e => by subst e; simp at h1
    simp [fEq, this]
  have hl : a0.length = a1.length := by simp at h1; omega
  refine ⟨⟨by omega, by omega, hl, by simp⟩, ?_⟩
  rintro i ⟨h2, h3, h4, h5⟩
  refine ⟨fun hi => ⟨h2, hi, h2, by omega, fun hne => ?_, fun he => ?_⟩, fun hi => ?_⟩
  · have : a0 ≠ a1 := fun e => by subst e; simp at hne
    simp [fEq, this]
  · have hg : a0.getD i.toNat 0 = a1.getD i.toNat 0 := by simpa using he
    have e2 : IntKind.wrap .i64 (i + 1) = i + 1 := Go.IntWalk.i64_in _ (by omega)
    rw [e2]
    have e3 : (i + 1).toNat = i.toNat + 1 := by omega
    refine ⟨⟨by omega, by omega, hl, ?_⟩, by unfold eqM; omega⟩
    rw [e3, take_more (by omega), take_more (by omega), h5, hg]
  · have e : i = a0.length := by omega
    subst e
    have h6 : a0 = a1 := by
      rw [Int.toNat_natCast, List.take_length, hl, List.take_length] at h5
      exact h5
    simp [fEq, h6]

set_option maxRecDepth 100000 in
theorem laws_eqIntS.eq (i : El c_laws_eqIntS.I) (x : El c_laws_eqIntS.A) : vc tab (gam [] []) (laws_eqIntS.L x.1 x.2) (match Try.f26.body with | some c => c | none => .skip) 1 (initSt c_laws_eqIntS Try.f26.ntmps i x) (bodyK tab c_laws_eqIntS Try.f26.results.toList [4] i x) = laws_eqIntS.F x.1 x.2 := by kernel_rfl
theorem laws_eqIntS.ok : ConOk Try.prog 26 c_laws_eqIntS :=
  conOk_of_eq (con := c_laws_eqIntS) (tab := tab) (Γ := (gam [] [])) (fn := Try.f26) (c := (match Try.f26.body with | some c => c | none => .skip)) (fun i x => laws_eqIntS.L x.1 x.2) (fun i x => laws_eqIntS.F x.1 x.2) rfl tabOk (gam_nil _ []) Try.func26 rfl [4] (by kernel_rfl) laws_eqIntS.eq fun i x h hi hw => laws_eqIntS.pure x.1 x.2 h hw

def laws_FnExactCover.F  (a0 : Int) (a1 : Int) : Prop := (True ∧ ∀ (r1 : (List Int) × (Unit × Unit)), ((r1 : (List Int) × (Unit × Unit)) = ((fCover a0 a1), ((), ()))) → (True ∧ ∀ (r2 : (List Int) × (Unit × Unit)), ((r2 : (List Int) × (Unit × Unit)) = ((fCover a0 a1), ((), ()))) → (True ∧ ∀ (r3 : Bool × (Unit × Unit)), ((r3 : Bool × (Unit × Unit)) = ((fEq r2.1 r1.1), ((), ()))) → (caseB (!r3.1) (((false, ((), ())) : Bool × (Unit × Unit)) = (true, ((), ()))) ((pMark r2.1 1) ∧ ∀ (r4 : Int × (Unit × (List Int))), ((r4 : Int × (Unit × (List Int))) = ((fMark r2.1 1).1, ((), (fMark r2.1 1).2))) → ((pMark r4.2.2 1) ∧ ∀ (r5 : Int × (Unit × Unit)), ((r5 : Int × (Unit × Unit)) = ((fHeld r4.2.2 1), ((), ()))) → (caseB (decide (r5.1 < (0 : Int))) (((false, ((), ())) : Bool × (Unit × Unit)) = (true, ((), ()))) (caseB (r5.1 != r4.1) (((false, ((), ())) : Bool × (Unit × Unit)) = (true, ((), ()))) (True ∧ ∀ (r6 : (List Int) × (Unit × Unit)), ((r6 : (List Int) × (Unit × Unit)) = ((fCover a0 a1), ((), ()))) → (True ∧ ∀ (r7 : Bool × (Unit × Unit)), ((r7 : Bool × (Unit × Unit)) = ((fEq r6.1 r1.1), ((), ()))) → (caseB (!r7.1) (((false, ((), ())) : Bool × (Unit × Unit)) = (true, ((), ()))) ((pMark r4.2.2 1) ∧ ∀ (r8 : Int × (Unit × Unit)), ((r8 : Int × (Unit × Unit)) = ((fHeld r4.2.2 1), ((), ()))) → (caseB (decide (r8.1 < (0 : Int))) (((false, ((), ())) : Bool × (Unit × Unit)) = (true, ((), ()))) (caseB (r8.1 != r4.1) (((false, ((), ())) : Bool × (Unit × Unit)) = (true, ((), ()))) (((true, ((), ())) : Bool × (Unit × Unit)) = (true, ((), ())))))))))))))))))
def laws_FnExactCover.L  (a0 : Int) (a1 : Int) : Nat → Option LoopAnn := fun p => Go.Proofs.Ytcbehcpmojnnfaa.Bv.look p []

theorem laws_FnExactCover.pure  (a0 : Int) (a1 : Int) (h : WfD (.pair (.int .i64) (.int .i64)) (a0, a1)) (hw : Wf (lawCon (.pair (.int .i64) (.int .i64)) [.one, .one]).A (a0, a1)) : laws_FnExactCover.F a0 a1 := by
  unfold laws_FnExactCover.F
  have hlen : (fCover a0 a1).length ≤ 8 := by
    unfold fCover
    split
    · simp
    · rw [upFrom_length]; omega
  have hp : pMark (fCover a0 a1) 1 := ⟨by omega, by omega, by omega⟩
  have hp2 : pMark (upFrom 1 (fCover a0 a1).length) 1 := ⟨by rw [upFrom_length]; omega, by omega, by omega⟩
  have hf : fHeld (upFrom 1 (fCover a0 a1).length) 1 = 1 + ((fCover a0 a1).length : Int) := by
    unfold fHeld
    rw [upFrom_length, if_pos rfl]
  have he : fEq (fCover a0 a1) (fCover a0 a1) = true := by simp [fEq]
  simp only [forall_eq, true_and, and_true, caseB_iff, fMark, he, hf, hp, hp2]
  simp
  omega

set_option maxRecDepth 100000 in
theorem laws_FnExactCover.eq (i : El (lawCon (.pair (.int .i64) (.int .i64)) [.one, .one]).I) (x : El (lawCon (.pair (.int .i64) (.int .i64)) [.one, .one]).A) : vc tab (gam [(24, c_spec_Cover), (25, c_impl_Cover), (26, c_laws_eqIntS), (27, c_laws_markIntS), (28, c_laws_heldIntS)] []) (laws_FnExactCover.L x.1 x.2) (match Try.f6.body with | some c => c | none => .skip) 1 (initSt (lawCon (.pair (.int .i64) (.int .i64)) [.one, .one]) Try.f6.ntmps i x) (bodyK tab (lawCon (.pair (.int .i64) (.int .i64)) [.one, .one]) Try.f6.results.toList [4] i x) = laws_FnExactCover.F x.1 x.2 := by kernel_rfl
theorem laws_FnExactCover.ok : ConOk Try.prog 6 (lawCon (.pair (.int .i64) (.int .i64)) [.one, .one]) :=
  conOk_of_eq (con := (lawCon (.pair (.int .i64) (.int .i64)) [.one, .one])) (tab := tab) (Γ := (gam [(24, c_spec_Cover), (25, c_impl_Cover), (26, c_laws_eqIntS), (27, c_laws_markIntS), (28, c_laws_heldIntS)] [])) (fn := Try.f6) (c := (match Try.f6.body with | some c => c | none => .skip)) (fun i x => laws_FnExactCover.L x.1 x.2) (fun i x => laws_FnExactCover.F x.1 x.2) rfl tabOk (gam_cons ⟨_, Try.func24, rfl, rfl⟩ spec_Cover.ok (gam_cons ⟨_, Try.func25, rfl, rfl⟩ impl_Cover.ok (gam_cons ⟨_, Try.func26, rfl, rfl⟩ laws_eqIntS.ok (gam_cons ⟨_, Try.func27, rfl, rfl⟩ laws_markIntS.ok (gam_cons ⟨_, Try.func28, rfl, rfl⟩ laws_heldIntS.ok (gam_nil _ [])))))) Try.func6 rfl [4] (by kernel_rfl) laws_FnExactCover.eq fun i x h hi hw => laws_FnExactCover.pure x.1 x.2 h hw

end Go.Proofs.Ytcbehcpmojnnfaa.B
