/- Numbers in a range; a number as bytes of seven bits. -/
import Derived.Test.YtcbehcpmojnnfaaBTab
namespace Go.Proofs.Ytcbehcpmojnnfaa.B
set_option linter.unusedVariables false
set_option linter.unusedSimpArgs false
open Go Go.Proofs.Ytcbehcpmojnnfaa.Bv

def fIn (a l h : Int) : Bool := decide (l ≤ a) && decide (a ≤ h)
def fTime (a : Int) : Bool := fIn a 0 1099511627776

/-- A number as bytes of seven bits, the lowest first; all but the last have the top bit. -/
def vb (n : Nat) : List Int := if n < 128 then [(n : Int)] else (((128 + n % 128 : Nat) : Int)) :: vb (n / 128)
termination_by n
decreasing_by omega

theorem vb_small {n : Nat} (h : n < 128) : vb n = [(n : Int)] := by rw [vb, if_pos h]
theorem vb_big {n : Nat} (h : ¬ n < 128) : vb n = (((128 + n % 128 : Nat) : Int)) :: vb (n / 128) := by rw [vb, if_neg h]

theorem vb_length : ∀ (k n : Nat), n < 128 ^ (k + 1) → (vb n).length ≤ k + 1
  | 0, n, h => by rw [vb_small (by simpa using h)]; simp
  | k + 1, n, h => by
    by_cases hn : n < 128
    · rw [vb_small hn]; simp
    · rw [vb_big hn]
      have := vb_length k (n / 128) (by rw [Nat.div_lt_iff_lt_mul (by omega)]; rw [Nat.pow_succ] at h; exact h)
      simp; omega

def toBytes (l : List Int) : List UInt8 := l.map fun n => UInt8.ofNat n.toNat

def fVar (n : Int) : List UInt8 := if fIn n 0 562949953421311 then toBytes (vb n.toNat) else []

theorem fVar_length (n : Int) : (fVar n).length ≤ 7 := by
  unfold fVar
  split
  · rename_i h
    simp only [fIn, Bool.and_eq_true, decide_eq_true_eq] at h
    simp only [toBytes, List.length_map]
    exact vb_length 6 n.toNat (by omega)
  · simp

/-- At the head of the loop: what is written, and what is still to be written. -/
def varI (n0 n : Int) (out : List Int) : Prop := 0 ≤ n ∧ n ≤ 562949953421311 ∧ out ++ vb n.toNat = vb n0.toNat
def varM (n0 n : Int) (out : List Int) : Nat := n.toNat

def c_spec_l1In : Con := { io := false, I := .unit, A := (.pair (.int .i64) (.pair (.int .i64) (.int .i64))), shA := [.one, .one, .one], R := .bool, shR := [(false, 1)], fresh := [], pre := fun _ a => True, f := fun _ a => ((fIn a.1 a.2.1 a.2.2), ()) }
def spec_l1In.F  (a0 : Int) (a1 : Int) (a2 : Int) : Prop := (caseB (decide (a0 ≥ a1)) (((decide (a0 ≤ a2)) : Bool) = (fIn a0 a1 a2) ∧ True) ((false : Bool) = (fIn a0 a1 a2) ∧ True))
def spec_l1In.L  (a0 : Int) (a1 : Int) (a2 : Int) : Nat → Option LoopAnn := fun p => Go.Proofs.Ytcbehcpmojnnfaa.Bv.look p []

theorem spec_l1In.pure  (a0 : Int) (a1 : Int) (a2 : Int) (h : True) (hw : Wf c_spec_l1In.A (a0, a1, a2)) : spec_l1In.F a0 a1 a2 := by
  unfold spec_l1In.F fIn
  simp only [caseB_iff, and_true, decide_eq_true_eq, decide_eq_false_iff_not]
  exact ⟨fun h => by simp [h], fun h => by simp [h]⟩

set_option maxRecDepth 100000 in
theorem spec_l1In.eq (i : El c_spec_l1In.I) (x : El c_spec_l1In.A) : vc tab (gam []) (spec_l1In.L x.1 x.2.1 x.2.2) (match Try.f67.body with | some c => c | none => .skip) 1 (initSt c_spec_l1In Try.f67.ntmps i x) (bodyK tab c_spec_l1In Try.f67.results.toList [4] i x) = spec_l1In.F x.1 x.2.1 x.2.2 := by kernel_rfl
theorem spec_l1In.ok : ConOk Try.prog 67 c_spec_l1In :=
  conOk_of_vc (con := c_spec_l1In) (tab := tab) (fun i x => spec_l1In.L x.1 x.2.1 x.2.2) rfl tabOk (gam_nil _) Try.func67 rfl [4] (by decide) fun i x h hi hw => (spec_l1In.eq i x).mpr (spec_l1In.pure x.1 x.2.1 x.2.2 h hw)

def c_impl_from : Con := { io := false, I := .unit, A := (.pair (.int .i64) (.pair (.int .i64) (.int .i64))), shA := [.one, .one, .one], R := .bool, shR := [(false, 1)], fresh := [], pre := fun _ a => True, f := fun _ a => ((fIn a.1 a.2.1 a.2.2), ()) }
def impl_from.F  (a0 : Int) (a1 : Int) (a2 : Int) : Prop := (caseB (decide (a0 ≥ a1)) (((decide (a0 ≤ a2)) : Bool) = (fIn a0 a1 a2) ∧ True) ((false : Bool) = (fIn a0 a1 a2) ∧ True))
def impl_from.L  (a0 : Int) (a1 : Int) (a2 : Int) : Nat → Option LoopAnn := fun p => Go.Proofs.Ytcbehcpmojnnfaa.Bv.look p []

theorem impl_from.pure  (a0 : Int) (a1 : Int) (a2 : Int) (h : True) (hw : Wf c_impl_from.A (a0, a1, a2)) : impl_from.F a0 a1 a2 := by
  unfold impl_from.F fIn
  simp only [caseB_iff, and_true, decide_eq_true_eq, decide_eq_false_iff_not]
  exact ⟨fun h => by simp [h], fun h => by simp [h]⟩

set_option maxRecDepth 100000 in
theorem impl_from.eq (i : El c_impl_from.I) (x : El c_impl_from.A) : vc tab (gam []) (impl_from.L x.1 x.2.1 x.2.2) (match Try.f68.body with | some c => c | none => .skip) 1 (initSt c_impl_from Try.f68.ntmps i x) (bodyK tab c_impl_from Try.f68.results.toList [4] i x) = impl_from.F x.1 x.2.1 x.2.2 := by kernel_rfl
theorem impl_from.ok : ConOk Try.prog 68 c_impl_from :=
  conOk_of_vc (con := c_impl_from) (tab := tab) (fun i x => impl_from.L x.1 x.2.1 x.2.2) rfl tabOk (gam_nil _) Try.func68 rfl [4] (by decide) fun i x h hi hw => (impl_from.eq i x).mpr (impl_from.pure x.1 x.2.1 x.2.2 h hw)

def c_impl_isTime : Con := { io := false, I := .unit, A := (.int .i64), shA := [.one], R := .bool, shR := [(false, 1)], fresh := [], pre := fun _ a => True, f := fun _ a => ((fTime a), ()) }
def impl_isTime.F  (a0 : Int) : Prop := (True ∧ ∀ (r1 : Bool × Unit), r1 = ((fIn a0 0 1099511627776), ()) → ((r1.1 : Bool) = (fTime a0) ∧ True))
def impl_isTime.L  (a0 : Int) : Nat → Option LoopAnn := fun p => Go.Proofs.Ytcbehcpmojnnfaa.Bv.look p []

theorem impl_isTime.pure  (a0 : Int) (h : True) (hw : Wf c_impl_isTime.A a0) : impl_isTime.F a0 := by
  unfold impl_isTime.F
  simp only [forall_eq, true_and, and_true]
  rfl

set_option maxRecDepth 100000 in
theorem impl_isTime.eq (i : El c_impl_isTime.I) (x : El c_impl_isTime.A) : vc tab (gam [(68, c_impl_from)]) (impl_isTime.L x) (match Try.f69.body with | some c => c | none => .skip) 1 (initSt c_impl_isTime Try.f69.ntmps i x) (bodyK tab c_impl_isTime Try.f69.results.toList [4] i x) = impl_isTime.F x := by kernel_rfl
theorem impl_isTime.ok : ConOk Try.prog 69 c_impl_isTime :=
  conOk_of_vc (con := c_impl_isTime) (tab := tab) (fun i x => impl_isTime.L x) rfl tabOk (gam_cons ⟨_, Try.func68, rfl, rfl⟩ impl_from.ok (gam_nil _)) Try.func69 rfl [4] (by decide) fun i x h hi hw => (impl_isTime.eq i x).mpr (impl_isTime.pure x h hw)

def c_spec_Var : Con := { io := false, I := .unit, A := (.int .i64), shA := [.one], R := .str, shR := [(false, 1)], fresh := [], pre := fun _ a => True, f := fun _ a => ((fVar a), ()) }
def spec_Var.F  (a0 : Int) : Prop := (True ∧ ∀ (r1 : Bool × Unit), r1 = ((fIn a0 0 562949953421311), ()) → (caseB (!r1.1) (([] : (List UInt8)) = (fVar a0) ∧ True) ((varI a0 a0 []) ∧ ∀ (y2 : (Int × (List Int))), (varI a0 y2.1 y2.2) → (caseB (decide (y2.1 ≥ (128 : Int))) ((128 : Int) ≠ 0 ∧ (List.length y2.2 + List.length [(IntKind.wrap .u8 (IntKind.wrap .i64 ((128 : Int) + (Int.tmod y2.1 (128 : Int)))))] ≤ 9223372036854775807 ∧ ((List.length y2.2 + List.length [(IntKind.wrap .u8 (IntKind.wrap .i64 ((128 : Int) + (Int.tmod y2.1 (128 : Int)))))]) * 1 ≤ 140737488355328 ∧ ((128 : Int) ≠ 0 ∧ (([] : List (Nat × Sv)) = [] ∧ (varI a0 (IntKind.wrap .i64 (Int.tdiv y2.1 (128 : Int))) (y2.2 ++ [(IntKind.wrap .u8 (IntKind.wrap .i64 ((128 : Int) + (Int.tmod y2.1 (128 : Int)))))])) ∧ (varM a0 (IntKind.wrap .i64 (Int.tdiv y2.1 (128 : Int))) (y2.2 ++ [(IntKind.wrap .u8 (IntKind.wrap .i64 ((128 : Int) + (Int.tmod y2.1 (128 : Int)))))])) < (varM a0 y2.1 y2.2)))))) (List.length y2.2 + List.length [(IntKind.wrap .u8 y2.1)] ≤ 9223372036854775807 ∧ ((List.length y2.2 + List.length [(IntKind.wrap .u8 y2.1)]) * 1 ≤ 140737488355328 ∧ (((List.map (fun n => UInt8.ofNat (Int.toNat n)) (y2.2 ++ [(IntKind.wrap .u8 y2.1)])) : (List UInt8)) = (fVar a0) ∧ True)))))))
def spec_Var.L  (a0 : Int) : Nat → Option LoopAnn := fun p => Go.Proofs.Ytcbehcpmojnnfaa.Bv.look p [(60, { kp := { hold := [], slots := [0, 3], boxes := [], rows := [(3, 0, 1000195, 5)] }, T := (.pair (.int .i64) (.list (.int .u8))), I := fun st y => varI a0 y.1 y.2, μ := fun st y => varM a0 y.1 y.2 })]

theorem spec_Var.pure  (a0 : Int) (h : True) (hw : Wf c_spec_Var.A a0) : spec_Var.F a0 := by
  unfold spec_Var.F
  simp only [forall_eq, true_and, and_true, caseB_iff, Bool.not_eq_true', Bool.not_eq_false', decide_eq_true_eq, decide_eq_false_iff_not, List.length_cons, List.length_nil]
  refine ⟨fun h1 => by simp [fVar, h1], fun h1 => ?_⟩
  have hin := h1
  simp only [fIn, Bool.and_eq_true, decide_eq_true_eq] at hin
  have hlen := vb_length 6 a0.toNat (by omega)
  refine ⟨⟨hin.1, hin.2, rfl⟩, ?_⟩
  rintro ⟨n, out⟩ ⟨h2, h3, h4⟩
  simp only at h2 h3 h4 ⊢
  have hl : out.length + (vb n.toNat).length = (vb a0.toNat).length := by rw [← h4, List.length_append]
  constructor
  · intro h5
    have e1 : Int.tmod n 128 = n % 128 := Int.tmod_eq_emod_of_nonneg h2
    have e2 : Int.tdiv n 128 = n / 128 := Int.tdiv_eq_ediv_of_nonneg h2
    have e3 : IntKind.wrap .i64 (n / 128) = n / 128 := Go.IntWalk.i64_in _ (by omega)
    have e4 : IntKind.wrap .i64 (128 + n % 128) = 128 + n % 128 := Go.IntWalk.i64_in _ (by omega)
    have e4' : IntKind.wrap .i64 (n % 128 + 128) = 128 + n % 128 := by rw [Int.add_comm]; exact e4
    have e5 : IntKind.wrap .u8 (128 + n % 128) = 128 + n % 128 := Go.IntWalk.u8_in _ (by omega)
    simp only [e1, e2, e3, e4, e4', e5]
    rw [vb_big (by omega)] at hl h4
    refine ⟨by omega, by simp at hl; omega, by simp at hl; omega, by omega, ⟨by omega, by omega, ?_⟩, ?_⟩
    · rw [← h4, List.append_assoc]
      have : (n / 128).toNat = n.toNat / 128 := by omega
      rw [this]
      congr 1
      show (128 + n % 128) :: vb (n.toNat / 128) = _
      congr 1
      omega
    · show (n / 128).toNat < n.toNat
      omega
  · intro h5
    have e5 : IntKind.wrap .u8 n = n := Go.IntWalk.u8_in _ (by omega)
    simp only [e5]
    rw [vb_small (by omega)] at hl h4
    refine ⟨by simp at hl; omega, by simp at hl; omega, ?_⟩
    simp only [fVar, h1, if_true]
    rw [← h4]
    have : ((n.toNat : Nat) : Int) = n := by omega
    rw [this]
    rfl

set_option maxRecDepth 100000 in
theorem spec_Var.eq (i : El c_spec_Var.I) (x : El c_spec_Var.A) : vc tab (gam [(67, c_spec_l1In)]) (spec_Var.L x) (match Try.f70.body with | some c => c | none => .skip) 1 (initSt c_spec_Var Try.f70.ntmps i x) (bodyK tab c_spec_Var Try.f70.results.toList [9] i x) = spec_Var.F x := by kernel_rfl
theorem spec_Var.ok : ConOk Try.prog 70 c_spec_Var :=
  conOk_of_vc (con := c_spec_Var) (tab := tab) (fun i x => spec_Var.L x) rfl tabOk (gam_cons ⟨_, Try.func67, rfl, rfl⟩ spec_l1In.ok (gam_nil _)) Try.func70 rfl [9] (by decide) fun i x h hi hw => (spec_Var.eq i x).mpr (spec_Var.pure x h hw)

def c_impl_Var : Con := { io := false, I := .unit, A := (.int .i64), shA := [.one], R := .str, shR := [(false, 1)], fresh := [], pre := fun _ a => True, f := fun _ a => ((fVar a), ()) }
def impl_Var.F  (a0 : Int) : Prop := (True ∧ ∀ (r1 : Bool × Unit), r1 = ((fIn a0 0 562949953421311), ()) → (caseB (!r1.1) (([] : (List UInt8)) = (fVar a0) ∧ True) ((varI a0 a0 []) ∧ ∀ (y2 : (Int × (List Int))), (varI a0 y2.1 y2.2) → (caseB (decide (y2.1 > (127 : Int))) ((128 : Int) ≠ 0 ∧ (List.length y2.2 + List.length [(IntKind.wrap .u8 (IntKind.wrap .i64 ((Int.tmod y2.1 (128 : Int)) + (128 : Int))))] ≤ 9223372036854775807 ∧ ((List.length y2.2 + List.length [(IntKind.wrap .u8 (IntKind.wrap .i64 ((Int.tmod y2.1 (128 : Int)) + (128 : Int))))]) * 1 ≤ 140737488355328 ∧ ((128 : Int) ≠ 0 ∧ (([] : List (Nat × Sv)) = [] ∧ (varI a0 (IntKind.wrap .i64 (Int.tdiv y2.1 (128 : Int))) (y2.2 ++ [(IntKind.wrap .u8 (IntKind.wrap .i64 ((Int.tmod y2.1 (128 : Int)) + (128 : Int))))])) ∧ (varM a0 (IntKind.wrap .i64 (Int.tdiv y2.1 (128 : Int))) (y2.2 ++ [(IntKind.wrap .u8 (IntKind.wrap .i64 ((Int.tmod y2.1 (128 : Int)) + (128 : Int))))])) < (varM a0 y2.1 y2.2)))))) (List.length y2.2 + List.length [(IntKind.wrap .u8 y2.1)] ≤ 9223372036854775807 ∧ ((List.length y2.2 + List.length [(IntKind.wrap .u8 y2.1)]) * 1 ≤ 140737488355328 ∧ (((List.map (fun n => UInt8.ofNat (Int.toNat n)) (y2.2 ++ [(IntKind.wrap .u8 y2.1)])) : (List UInt8)) = (fVar a0) ∧ True)))))))
def impl_Var.L  (a0 : Int) : Nat → Option LoopAnn := fun p => Go.Proofs.Ytcbehcpmojnnfaa.Bv.look p [(60, { kp := { hold := [], slots := [0, 3], boxes := [], rows := [(3, 0, 1000195, 5)] }, T := (.pair (.int .i64) (.list (.int .u8))), I := fun st y => varI a0 y.1 y.2, μ := fun st y => varM a0 y.1 y.2 })]

theorem impl_Var.pure  (a0 : Int) (h : True) (hw : Wf c_impl_Var.A a0) : impl_Var.F a0 := by
  unfold impl_Var.F
  simp only [forall_eq, true_and, and_true, caseB_iff, Bool.not_eq_true', Bool.not_eq_false', decide_eq_true_eq, decide_eq_false_iff_not, List.length_cons, List.length_nil]
  refine ⟨fun h1 => by simp [fVar, h1], fun h1 => ?_⟩
  have hin := h1
  simp only [fIn, Bool.and_eq_true, decide_eq_true_eq] at hin
  have hlen := vb_length 6 a0.toNat (by omega)
  refine ⟨⟨hin.1, hin.2, rfl⟩, ?_⟩
  rintro ⟨n, out⟩ ⟨h2, h3, h4⟩
  simp only at h2 h3 h4 ⊢
  have hl : out.length + (vb n.toNat).length = (vb a0.toNat).length := by rw [← h4, List.length_append]
  constructor
  · intro h5
    have e1 : Int.tmod n 128 = n % 128 := Int.tmod_eq_emod_of_nonneg h2
    have e2 : Int.tdiv n 128 = n / 128 := Int.tdiv_eq_ediv_of_nonneg h2
    have e3 : IntKind.wrap .i64 (n / 128) = n / 128 := Go.IntWalk.i64_in _ (by omega)
    have e4 : IntKind.wrap .i64 (128 + n % 128) = 128 + n % 128 := Go.IntWalk.i64_in _ (by omega)
    have e4' : IntKind.wrap .i64 (n % 128 + 128) = 128 + n % 128 := by rw [Int.add_comm]; exact e4
    have e5 : IntKind.wrap .u8 (128 + n % 128) = 128 + n % 128 := Go.IntWalk.u8_in _ (by omega)
    simp only [e1, e2, e3, e4, e4', e5]
    rw [vb_big (by omega)] at hl h4
    refine ⟨by omega, by simp at hl; omega, by simp at hl; omega, by omega, ⟨by omega, by omega, ?_⟩, ?_⟩
    · rw [← h4, List.append_assoc]
      have : (n / 128).toNat = n.toNat / 128 := by omega
      rw [this]
      congr 1
      show (128 + n % 128) :: vb (n.toNat / 128) = _
      congr 1
      omega
    · show (n / 128).toNat < n.toNat
      omega
  · intro h5
    have e5 : IntKind.wrap .u8 n = n := Go.IntWalk.u8_in _ (by omega)
    simp only [e5]
    rw [vb_small (by omega)] at hl h4
    refine ⟨by simp at hl; omega, by simp at hl; omega, ?_⟩
    simp only [fVar, h1, if_true]
    rw [← h4]
    have : ((n.toNat : Nat) : Int) = n := by omega
    rw [this]
    rfl

set_option maxRecDepth 100000 in
theorem impl_Var.eq (i : El c_impl_Var.I) (x : El c_impl_Var.A) : vc tab (gam [(68, c_impl_from)]) (impl_Var.L x) (match Try.f71.body with | some c => c | none => .skip) 1 (initSt c_impl_Var Try.f71.ntmps i x) (bodyK tab c_impl_Var Try.f71.results.toList [9] i x) = impl_Var.F x := by kernel_rfl
theorem impl_Var.ok : ConOk Try.prog 71 c_impl_Var :=
  conOk_of_vc (con := c_impl_Var) (tab := tab) (fun i x => impl_Var.L x) rfl tabOk (gam_cons ⟨_, Try.func68, rfl, rfl⟩ impl_from.ok (gam_nil _)) Try.func71 rfl [9] (by decide) fun i x h hi hw => (impl_Var.eq i x).mpr (impl_Var.pure x h hw)

end Go.Proofs.Ytcbehcpmojnnfaa.B
