/- Routes: numbers of seven-bit bytes, reading them, routes. -/
import Derived.Test.YtcbehcpmojnnfaaCSer
/- A number as bytes of seven bits. -/
namespace Go.Proofs.Ytcbehcpmojnnfaa.B
set_option linter.unusedVariables false
set_option linter.unusedSimpArgs false
open Go Go.Proofs.Ytcbehcpmojnnfaa.Bv


/-- A number as bytes of seven bits, the lowest first; all but the last have the top bit. -/
def vb (n : Nat) : List Int := if n < 128 then [(n : Int)] else (((128 + n % 128 : Nat) : Int)) :: vb (n / 128)
termination_by n
decreasing_by omega

theorem vb_small {n : Nat} (h : n < 128) : vb n = [(n : Int)] := by rw [vb, if_pos h]
theorem vb_big {n : Nat} (h : ¬ n < 128) : vb n = (((128 + n % 128 : Nat) : Int)) :: vb (n / 128) := by rw [vb, if_neg h]

theorem vb_length : ∀ (k n : Nat), n < 128 ^ (k + 1) → (vb n).length ≤ k + 1
  | 0, n, h => by rw [vb_small (by simpa using h)]; simp
  | k + 1, n, h => by
    by_cases hn : n < 128
    · rw [vb_small hn]; simp
    · rw [vb_big hn]
      have := vb_length k (n / 128) (by rw [Nat.div_lt_iff_lt_mul (by omega)]; rw [Nat.pow_succ] at h; exact h)
      simp; omega

def toBytes (l : List Int) : List UInt8 := l.map fun n => UInt8.ofNat n.toNat

def fVar (n : Int) : List UInt8 := if fIn n 0 562949953421311 then toBytes (vb n.toNat) else []

theorem fVar_length (n : Int) : (fVar n).length ≤ 7 := by
  unfold fVar
  split
  · rename_i h
    simp only [fIn, Bool.and_eq_true, decide_eq_true_eq] at h
    simp only [toBytes, List.length_map]
    exact vb_length 6 n.toNat (by omega)
  · simp

/-- At the head of the loop: what is written, and what is still to be written. -/
def varI (n0 n : Int) (out : List Int) : Prop := 0 ≤ n ∧ n ≤ 562949953421311 ∧ out ++ vb n.toNat = vb n0.toNat
def varM (n0 n : Int) (out : List Int) : Nat := n.toNat

def c_spec_Var : Con := { io := false, I := .unit, ownI := [], A := (.int .i64), shA := [.one], ownA := [], backA := [], B := .unit, R := .str, shR := [(false, 1)], fresh := [], newR := false, pre := fun _ a => True, f := some fun _ a => ((fVar a), ((), ())) }
def spec_Var.F  (a0 : Int) : Prop := (True ∧ ∀ (r1 : Bool × (Unit × Unit)), ((r1 : Bool × (Unit × Unit)) = ((fIn a0 0 562949953421311), ((), ()))) → (caseB (!r1.1) ((([], ((), ())) : (List UInt8) × (Unit × Unit)) = ((fVar a0), ((), ()))) (([] : List (Nat × Sv)) = [] ∧ ((varI a0 a0 ([] : List Int)) ∧ ∀ (y2 : (Int × (List Int))), (varI a0 y2.1 y2.2) → (caseB (decide (y2.1 ≥ (128 : Int))) ((128 : Int) ≠ 0 ∧ (List.length y2.2 + List.length [(IntKind.wrap .u8 (IntKind.wrap .i64 ((128 : Int) + (Int.tmod y2.1 (128 : Int)))))] ≤ 9223372036854775807 ∧ ((List.length y2.2 + List.length [(IntKind.wrap .u8 (IntKind.wrap .i64 ((128 : Int) + (Int.tmod y2.1 (128 : Int)))))]) * 1 ≤ 140737488355328 ∧ ((128 : Int) ≠ 0 ∧ (([] : List (Nat × Sv)) = [] ∧ (varI a0 (IntKind.wrap .i64 (Int.tdiv y2.1 (128 : Int))) (y2.2 ++ [(IntKind.wrap .u8 (IntKind.wrap .i64 ((128 : Int) + (Int.tmod y2.1 (128 : Int)))))])) ∧ (varM a0 (IntKind.wrap .i64 (Int.tdiv y2.1 (128 : Int))) (y2.2 ++ [(IntKind.wrap .u8 (IntKind.wrap .i64 ((128 : Int) + (Int.tmod y2.1 (128 : Int)))))])) < (varM a0 y2.1 y2.2)))))) (List.length y2.2 + List.length [(IntKind.wrap .u8 y2.1)] ≤ 9223372036854775807 ∧ ((List.length y2.2 + List.length [(IntKind.wrap .u8 y2.1)]) * 1 ≤ 140737488355328 ∧ ((((List.map (fun n => UInt8.ofNat (Int.toNat n)) (y2.2 ++ [(IntKind.wrap .u8 y2.1)])), ((), ())) : (List UInt8) × (Unit × Unit)) = ((fVar a0), ((), ()))))))))))
def spec_Var.L  (a0 : Int) : Nat → Option LoopAnn := fun p => Go.Proofs.Ytcbehcpmojnnfaa.Bv.look p [(60, { kp := { hold := [], slots := [0, 3], boxes := [], rows := [{ bx := false, s := 3, i := 0, k := 1000387, e := 5, hot := true }] }, T := (.pair (.int .i64) (.list (.int .u8))), I := fun st y => varI a0 y.1 y.2, μ := fun st y => varM a0 y.1 y.2 })]

theorem spec_Var.pure  (a0 : Int) (h : True) (hw : Wf c_spec_Var.A a0) : spec_Var.F a0 := by
  unfold spec_Var.F
  simp only [forall_eq, true_and, and_true, caseB_iff, Prod.mk.injEq, Bool.not_eq_true', Bool.not_eq_false', decide_eq_true_eq, decide_eq_false_iff_not, List.length_cons, List.length_nil]
  refine ⟨fun h1 => by simp [fVar, h1], fun h1 => ?_⟩
  have hin := h1
  simp only [fIn, Bool.and_eq_true, decide_eq_true_eq] at hin
  have hlen := vb_length 6 a0.toNat (by omega)
  refine ⟨⟨hin.1, hin.2, rfl⟩, ?_⟩
  rintro ⟨n, out⟩ ⟨h2, h3, h4⟩
  simp only at h2 h3 h4 ⊢
  have hl : out.length + (vb n.toNat).length = (vb a0.toNat).length := by rw [← h4, List.length_append]
  constructor
  · intro h5
    have e1 : Int.tmod n 128 = n % 128 := Int.tmod_eq_emod_of_nonneg h2
    have e2 : Int.tdiv n 128 = n / 128 := Int.tdiv_eq_ediv_of_nonneg h2
    have e3 : IntKind.wrap .i64 (n / 128) = n / 128 := Go.IntWalk.i64_in _ (by omega)
    have e4 : IntKind.wrap .i64 (128 + n % 128) = 128 + n % 128 := Go.IntWalk.i64_in _ (by omega)
    have e4' : IntKind.wrap .i64 (n % 128 + 128) = 128 + n % 128 := by rw [Int.add_comm]; exact e4
    have e5 : IntKind.wrap .u8 (128 + n % 128) = 128 + n % 128 := Go.IntWalk.u8_in _ (by omega)
    simp only [e1, e2, e3, e4, e4', e5]
    rw [vb_big (by omega)] at hl h4
    refine ⟨by omega, by simp at hl; omega, by simp at hl; omega, by omega, ⟨by omega, by omega, ?_⟩, ?_⟩
    · rw [← h4, List.append_assoc]
      have : (n / 128).toNat = n.toNat / 128 := by omega
      rw [this]
      congr 1
      show (128 + n % 128) :: vb (n.toNat / 128) = _
      congr 1
      omega
    · show (n / 128).toNat < n.toNat
      omega
  · intro h5
    have e5 : IntKind.wrap .u8 n = n := Go.IntWalk.u8_in _ (by omega)
    simp only [e5]
    rw [vb_small (by omega)] at hl h4
    refine ⟨by simp at hl; omega, by simp at hl; omega, ?_⟩
    simp only [fVar, h1, if_true]
    rw [← h4]
    have : ((n.toNat : Nat) : Int) = n := by omega
    rw [this]
    rfl

set_option maxRecDepth 100000 in
theorem spec_Var.eq (i : El c_spec_Var.I) (x : El c_spec_Var.A) : vc tab (gam [(67, c_spec_l1In)] []) (spec_Var.L x) (match Try.f70.body with | some c => c | none => .skip) 1 (initSt c_spec_Var Try.f70.ntmps i x) (bodyK tab c_spec_Var Try.f70.results.toList [9] i x) = spec_Var.F x := by kernel_rfl
theorem spec_Var.ok : ConOk Try.prog 70 c_spec_Var :=
  conOk_of_eq (con := c_spec_Var) (tab := tab) (Γ := (gam [(67, c_spec_l1In)] [])) (fn := Try.f70) (c := (match Try.f70.body with | some c => c | none => .skip)) (fun i x => spec_Var.L x) (fun i x => spec_Var.F x) rfl tabOk (gam_cons ⟨_, Try.func67, rfl, rfl⟩ spec_l1In.ok (gam_nil _ [])) Try.func70 rfl [9] (by kernel_rfl) spec_Var.eq fun i x h hi hw => spec_Var.pure x h hw

def c_impl_Var : Con := { io := false, I := .unit, ownI := [], A := (.int .i64), shA := [.one], ownA := [], backA := [], B := .unit, R := .str, shR := [(false, 1)], fresh := [], newR := false, pre := fun _ a => True, f := some fun _ a => ((fVar a), ((), ())) }
def impl_Var.F  (a0 : Int) : Prop := (True ∧ ∀ (r1 : Bool × (Unit × Unit)), ((r1 : Bool × (Unit × Unit)) = ((fIn a0 0 562949953421311), ((), ()))) → (caseB (!r1.1) ((([], ((), ())) : (List UInt8) × (Unit × Unit)) = ((fVar a0), ((), ()))) (([] : List (Nat × Sv)) = [] ∧ ((varI a0 a0 ([] : List Int)) ∧ ∀ (y2 : (Int × (List Int))), (varI a0 y2.1 y2.2) → (caseB (decide (y2.1 > (127 : Int))) ((128 : Int) ≠ 0 ∧ (List.length y2.2 + List.length [(IntKind.wrap .u8 (IntKind.wrap .i64 ((Int.tmod y2.1 (128 : Int)) + (128 : Int))))] ≤ 9223372036854775807 ∧ ((List.length y2.2 + List.length [(IntKind.wrap .u8 (IntKind.wrap .i64 ((Int.tmod y2.1 (128 : Int)) + (128 : Int))))]) * 1 ≤ 140737488355328 ∧ ((128 : Int) ≠ 0 ∧ (([] : List (Nat × Sv)) = [] ∧ (varI a0 (IntKind.wrap .i64 (Int.tdiv y2.1 (128 : Int))) (y2.2 ++ [(IntKind.wrap .u8 (IntKind.wrap .i64 ((Int.tmod y2.1 (128 : Int)) + (128 : Int))))])) ∧ (varM a0 (IntKind.wrap .i64 (Int.tdiv y2.1 (128 : Int))) (y2.2 ++ [(IntKind.wrap .u8 (IntKind.wrap .i64 ((Int.tmod y2.1 (128 : Int)) + (128 : Int))))])) < (varM a0 y2.1 y2.2)))))) (List.length y2.2 + List.length [(IntKind.wrap .u8 y2.1)] ≤ 9223372036854775807 ∧ ((List.length y2.2 + List.length [(IntKind.wrap .u8 y2.1)]) * 1 ≤ 140737488355328 ∧ ((((List.map (fun n => UInt8.ofNat (Int.toNat n)) (y2.2 ++ [(IntKind.wrap .u8 y2.1)])), ((), ())) : (List UInt8) × (Unit × Unit)) = ((fVar a0), ((), ()))))))))))
def impl_Var.L  (a0 : Int) : Nat → Option LoopAnn := fun p => Go.Proofs.Ytcbehcpmojnnfaa.Bv.look p [(60, { kp := { hold := [], slots := [0, 3], boxes := [], rows := [{ bx := false, s := 3, i := 0, k := 1000387, e := 5, hot := true }] }, T := (.pair (.int .i64) (.list (.int .u8))), I := fun st y => varI a0 y.1 y.2, μ := fun st y => varM a0 y.1 y.2 })]

theorem impl_Var.pure  (a0 : Int) (h : True) (hw : Wf c_impl_Var.A a0) : impl_Var.F a0 := by
  unfold impl_Var.F
  simp only [forall_eq, true_and, and_true, caseB_iff, Prod.mk.injEq, Bool.not_eq_true', Bool.not_eq_false', decide_eq_true_eq, decide_eq_false_iff_not, List.length_cons, List.length_nil]
  refine ⟨fun h1 => by simp [fVar, h1], fun h1 => ?_⟩
  have hin := h1
  simp only [fIn, Bool.and_eq_true, decide_eq_true_eq] at hin
  have hlen := vb_length 6 a0.toNat (by omega)
  refine ⟨⟨hin.1, hin.2, rfl⟩, ?_⟩
  rintro ⟨n, out⟩ ⟨h2, h3, h4⟩
  simp only at h2 h3 h4 ⊢
  have hl : out.length + (vb n.toNat).length = (vb a0.toNat).length := by rw [← h4, List.length_append]
  constructor
  · intro h5
    have e1 : Int.tmod n 128 = n % 128 := Int.tmod_eq_emod_of_nonneg h2
    have e2 : Int.tdiv n 128 = n / 128 := Int.tdiv_eq_ediv_of_nonneg h2
    have e3 : IntKind.wrap .i64 (n / 128) = n / 128 := Go.IntWalk.i64_in _ (by omega)
    have e4 : IntKind.wrap .i64 (128 + n % 128) = 128 + n % 128 := Go.IntWalk.i64_in _ (by omega)
    have e4' : IntKind.wrap .i64 (n % 128 + 128) = 128 + n % 128 := by rw [Int.add_comm]; exact e4
    have e5 : IntKind.wrap .u8 (128 + n % 128) = 128 + n % 128 := Go.IntWalk.u8_in _ (by omega)
    simp only [e1, e2, e3, e4, e4', e5]
    rw [vb_big (by omega)] at hl h4
    refine ⟨by omega, by simp at hl; omega, by simp at hl; omega, by omega, ⟨by omega, by omega, ?_⟩, ?_⟩
    · rw [← h4, List.append_assoc]
      have : (n / 128).toNat = n.toNat / 128 := by omega
      rw [this]
      congr 1
      show (128 + n % 128) :: vb (n.toNat / 128) = _
      congr 1
      omega
    · show (n / 128).toNat < n.toNat
      omega
  · intro h5
    have e5 : IntKind.wrap .u8 n = n := Go.IntWalk.u8_in _ (by omega)
    simp only [e5]
    rw [vb_small (by omega)] at hl h4
    refine ⟨by simp at hl; omega, by simp at hl; omega, ?_⟩
    simp only [fVar, h1, if_true]
    rw [← h4]
    have : ((n.toNat : Nat) : Int) = n := by omega
    rw [this]
    rfl

set_option maxRecDepth 100000 in
theorem impl_Var.eq (i : El c_impl_Var.I) (x : El c_impl_Var.A) : vc tab (gam [(68, c_impl_from)] []) (impl_Var.L x) (match Try.f71.body with | some c => c | none => .skip) 1 (initSt c_impl_Var Try.f71.ntmps i x) (bodyK tab c_impl_Var Try.f71.results.toList [9] i x) = impl_Var.F x := by kernel_rfl
theorem impl_Var.ok : ConOk Try.prog 71 c_impl_Var :=
  conOk_of_eq (con := c_impl_Var) (tab := tab) (Γ := (gam [(68, c_impl_from)] [])) (fn := Try.f71) (c := (match Try.f71.body with | some c => c | none => .skip)) (fun i x => impl_Var.L x) (fun i x => impl_Var.F x) rfl tabOk (gam_cons ⟨_, Try.func68, rfl, rfl⟩ impl_from.ok (gam_nil _ [])) Try.func71 rfl [9] (by kernel_rfl) impl_Var.eq fun i x h hi hw => impl_Var.pure x h hw

end Go.Proofs.Ytcbehcpmojnnfaa.B

/- Reading a number of seven-bit bytes: the plain law. -/
namespace Go.Proofs.Ytcbehcpmojnnfaa.B
set_option linter.unusedVariables false
set_option linter.unusedSimpArgs false

/-- What bytes say: seven bits each, the lowest first. -/
def dec : List UInt8 → Nat
  | [] => 0
  | b :: l => b.toNat % 128 + 128 * dec l

theorem dec_append (l : List UInt8) (b : UInt8) : dec (l ++ [b]) = dec l + (b.toNat % 128) * 128 ^ l.length := by
  induction l with
  | nil => simp [dec]
  | cons c l ih =>
    simp only [List.cons_append, dec, ih, List.length_cons, Nat.pow_succ]
    rw [Nat.mul_add]
    have : 128 * (b.toNat % 128 * 128 ^ l.length) = b.toNat % 128 * (128 ^ l.length * 128) := by rw [Nat.mul_comm 128, Nat.mul_assoc]
    omega

theorem dec_lt (l : List UInt8) : dec l < 128 ^ l.length := by
  induction l with
  | nil => simp [dec]
  | cons c l ih =>
    simp only [dec, List.length_cons, Nat.pow_succ]
    omega

theorem toBytes_cons (a : Int) (l : List Int) : toBytes (a :: l) = UInt8.ofNat a.toNat :: toBytes l := rfl

theorem ofNat_eq {n : Nat} {b : UInt8} (h : n < 256) : UInt8.ofNat n = b ↔ n = b.toNat := by
  constructor
  · intro e; rw [← e]; simp [Nat.mod_eq_of_lt h]
  · intro e; rw [e]; simp

/-- These bytes are what their number is written as. -/
def canon (l : List UInt8) : Prop := toBytes (vb (dec l)) = l

theorem canon_one (b : UInt8) : canon [b] ↔ b.toNat < 128 := by
  unfold canon
  have hb := b.toNat_lt
  rw [show dec [b] = b.toNat % 128 by simp [dec], vb_small (by omega)]
  rw [toBytes_cons]
  simp only [toBytes, List.map_nil, List.cons.injEq, and_true, Int.toNat_natCast]
  rw [ofNat_eq (by omega)]
  omega

theorem canon_cons (b c : UInt8) (r : List UInt8) : canon (b :: c :: r) ↔ 128 ≤ b.toNat ∧ dec (c :: r) ≠ 0 ∧ canon (c :: r) := by
  have hb := b.toNat_lt
  unfold canon
  rw [show dec (b :: c :: r) = b.toNat % 128 + 128 * dec (c :: r) from rfl]
  generalize hd : dec (c :: r) = d
  by_cases h0 : d = 0
  · subst h0
    rw [vb_small (by omega)]
    constructor
    · intro h; have := congrArg List.length h; simp [toBytes] at this
    · intro h; exact absurd rfl h.2.1
  · rw [vb_big (by omega), toBytes_cons]
    have e1 : (b.toNat % 128 + 128 * d) / 128 = d := by omega
    have e2 : (b.toNat % 128 + 128 * d) % 128 = b.toNat % 128 := by omega
    rw [e1, e2]
    simp only [List.cons.injEq, Int.toNat_natCast]
    rw [ofNat_eq (by omega)]
    constructor
    · rintro ⟨h1, h2⟩; exact ⟨by omega, h0, h2⟩
    · rintro ⟨h1, _, h2⟩; exact ⟨by omega, h2⟩

theorem canon_iff (x : UInt8) : ∀ (pre : List UInt8), canon (pre ++ [x]) ↔ x.toNat < 128 ∧ (∀ b ∈ pre, 128 ≤ b.toNat) ∧ (pre = [] ∨ x.toNat ≠ 0)
  | [] => by simp [canon_one]
  | [b] => by
    show canon [b, x] ↔ _
    rw [canon_cons, canon_one]
    have : dec [x] = x.toNat % 128 := by simp [dec]
    rw [this]
    simp
    omega
  | b :: c :: r => by
    show canon (b :: c :: (r ++ [x])) ↔ _
    rw [canon_cons]
    have ih := canon_iff x (c :: r)
    rw [show c :: (r ++ [x]) = (c :: r) ++ [x] from rfl, ih]
    have hd : x.toNat < 128 → x.toNat ≠ 0 → dec ((c :: r) ++ [x]) ≠ 0 := by
      intro h1 h2
      rw [dec_append]
      have : 0 < x.toNat % 128 * 128 ^ (c :: r).length := Nat.mul_pos (by omega) (Nat.pow_pos (by omega))
      omega
    simp
    constructor
    · rintro ⟨h1, h2, h3, ⟨h4, h5⟩, h6⟩
      exact ⟨h3, ⟨h1, h4, h5⟩, h6⟩
    · rintro ⟨h3, ⟨h1, h4, h5⟩, h6⟩
      exact ⟨h1, hd h3 h6, h3, ⟨h4, h5⟩, h6⟩

instance (l : List UInt8) : Decidable (canon l) := inferInstanceAs (Decidable (toBytes (vb (dec l)) = l))

def okAt (s : List UInt8) (k : Nat) : Bool := decide (k ≤ s.length) && decide (canon (s.take k))

def fReadVar (s : List UInt8) : Int × Int := match (List.range 7).find? (fun j => okAt s (j + 1)) with
  | some j => ((dec (s.take (j + 1)) : Int), (j : Int) + 1)
  | none => (0, 0)

theorem readVar_some {s : List UInt8} {j : Nat} (hj : j < 7) (h : okAt s (j + 1) = true) (hn : ∀ i, i < j → okAt s (i + 1) = false) : fReadVar s = ((dec (s.take (j + 1)) : Int), (j : Int) + 1) := by
  unfold fReadVar
  rw [(List.find?_range_eq_some (p := fun j => okAt s (j + 1))).2 ⟨h, by simpa using hj, fun i hi => by simp [hn i hi]⟩]

theorem readVar_none {s : List UInt8} (hn : ∀ i, i < 7 → okAt s (i + 1) = false) : fReadVar s = (0, 0) := by
  unfold fReadVar
  rw [List.find?_eq_none.2 fun i hi => by simp [hn i (by simpa using hi)]]

theorem fVar_dec {l : List UInt8} (h : l.length ≤ 7) : fVar (dec l : Int) = toBytes (vb (dec l)) := by
  have := dec_lt l
  have h2 : 128 ^ l.length ≤ 128 ^ 7 := Nat.pow_le_pow_right (by omega) h
  unfold fVar
  rw [if_pos (by simp [fIn]; omega)]
  simp

/-- Where the byte before the end has no top bit, it is not so. -/
theorem okAt_early {s : List UInt8} {i k : Nat} (hi : i < s.length) (hb : (s.getD i 0).toNat < 128) (hik : i + 1 < k) : okAt s k = false := by
  unfold okAt
  cases hk : decide (k ≤ s.length) with
  | false => rfl
  | true =>
    simp only [Bool.true_and, decide_eq_false_iff_not]
    have hk' : k ≤ s.length := by simpa using hk
    intro hc
    have e : s.take k = s.take (k - 1) ++ [s.getD (k - 1) 0] := by
      rw [show k = (k - 1) + 1 by omega, List.take_succ_eq_append_getElem (by omega)]
      simp [List.getD_eq_getElem?_getD, List.getElem?_eq_getElem (show k - 1 < s.length by omega)]
    rw [e, canon_iff] at hc
    have := hc.2.1 (s.getD i 0) (by
      rw [List.getD_eq_getElem?_getD, List.getElem?_eq_getElem hi]
      simp only [Option.getD_some]
      exact List.mem_take_iff_getElem.2 ⟨i, by omega, rfl⟩)
    omega

/-- Where the last byte has a top bit, it is not so. -/
theorem okAt_last {s : List UInt8} {i : Nat} (hi : i < s.length) (hb : 128 ≤ (s.getD i 0).toNat) : okAt s (i + 1) = false := by
  unfold okAt
  simp only [Bool.and_eq_false_iff, decide_eq_false_iff_not]
  right
  have e : s.take (i + 1) = s.take i ++ [s.getD i 0] := by
    rw [List.take_succ_eq_append_getElem hi]
    simp [List.getD_eq_getElem?_getD, List.getElem?_eq_getElem hi]
  rw [e, canon_iff]
  omega

theorem take_succ_getD {s : List UInt8} {i : Nat} (hi : i < s.length) : s.take (i + 1) = s.take i ++ [s.getD i 0] := by
  rw [List.take_succ_eq_append_getElem hi]
  simp [List.getD_eq_getElem?_getD, List.getElem?_eq_getElem hi]

theorem okAt_long {s : List UInt8} {k : Nat} (h : s.length < k) : okAt s k = false := by
  unfold okAt
  simp; omega

theorem readVar_bound (s : List UInt8) : 0 ≤ (fReadVar s).1 ∧ (fReadVar s).1 ≤ 562949953421311 ∧ 0 ≤ (fReadVar s).2 ∧ (fReadVar s).2 ≤ s.length ∧ (fReadVar s).2 ≤ 7 := by
  unfold fReadVar
  split
  · rename_i j hj
    obtain ⟨h1, h2, _⟩ := List.find?_range_eq_some.1 hj
    have h3 : j < 7 := by simpa using h2
    simp only [okAt, Bool.and_eq_true, decide_eq_true_eq] at h1
    have := dec_lt (s.take (j + 1))
    have h4 : 128 ^ (s.take (j + 1)).length ≤ 128 ^ 7 := Nat.pow_le_pow_right (by omega) (by simp; omega)
    simp only
    omega
  · simp

end Go.Proofs.Ytcbehcpmojnnfaa.B

/- Reading numbers and answers. -/
namespace Go.Proofs.Ytcbehcpmojnnfaa.B
set_option linter.unusedVariables false
set_option linter.unusedSimpArgs false
open Go Go.Proofs.Ytcbehcpmojnnfaa.Bv

def rvO (s : List UInt8) (k : Int) : Prop := 1 ≤ k ∧ k ≤ 8 ∧ ∀ i : Nat, (i : Int) + 1 < k → okAt s (i + 1) = false
def rvOm (s : List UInt8) (k : Int) : Nat := (8 - k).toNat
def rvI (s : List UInt8) (k n i : Int) : Prop := -1 ≤ i ∧ i < k ∧ 1 ≤ k ∧ k ≤ 7 ∧ k ≤ (s.length : Int) ∧ n = ((dec ((s.take k.toNat).drop (i + 1).toNat) : Nat) : Int)
def rvIm (s : List UInt8) (k n i : Int) : Nat := (i + 1).toNat

theorem dec_drop_lt (l : List UInt8) (k : Nat) (h : l.length ≤ 7) : dec (l.drop k) < 128 ^ 7 :=
  Nat.lt_of_lt_of_le (dec_lt _) (Nat.pow_le_pow_right (by omega) (by simp; omega))

def c_spec_ReadVar : Con := { io := false, I := .unit, ownI := [], A := .str, shA := [.one], ownA := [], backA := [], B := .unit, R := (.pair (.int .i64) (.int .i64)), shR := [(false, 1), (false, 1)], fresh := [], newR := false, pre := fun _ a => True, f := some fun _ a => ((fReadVar a), ((), ())) }
def spec_ReadVar.F  (a0 : (List UInt8)) : Prop := (([(0, .val false [.str a0])] : List (Nat × Sv)) = [(0, .val false [.str a0])] ∧ ((rvO a0 1) ∧ ∀ (y1 : Int), (rvO a0 y1) → (caseB (decide (y1 ≤ (7 : Int))) (caseB (decide (y1 ≤ ((List.length a0 : Nat) : Int))) (([(0, .val false [.str a0]), (4, .val false [.int .i64 y1]), (10, .val false [.int .i64 y1]), (11, .val false [.str a0]), (12, .val false [.int .i64 ((List.length a0 : Nat) : Int)]), (13, .val false [.bool (decide (y1 ≤ ((List.length a0 : Nat) : Int)))])] : List (Nat × Sv)) = [(0, .val false [.str a0]), (4, .val false [.int .i64 y1]), (10, .val false [.int .i64 y1]), (11, .val false [.str a0]), (12, .val false [.int .i64 ((List.length a0 : Nat) : Int)]), (13, .val false [.bool (decide (y1 ≤ ((List.length a0 : Nat) : Int)))])] ∧ ((rvI a0 y1 0 (IntKind.wrap .i64 (y1 - (1 : Int)))) ∧ ∀ (y2 : (Int × Int)), (rvI a0 y1 y2.1 y2.2) → (caseB (decide (y2.2 ≥ (0 : Int))) (0 ≤ y2.2 ∧ (y2.2 < ((List.length a0 : Nat) : Int) ∧ ((128 : Int) ≠ 0 ∧ (([(0, .val false [.str a0]), (4, .val false [.int .i64 y1]), (10, .val false [.int .i64 y1]), (11, .val false [.str a0]), (12, .val false [.int .i64 ((List.length a0 : Nat) : Int)]), (13, .val false [.bool (decide (y1 ≤ ((List.length a0 : Nat) : Int)))])] : List (Nat × Sv)) = [(0, .val false [.str a0]), (4, .val false [.int .i64 y1]), (10, .val false [.int .i64 y1]), (11, .val false [.str a0]), (12, .val false [.int .i64 ((List.length a0 : Nat) : Int)]), (13, .val false [.bool (decide (y1 ≤ ((List.length a0 : Nat) : Int)))])] ∧ (rvI a0 y1 (IntKind.wrap .i64 ((IntKind.wrap .i64 (y2.1 * (128 : Int))) + (Int.tmod (IntKind.wrap .i64 ((UInt8.toNat (List.getD a0 (Int.toNat y2.2) 0) : Nat) : Int)) (128 : Int)))) (IntKind.wrap .i64 (y2.2 - (1 : Int)))) ∧ (rvIm a0 y1 (IntKind.wrap .i64 ((IntKind.wrap .i64 (y2.1 * (128 : Int))) + (Int.tmod (IntKind.wrap .i64 ((UInt8.toNat (List.getD a0 (Int.toNat y2.2) 0) : Nat) : Int)) (128 : Int)))) (IntKind.wrap .i64 (y2.2 - (1 : Int)))) < (rvIm a0 y1 y2.1 y2.2))))) (True ∧ ∀ (r3 : (List UInt8) × (Unit × Unit)), ((r3 : (List UInt8) × (Unit × Unit)) = ((fVar y2.1), ((), ()))) → (0 ≤ y1 ∧ (y1 ≤ ((List.length a0 : Nat) : Int) ∧ (caseB (r3.1 == (List.take (Int.toNat y1) a0)) ((((y2.1, y1), ((), ())) : (Int × Int) × (Unit × Unit)) = ((fReadVar a0), ((), ()))) (([(0, .val false [.str a0])] : List (Nat × Sv)) = [(0, .val false [.str a0])] ∧ (rvO a0 (IntKind.wrap .i64 (y1 + (1 : Int)))) ∧ (rvOm a0 (IntKind.wrap .i64 (y1 + (1 : Int)))) < (rvOm a0 y1))))))))) ((((0, 0), ((), ())) : (Int × Int) × (Unit × Unit)) = ((fReadVar a0), ((), ())))) ((((0, 0), ((), ())) : (Int × Int) × (Unit × Unit)) = ((fReadVar a0), ((), ()))))))
def spec_ReadVar.L  (a0 : (List UInt8)) : Nat → Option LoopAnn := fun p => Go.Proofs.Ytcbehcpmojnnfaa.Bv.look p [(26, { kp := { hold := [0], slots := [4], boxes := [], rows := [] }, T := (.int .i64), I := fun st y => rvO a0 y, μ := fun st y => rvOm a0 y }), (6730, { kp := { hold := [0, 4, 10, 11, 12, 13], slots := [5, 6], boxes := [], rows := [] }, T := (.pair (.int .i64) (.int .i64)), I := fun st y => rvI a0 (intC (cellAt st 4 0)) y.1 y.2, μ := fun st y => rvIm a0 (intC (cellAt st 4 0)) y.1 y.2 })]

theorem spec_ReadVar.pure  (a0 : (List UInt8)) (h : True) (hw : Wf c_spec_ReadVar.A a0) : spec_ReadVar.F a0 := by
  unfold spec_ReadVar.F
  simp only [forall_eq, true_and, and_true, caseB_iff, Prod.mk.injEq, decide_eq_true_eq, decide_eq_false_iff_not]
  refine ⟨⟨by omega, by omega, fun i hi => by omega⟩, fun k hk => ?_⟩
  obtain ⟨hk1, hk8, hno⟩ := hk
  refine ⟨fun h7 => ⟨fun hl => ⟨?_, fun y hy => ?_⟩, fun hl => ?_⟩, fun h7 => ?_⟩
  · rw [Go.IntWalk.i64_in _ (by omega)]
    refine ⟨by omega, by omega, by omega, by omega, by omega, ?_⟩
    rw [show (k - 1 + 1).toNat = k.toNat by omega, List.drop_eq_nil_of_le (by simp; omega)]
    rfl
  · obtain ⟨n, i⟩ := y
    obtain ⟨h1, h2, h3, h4, h5, h6⟩ := hy
    simp only at h1 h2 h6 ⊢
    have hb := dec_drop_lt (a0.take k.toNat) (i + 1).toNat (by simp; omega)
    refine ⟨fun h0 => ⟨by omega, by omega, by omega, ?_, ?_⟩, fun h0 => ?_⟩
    · have hx := (a0.getD i.toNat 0).toNat_lt
      have e1 : IntKind.wrap .i64 (((a0.getD i.toNat 0).toNat : Nat) : Int) = (((a0.getD i.toNat 0).toNat : Nat) : Int) := Go.IntWalk.i64_in _ (by omega)
      have hcons : (a0.take k.toNat).drop i.toNat = a0.getD i.toNat 0 :: (a0.take k.toNat).drop (i + 1).toNat := by
        rw [show (i + 1).toNat = i.toNat + 1 by omega, List.drop_eq_getElem_cons (by simp; omega)]
        simp [List.getD_eq_getElem?_getD, List.getElem?_eq_getElem (show i.toNat < a0.length by omega)]
      have hb2 := dec_drop_lt (a0.take k.toNat) i.toNat (by simp; omega)
      have hdec : dec ((a0.take k.toNat).drop i.toNat) = (a0.getD i.toNat 0).toNat % 128 + 128 * dec ((a0.take k.toNat).drop (i + 1).toNat) := by rw [hcons]; rfl
      have e2 : Int.tmod (((a0.getD i.toNat 0).toNat : Nat) : Int) 128 = (((a0.getD i.toNat 0).toNat : Nat) : Int) % 128 := Int.tmod_eq_emod_of_nonneg (by omega)
      rw [e1, e2, Go.IntWalk.i64_in (n * 128) (by omega), Go.IntWalk.i64_in (n * 128 + _) (by omega), Go.IntWalk.i64_in (i - 1) (by omega)]
      refine ⟨by omega, by omega, h3, h4, h5, ?_⟩
      rw [show (i - 1 + 1).toNat = i.toNat by omega, hdec]
      omega
    · rw [Go.IntWalk.i64_in (i - 1) (by omega)]
      show (i - 1 + 1).toNat < (i + 1).toNat
      omega
    · have hi : i = -1 := by omega
      subst hi
      have e0 : ((-1 : Int) + 1).toNat = 0 := rfl
      rw [e0, List.drop_zero] at h6
      have hv : fVar n = toBytes (vb (dec (a0.take k.toNat))) := by rw [h6]; exact fVar_dec (by simp; omega)
      have hok : okAt a0 k.toNat = (fVar n == a0.take k.toNat) := by
        have hlk : decide (k.toNat ≤ a0.length) = true := by simp; omega
        unfold okAt
        rw [hlk, hv, Bool.true_and]
        by_cases hc : canon (a0.take k.toNat)
        · rw [decide_eq_true hc]; unfold canon at hc; rw [hc]; simp
        · rw [decide_eq_false hc]; unfold canon at hc; symm; simp [hc]
      refine ⟨by omega, by omega, fun hy => ?_, fun hn => ⟨?_, ?_⟩⟩
      · rw [hy] at hok
        rw [readVar_some (j := k.toNat - 1) (by omega) (by rw [show k.toNat - 1 + 1 = k.toNat by omega]; exact hok) (fun i hi => hno i (by omega))]
        rw [show k.toNat - 1 + 1 = k.toNat by omega, h6]
        simp only [Prod.mk.injEq, true_and]
        omega
      · rw [Go.IntWalk.i64_in _ (by omega)]
        refine ⟨by omega, by omega, fun i hi => ?_⟩
        by_cases he : (i : Int) + 1 < k
        · exact hno i he
        · rw [show i + 1 = k.toNat by omega, hok]; exact hn
      · rw [Go.IntWalk.i64_in _ (by omega)]
        show (8 - (k + 1)).toNat < (8 - k).toNat
        omega
  · exact (readVar_none fun i hi => by
      by_cases he : (i : Int) + 1 < k
      · exact hno i he
      · exact okAt_long (by omega)).symm
  · exact (readVar_none fun i hi => hno i (by omega)).symm

set_option maxRecDepth 100000 in
theorem spec_ReadVar.eq (i : El c_spec_ReadVar.I) (x : El c_spec_ReadVar.A) : vc tab (gam [(70, c_spec_Var)] []) (spec_ReadVar.L x) (match Try.f101.body with | some c => c | none => .skip) 1 (initSt c_spec_ReadVar Try.f101.ntmps i x) (bodyK tab c_spec_ReadVar Try.f101.results.toList [3, 3] i x) = spec_ReadVar.F x := by kernel_rfl
theorem spec_ReadVar.ok : ConOk Try.prog 101 c_spec_ReadVar :=
  conOk_of_eq (con := c_spec_ReadVar) (tab := tab) (Γ := (gam [(70, c_spec_Var)] [])) (fn := Try.f101) (c := (match Try.f101.body with | some c => c | none => .skip)) (fun i x => spec_ReadVar.L x) (fun i x => spec_ReadVar.F x) rfl tabOk (gam_cons ⟨_, Try.func70, rfl, rfl⟩ spec_Var.ok (gam_nil _ [])) Try.func101 rfl [3, 3] (by kernel_rfl) spec_ReadVar.eq fun i x h hi hw => spec_ReadVar.pure x h hw

def rwI (s : List UInt8) (n i : Int) : Prop := 0 ≤ i ∧ i ≤ 7 ∧ i ≤ (s.length : Int) ∧ n = ((dec (s.take i.toNat) : Nat) : Int) ∧ ∀ j : Nat, (j : Int) < i → 128 ≤ (s.getD j 0).toNat
def rwM (s : List UInt8) (n i : Int) : Nat := (8 - i).toNat

theorem pow_128 (i : Nat) : (2 : Int) ^ (7 * i) = ((128 ^ i : Nat) : Int) := by
  rw [Int.pow_mul]; simp

theorem okAt_here {s : List UInt8} {i : Nat} (hi : i < s.length) (hb : (s.getD i 0).toNat < 128) (hp : ∀ j : Nat, j < i → 128 ≤ (s.getD j 0).toNat) : okAt s (i + 1) = (decide (i = 0) || decide ((s.getD i 0).toNat ≠ 0)) := by
  unfold okAt
  rw [show decide (i + 1 ≤ s.length) = true by simp; omega, Bool.true_and, take_succ_getD hi]
  have hpre : ∀ b ∈ s.take i, 128 ≤ b.toNat := by
    intro b hm
    obtain ⟨j, hj, e⟩ := List.mem_take_iff_getElem.1 hm
    have := hp j (by omega)
    rw [List.getD_eq_getElem?_getD, List.getElem?_eq_getElem (by omega)] at this
    rw [← e]; exact this
  have hnil : s.take i = [] ↔ i = 0 := by
    constructor
    · intro e; have := congrArg List.length e; simp at this; rcases this with h | h
      · exact h
      · rw [h] at hi; simp at hi
    · intro e; subst e; rfl
  have hiff := canon_iff (s.getD i 0) (s.take i)
  by_cases hc : i = 0 ∨ (s.getD i 0).toNat ≠ 0
  · have : canon (s.take i ++ [s.getD i 0]) := hiff.2 ⟨hb, hpre, hc.imp hnil.2 id⟩
    rw [decide_eq_true this]
    rcases hc with h | h
    · rw [decide_eq_true h, Bool.true_or]
    · rw [decide_eq_true h, Bool.or_true]
  · have : ¬ canon (s.take i ++ [s.getD i 0]) := fun h => hc ((hiff.1 h).2.2.imp hnil.1 id)
    rw [decide_eq_false this]
    have h1 : ¬ i = 0 := fun h => hc (.inl h)
    have h2 : (s.getD i 0).toNat = 0 := Decidable.not_not.1 fun h => hc (.inr h)
    rw [decide_eq_false h1, decide_eq_false (fun h => h h2)]
    rfl

def c_impl_ReadVar : Con := { io := false, I := .unit, ownI := [], A := .str, shA := [.one], ownA := [], backA := [], B := .unit, R := (.pair (.int .i64) (.int .i64)), shR := [(false, 1), (false, 1)], fresh := [], newR := false, pre := fun _ a => True, f := some fun _ a => ((fReadVar a), ((), ())) }
def impl_ReadVar.F  (a0 : (List UInt8)) : Prop := (([(0, .val false [.str a0])] : List (Nat × Sv)) = [(0, .val false [.str a0])] ∧ ((rwI a0 0 0) ∧ ∀ (y1 : (Int × Int)), (rwI a0 y1.1 y1.2) → (caseB (decide (y1.2 < (7 : Int))) (caseB (decide (y1.2 < ((List.length a0 : Nat) : Int))) (0 ≤ y1.2 ∧ (y1.2 < ((List.length a0 : Nat) : Int) ∧ ((128 : Int) ≠ 0 ∧ (0 ≤ (IntKind.wrap .i64 ((7 : Int) * y1.2)) ∧ (0 ≤ y1.2 ∧ (y1.2 < ((List.length a0 : Nat) : Int) ∧ (caseB (decide (((UInt8.toNat (List.getD a0 (Int.toNat y1.2) 0) : Nat) : Int) ≥ (128 : Int))) (([(0, .val false [.str a0])] : List (Nat × Sv)) = [(0, .val false [.str a0])] ∧ (rwI a0 (IntKind.wrap .i64 (y1.1 + (IntKind.wrap .i64 ((IntKind.wrap .i64 (Int.tmod ((UInt8.toNat (List.getD a0 (Int.toNat y1.2) 0) : Nat) : Int) (128 : Int))) * 2 ^ (min (Int.toNat (IntKind.wrap .i64 ((7 : Int) * y1.2))) (IntKind.bits .i64)))))) (IntKind.wrap .i64 (y1.2 + (1 : Int)))) ∧ (rwM a0 (IntKind.wrap .i64 (y1.1 + (IntKind.wrap .i64 ((IntKind.wrap .i64 (Int.tmod ((UInt8.toNat (List.getD a0 (Int.toNat y1.2) 0) : Nat) : Int) (128 : Int))) * 2 ^ (min (Int.toNat (IntKind.wrap .i64 ((7 : Int) * y1.2))) (IntKind.bits .i64)))))) (IntKind.wrap .i64 (y1.2 + (1 : Int)))) < (rwM a0 y1.1 y1.2)) (0 ≤ y1.2 ∧ (y1.2 < ((List.length a0 : Nat) : Int) ∧ (caseB (((UInt8.toNat (List.getD a0 (Int.toNat y1.2) 0) : Nat) : Int) == (0 : Int)) (caseB (decide (y1.2 > (0 : Int))) ((((0, 0), ((), ())) : (Int × Int) × (Unit × Unit)) = ((fReadVar a0), ((), ()))) (((((IntKind.wrap .i64 (y1.1 + (IntKind.wrap .i64 ((IntKind.wrap .i64 (Int.tmod ((UInt8.toNat (List.getD a0 (Int.toNat y1.2) 0) : Nat) : Int) (128 : Int))) * 2 ^ (min (Int.toNat (IntKind.wrap .i64 ((7 : Int) * y1.2))) (IntKind.bits .i64)))))), (IntKind.wrap .i64 (y1.2 + (1 : Int)))), ((), ())) : (Int × Int) × (Unit × Unit)) = ((fReadVar a0), ((), ())))) (((((IntKind.wrap .i64 (y1.1 + (IntKind.wrap .i64 ((IntKind.wrap .i64 (Int.tmod ((UInt8.toNat (List.getD a0 (Int.toNat y1.2) 0) : Nat) : Int) (128 : Int))) * 2 ^ (min (Int.toNat (IntKind.wrap .i64 ((7 : Int) * y1.2))) (IntKind.bits .i64)))))), (IntKind.wrap .i64 (y1.2 + (1 : Int)))), ((), ())) : (Int × Int) × (Unit × Unit)) = ((fReadVar a0), ((), ()))))))))))))) ((((0, 0), ((), ())) : (Int × Int) × (Unit × Unit)) = ((fReadVar a0), ((), ())))) ((((0, 0), ((), ())) : (Int × Int) × (Unit × Unit)) = ((fReadVar a0), ((), ()))))))
def impl_ReadVar.L  (a0 : (List UInt8)) : Nat → Option LoopAnn := fun p => Go.Proofs.Ytcbehcpmojnnfaa.Bv.look p [(58, { kp := { hold := [0], slots := [4, 5], boxes := [], rows := [] }, T := (.pair (.int .i64) (.int .i64)), I := fun st y => rwI a0 y.1 y.2, μ := fun st y => rwM a0 y.1 y.2 })]

theorem impl_ReadVar.pure  (a0 : (List UInt8)) (h : True) (hw : Wf c_impl_ReadVar.A a0) : impl_ReadVar.F a0 := by
  unfold impl_ReadVar.F
  simp only [forall_eq, true_and, and_true, caseB_iff, Prod.mk.injEq, decide_eq_true_eq, decide_eq_false_iff_not, beq_iff_eq, beq_eq_false_iff_ne]
  refine ⟨⟨by omega, by omega, by omega, rfl, fun j hj => by omega⟩, fun y hy => ?_⟩
  obtain ⟨n, i⟩ := y
  obtain ⟨h1, h2, h3, h4, h5⟩ := hy
  simp only at h1 h2 h3 h4 h5 ⊢
  have hlast : ∀ j : Nat, (j : Int) < i → okAt a0 (j + 1) = false := fun j hj => okAt_last (by omega) (h5 j hj)
  refine ⟨fun h7 => ⟨fun hl => ?_, fun hl => ?_⟩, fun h7 => ?_⟩
  · have hx := (a0.getD i.toNat 0).toNat_lt
    have e2 : Int.tmod (((a0.getD i.toNat 0).toNat : Nat) : Int) 128 = (((a0.getD i.toNat 0).toNat % 128 : Nat) : Int) := by
      rw [Int.tmod_eq_emod_of_nonneg (by omega)]; omega
    have e7 : IntKind.wrap .i64 (7 * i) = 7 * i := Go.IntWalk.i64_in _ (by omega)
    have eb : IntKind.bits .i64 = 64 := rfl
    have em : min (7 * i).toNat 64 = 7 * i.toNat := by omega
    have hdl := dec_lt (a0.take i.toNat)
    have htl : (a0.take i.toNat).length = i.toNat := by simp; omega
    rw [htl] at hdl
    have hpw : 128 ^ i.toNat ≤ 128 ^ 6 := Nat.pow_le_pow_right (by omega) (by omega)
    have hmul : (a0.getD i.toNat 0).toNat % 128 * 128 ^ i.toNat ≤ 127 * 128 ^ 6 := Nat.mul_le_mul (by omega) hpw
    have hdec : dec (a0.take (i.toNat + 1)) = dec (a0.take i.toNat) + (a0.getD i.toNat 0).toNat % 128 * 128 ^ i.toNat := by
      rw [take_succ_getD (by omega), dec_append, htl]
    have en : IntKind.wrap .i64 (n + IntKind.wrap .i64 (IntKind.wrap .i64 (((a0.getD i.toNat 0).toNat % 128 : Nat) : Int) * 2 ^ (7 * i.toNat))) = ((dec (a0.take (i.toNat + 1)) : Nat) : Int) := by
      rw [pow_128, Go.IntWalk.i64_in (((a0.getD i.toNat 0).toNat % 128 : Nat) : Int) (by omega), ← Int.natCast_mul, Go.IntWalk.i64_in (((a0.getD i.toNat 0).toNat % 128 * 128 ^ i.toNat : Nat) : Int) (by omega), Go.IntWalk.i64_in _ (by omega), hdec]
      omega
    have ei : IntKind.wrap .i64 (i + 1) = i + 1 := Go.IntWalk.i64_in _ (by omega)
    simp only [e2, e7, eb, em, en, ei]
    refine ⟨by omega, by omega, by omega, by omega, by omega, by omega, fun hb => ⟨⟨by omega, by omega, by omega, ?_, fun j hj => ?_⟩, ?_⟩, fun hb => ⟨by omega, by omega, fun hz => ⟨fun hp => ?_, fun hp => ?_⟩, fun hz => ?_⟩⟩
    · rw [show (i + 1).toNat = i.toNat + 1 by omega]
    · by_cases he : (j : Int) < i
      · exact h5 j he
      · rw [show j = i.toNat by omega]; omega
    · show (8 - (i + 1)).toNat < (8 - i).toNat
      omega
    · refine (readVar_none fun k hk => ?_).symm
      by_cases he : (k : Int) < i
      · exact hlast k he
      · by_cases he2 : k = i.toNat
        · rw [he2, okAt_here (by omega) (by omega) (fun j hj => h5 j (by omega)), decide_eq_false (by omega), decide_eq_false (by omega)]
          rfl
        · exact okAt_early (i := i.toNat) (by omega) (by omega) (by omega)
    · have := readVar_some (s := a0) (j := i.toNat) (by omega) (by rw [okAt_here (by omega) (by omega) (fun j hj => h5 j (by omega)), decide_eq_true (show i.toNat = 0 by omega), Bool.true_or]) (fun k hk => hlast k (by omega))
      rw [this]
      simp only [Prod.mk.injEq, true_and]
      omega
    · have := readVar_some (s := a0) (j := i.toNat) (by omega) (by rw [okAt_here (by omega) (by omega) (fun j hj => h5 j (by omega)), decide_eq_true (show (a0.getD i.toNat 0).toNat ≠ 0 by omega), Bool.or_true]) (fun k hk => hlast k (by omega))
      rw [this]
      simp only [Prod.mk.injEq, true_and]
      omega
  · refine (readVar_none fun k hk => ?_).symm
    by_cases he : (k : Int) < i
    · exact hlast k he
    · exact okAt_long (by omega)
  · exact (readVar_none fun k hk => hlast k (by omega)).symm

set_option maxRecDepth 100000 in
theorem impl_ReadVar.eq (i : El c_impl_ReadVar.I) (x : El c_impl_ReadVar.A) : vc tab (gam [] []) (impl_ReadVar.L x) (match Try.f102.body with | some c => c | none => .skip) 1 (initSt c_impl_ReadVar Try.f102.ntmps i x) (bodyK tab c_impl_ReadVar Try.f102.results.toList [3, 3] i x) = impl_ReadVar.F x := by kernel_rfl
theorem impl_ReadVar.ok : ConOk Try.prog 102 c_impl_ReadVar :=
  conOk_of_eq (con := c_impl_ReadVar) (tab := tab) (Γ := (gam [] [])) (fn := Try.f102) (c := (match Try.f102.body with | some c => c | none => .skip)) (fun i x => impl_ReadVar.L x) (fun i x => impl_ReadVar.F x) rfl tabOk (gam_nil _ []) Try.func102 rfl [3, 3] (by kernel_rfl) impl_ReadVar.eq fun i x h hi hw => impl_ReadVar.pure x h hw

end Go.Proofs.Ytcbehcpmojnnfaa.B

/- Routes: the parts. -/
namespace Go.Proofs.Ytcbehcpmojnnfaa.B
set_option linter.unusedVariables false
set_option linter.unusedSimpArgs false
open Go Go.Proofs.Ytcbehcpmojnnfaa.Bv

abbrev Rd := List UInt8 × Bool
def fNum (i : Rd) : Int × Rd := if i.2 = true ∧ (fReadVar i.1).2 > 0 then ((fReadVar i.1).1, (i.1.drop (fReadVar i.1).2.toNat, true)) else (0, (i.1, false))
def eqBu (a b : Pt) : Bool := decide (a = b)
def eqBus (l k : List Pt) : Bool := decide (l = k)
def c_impl_BucketOf : Con := { io := false, I := .unit, ownI := [], A := (.int .i64), shA := [.one], ownA := [], backA := [], B := .unit, R := (.int .i64), shR := [(false, 1)], fresh := [], newR := false, pre := fun _ a => True, f := some fun _ a => ((fBucket a), ((), ())) }
def impl_BucketOf.F  (a0 : Int) : Prop := (True ∧ ∀ (r1 : Bool × (Unit × Unit)), ((r1 : Bool × (Unit × Unit)) = ((fIn a0 0 1099511627776), ((), ()))) → (caseB (!r1.1) ((((-1), ((), ())) : Int × (Unit × Unit)) = ((fBucket a0), ((), ()))) ((100 : Int) ≠ 0 ∧ ((((IntKind.wrap .i64 (Int.tdiv a0 (100 : Int))), ((), ())) : Int × (Unit × Unit)) = ((fBucket a0), ((), ()))))))
def impl_BucketOf.L  (a0 : Int) : Nat → Option LoopAnn := fun p => Go.Proofs.Ytcbehcpmojnnfaa.Bv.look p []

theorem impl_BucketOf.pure  (a0 : Int) (h : True) (hw : Wf c_impl_BucketOf.A a0) : impl_BucketOf.F a0 := by
  unfold impl_BucketOf.F fBucket
  simp only [forall_eq, true_and, and_true, caseB_iff, Prod.mk.injEq, Bool.not_eq_true', Bool.not_eq_false']
  refine ⟨fun h1 => by simp [h1], fun h1 => ⟨by omega, ?_⟩⟩
  have h2 := h1
  simp only [fIn, Bool.and_eq_true, decide_eq_true_eq] at h2
  rw [if_pos h1, Int.tdiv_eq_ediv_of_nonneg h2.1]
  exact Go.IntWalk.i64_in _ (by omega)

set_option maxRecDepth 100000 in
theorem impl_BucketOf.eq (i : El c_impl_BucketOf.I) (x : El c_impl_BucketOf.A) : vc tab (gam [(68, c_impl_from)] []) (impl_BucketOf.L x) (match Try.f17.body with | some c => c | none => .skip) 1 (initSt c_impl_BucketOf Try.f17.ntmps i x) (bodyK tab c_impl_BucketOf Try.f17.results.toList [3] i x) = impl_BucketOf.F x := by kernel_rfl
theorem impl_BucketOf.ok : ConOk Try.prog 17 c_impl_BucketOf :=
  conOk_of_eq (con := c_impl_BucketOf) (tab := tab) (Γ := (gam [(68, c_impl_from)] [])) (fn := Try.f17) (c := (match Try.f17.body with | some c => c | none => .skip)) (fun i x => impl_BucketOf.L x) (fun i x => impl_BucketOf.F x) rfl tabOk (gam_cons ⟨_, Try.func68, rfl, rfl⟩ impl_from.ok (gam_nil _ [])) Try.func17 rfl [3] (by kernel_rfl) impl_BucketOf.eq fun i x h hi hw => impl_BucketOf.pure x h hw

def c_impl_rd_num : Con := { io := true, I := (.pair .str .bool), ownI := [], A := .unit, shA := [], ownA := [], backA := [], B := .unit, R := (.int .i64), shR := [(false, 1)], fresh := [], newR := false, pre := fun i a => True, f := some fun i a => ((fNum i).1, ((fNum i).2, ())) }
def impl_rd_num.F (i0 : ((List UInt8) × Bool))  : Prop := (True ∧ ∀ (r1 : (Int × Int) × (Unit × Unit)), ((r1 : (Int × Int) × (Unit × Unit)) = ((fReadVar i0.1), ((), ()))) → (caseB i0.2 (caseB (!(decide (r1.1.2 > (0 : Int)))) (((0, ((i0.1, (decide (r1.1.2 > (0 : Int)))), ())) : Int × (((List UInt8) × Bool) × Unit)) = ((fNum i0).1, ((fNum i0).2, ()))) (0 ≤ r1.1.2 ∧ (r1.1.2 ≤ ((List.length i0.1 : Nat) : Int) ∧ (((r1.1.1, (((List.drop (Int.toNat r1.1.2) i0.1), (decide (r1.1.2 > (0 : Int)))), ())) : Int × (((List UInt8) × Bool) × Unit)) = ((fNum i0).1, ((fNum i0).2, ())))))) (((0, ((i0.1, false), ())) : Int × (((List UInt8) × Bool) × Unit)) = ((fNum i0).1, ((fNum i0).2, ())))))
def impl_rd_num.L (i0 : ((List UInt8) × Bool))  : Nat → Option LoopAnn := fun p => Go.Proofs.Ytcbehcpmojnnfaa.Bv.look p []

theorem impl_rd_num.pure (i0 : ((List UInt8) × Bool))  (h : True) (hi : Wf c_impl_rd_num.I i0) (hw : Wf c_impl_rd_num.A ()) : impl_rd_num.F i0 := by
  unfold impl_rd_num.F
  simp only [forall_eq, true_and, and_true, caseB_iff, Prod.mk.injEq, decide_eq_true_eq, decide_eq_false_iff_not, Bool.not_eq_true', Bool.not_eq_false']
  have hb := readVar_bound i0.1
  refine ⟨fun h1 => ⟨fun h2 => ?_, fun h2 => ⟨by omega, by omega, ?_⟩⟩, fun h1 => ?_⟩
  · have : ¬ (i0.2 = true ∧ (fReadVar i0.1).2 > 0) := fun h => h2 h.2
    simp only [fNum, if_neg this, decide_eq_false h2, and_self]
  · have h3 : (fReadVar i0.1).2 > 0 := by
      by_cases h4 : (fReadVar i0.1).2 > 0
      · exact h4
      · simp [h4] at h2
    simp only [fNum, if_pos (And.intro h1 h3), decide_eq_true h3, and_self]
  · have : ¬ (i0.2 = true ∧ (fReadVar i0.1).2 > 0) := fun h => by rw [h1] at h; cases h.1
    simp only [fNum, if_neg this, and_self]

set_option maxRecDepth 100000 in
theorem impl_rd_num.eq (i : El c_impl_rd_num.I) (x : El c_impl_rd_num.A) : vc tab (gam [(102, c_impl_ReadVar)] []) (impl_rd_num.L i) (match Try.f73.body with | some c => c | none => .skip) 1 (initSt c_impl_rd_num Try.f73.ntmps i x) (bodyK tab c_impl_rd_num Try.f73.results.toList [3] i x) = impl_rd_num.F i := by kernel_rfl
theorem impl_rd_num.ok : ConOk Try.prog 73 c_impl_rd_num :=
  conOk_of_eq (con := c_impl_rd_num) (tab := tab) (Γ := (gam [(102, c_impl_ReadVar)] [])) (fn := Try.f73) (c := (match Try.f73.body with | some c => c | none => .skip)) (fun i x => impl_rd_num.L i) (fun i x => impl_rd_num.F i) rfl tabOk (gam_cons ⟨_, Try.func102, rfl, rfl⟩ impl_ReadVar.ok (gam_nil _ [])) Try.func73 rfl [3] (by kernel_rfl) impl_rd_num.eq fun i x h hi hw => impl_rd_num.pure i h (hi rfl) hw

def c_laws_eqBucket : Con := { io := false, I := .unit, ownI := [], A := (.pair (.pair (.int .i64) (.int .i64)) (.pair (.int .i64) (.int .i64))), shA := [.agg 2, .agg 2], ownA := [], backA := [], B := .unit, R := .bool, shR := [(false, 1)], fresh := [], newR := false, pre := fun _ a => True, f := some fun _ a => ((eqBu a.1 a.2), ((), ())) }
def laws_eqBucket.F  (a0 : (Int × Int)) (a1 : (Int × Int)) : Prop := (caseB (a0.1 != a1.1) (((false, ((), ())) : Bool × (Unit × Unit)) = ((eqBu a0 a1), ((), ()))) (caseB (a0.2 != a1.2) (((false, ((), ())) : Bool × (Unit × Unit)) = ((eqBu a0 a1), ((), ()))) (((true, ((), ())) : Bool × (Unit × Unit)) = ((eqBu a0 a1), ((), ())))))
def laws_eqBucket.L  (a0 : (Int × Int)) (a1 : (Int × Int)) : Nat → Option LoopAnn := fun p => Go.Proofs.Ytcbehcpmojnnfaa.Bv.look p []

theorem laws_eqBucket.pure  (a0 : (Int × Int)) (a1 : (Int × Int)) (h : True) (hw : Wf c_laws_eqBucket.A (a0, a1)) : laws_eqBucket.F a0 a1 := by
  unfold laws_eqBucket.F eqBu
  obtain ⟨x1, x2⟩ := a0
  obtain ⟨y1, y2⟩ := a1
  simp only [forall_eq, true_and, and_true, caseB_iff, Prod.mk.injEq, decide_eq_true_eq, decide_eq_false_iff_not, Bool.not_eq_true', Bool.not_eq_false']
  refine ⟨fun h1 => ?_, fun h1 => ⟨fun h2 => ?_, fun h2 => ?_⟩⟩ <;> simp_all

set_option maxRecDepth 100000 in
theorem laws_eqBucket.eq (i : El c_laws_eqBucket.I) (x : El c_laws_eqBucket.A) : vc tab (gam [] []) (laws_eqBucket.L x.1 x.2) (match Try.f75.body with | some c => c | none => .skip) 1 (initSt c_laws_eqBucket Try.f75.ntmps i x) (bodyK tab c_laws_eqBucket Try.f75.results.toList [4] i x) = laws_eqBucket.F x.1 x.2 := by kernel_rfl
theorem laws_eqBucket.ok : ConOk Try.prog 75 c_laws_eqBucket :=
  conOk_of_eq (con := c_laws_eqBucket) (tab := tab) (Γ := (gam [] [])) (fn := Try.f75) (c := (match Try.f75.body with | some c => c | none => .skip)) (fun i x => laws_eqBucket.L x.1 x.2) (fun i x => laws_eqBucket.F x.1 x.2) rfl tabOk (gam_nil _ []) Try.func75 rfl [4] (by kernel_rfl) laws_eqBucket.eq fun i x h hi hw => laws_eqBucket.pure x.1 x.2 h hw

def c_laws_eqBucketS : Con := { io := false, I := .unit, ownI := [], A := (.pair (.list (.pair (.int .i64) (.int .i64))) (.list (.pair (.int .i64) (.int .i64)))), shA := [.one, .one], ownA := [], backA := [], B := .unit, R := .bool, shR := [(false, 1)], fresh := [], newR := false, pre := fun _ a => True, f := some fun _ a => ((eqBus a.1 a.2), ((), ())) }
def laws_eqBucketS.F  (a0 : (List (Int × Int))) (a1 : (List (Int × Int))) : Prop := (caseB (((List.length a0 : Nat) : Int) != ((List.length a1 : Nat) : Int)) (((false, ((), ())) : Bool × (Unit × Unit)) = ((eqBus a0 a1), ((), ()))) (([(0, .val false [.lst (.pair (.int .i64) (.int .i64)) a0 none]), (1, .val false [.lst (.pair (.int .i64) (.int .i64)) a1 none])] : List (Nat × Sv)) = [(0, .val false [.lst (.pair (.int .i64) (.int .i64)) a0 none]), (1, .val false [.lst (.pair (.int .i64) (.int .i64)) a1 none])] ∧ ((eqPI a0 a1 0) ∧ ∀ (y1 : Int), (eqPI a0 a1 y1) → (caseB (decide (y1 < ((List.length a0 : Nat) : Int))) (0 ≤ y1 ∧ (y1 < ((List.length a0 : Nat) : Int) ∧ (0 ≤ y1 ∧ (y1 < ((List.length a1 : Nat) : Int) ∧ (True ∧ ∀ (r2 : Bool × (Unit × Unit)), ((r2 : Bool × (Unit × Unit)) = ((eqBu ((List.getD a0 (Int.toNat y1) ((0 : Int), (0 : Int))).1, (List.getD a0 (Int.toNat y1) ((0 : Int), (0 : Int))).2) ((List.getD a1 (Int.toNat y1) ((0 : Int), (0 : Int))).1, (List.getD a1 (Int.toNat y1) ((0 : Int), (0 : Int))).2)), ((), ()))) → (caseB (!r2.1) (((false, ((), ())) : Bool × (Unit × Unit)) = ((eqBus a0 a1), ((), ()))) (([(0, .val false [.lst (.pair (.int .i64) (.int .i64)) a0 none]), (1, .val false [.lst (.pair (.int .i64) (.int .i64)) a1 none])] : List (Nat × Sv)) = [(0, .val false [.lst (.pair (.int .i64) (.int .i64)) a0 none]), (1, .val false [.lst (.pair (.int .i64) (.int .i64)) a1 none])] ∧ (eqPI a0 a1 (IntKind.wrap .i64 (y1 + (1 : Int)))) ∧ (eqPM a0 a1 (IntKind.wrap .i64 (y1 + (1 : Int)))) < (eqPM a0 a1 y1)))))))) (((true, ((), ())) : Bool × (Unit × Unit)) = ((eqBus a0 a1), ((), ())))))))
def laws_eqBucketS.L  (a0 : (List (Int × Int))) (a1 : (List (Int × Int))) : Nat → Option LoopAnn := fun p => Go.Proofs.Ytcbehcpmojnnfaa.Bv.look p [(58, { kp := { hold := [0, 1], slots := [5], boxes := [], rows := [] }, T := (.int .i64), I := fun st y => eqPI a0 a1 y, μ := fun st y => eqPM a0 a1 y })]

theorem laws_eqBucketS.pure  (a0 : (List (Int × Int))) (a1 : (List (Int × Int))) (h : True) (hw : Wf c_laws_eqBucketS.A (a0, a1)) : laws_eqBucketS.F a0 a1 := by
  unfold laws_eqBucketS.F
  have hw1 : a0.length ≤ maxLen := hw.1.1
  unfold maxLen at hw1
  simp only [forall_eq, true_and, and_true, caseB_iff, Prod.mk.injEq, decide_eq_true_eq, decide_eq_false_iff_not, Bool.not_eq_true', Bool.not_eq_false']
  refine ⟨fun h1 => ?_, fun h1 => ?_⟩
  · have : a0 ≠ a1 := fun e => by subst e; simp at h1
    simp [eqBus, this]
  have hl : a0.length = a1.length := by simp at h1; omega
  refine ⟨⟨by omega, by omega, hl, by simp⟩, ?_⟩
  rintro i hI
  have h2 := hI.1
  have h3 := hI.2.1
  refine ⟨fun hi => ⟨h2, hi, h2, by omega, fun hne => ?_, fun he => ?_⟩, fun hi => ?_⟩
  · have : a0 ≠ a1 := fun e => by subst e; simp [eqBu] at hne
    simp [eqBus, this]
  · have hg : a0.getD i.toNat (0, 0) = a1.getD i.toNat (0, 0) := by simpa only [eqBu, decide_eq_true_eq] using he
    have e2 : IntKind.wrap .i64 (i + 1) = i + 1 := Go.IntWalk.i64_in _ (by omega)
    rw [e2]
    exact ⟨eqG_step hI hi hg, by unfold eqPM; omega⟩
  · have h6 := eqG_end hI hi
    simp [eqBus, h6]

set_option maxRecDepth 100000 in
theorem laws_eqBucketS.eq (i : El c_laws_eqBucketS.I) (x : El c_laws_eqBucketS.A) : vc tab (gam [(75, c_laws_eqBucket)] []) (laws_eqBucketS.L x.1 x.2) (match Try.f34.body with | some c => c | none => .skip) 1 (initSt c_laws_eqBucketS Try.f34.ntmps i x) (bodyK tab c_laws_eqBucketS Try.f34.results.toList [4] i x) = laws_eqBucketS.F x.1 x.2 := by kernel_rfl
theorem laws_eqBucketS.ok : ConOk Try.prog 34 c_laws_eqBucketS :=
  conOk_of_eq (con := c_laws_eqBucketS) (tab := tab) (Γ := (gam [(75, c_laws_eqBucket)] [])) (fn := Try.f34) (c := (match Try.f34.body with | some c => c | none => .skip)) (fun i x => laws_eqBucketS.L x.1 x.2) (fun i x => laws_eqBucketS.F x.1 x.2) rfl tabOk (gam_cons ⟨_, Try.func75, rfl, rfl⟩ laws_eqBucket.ok (gam_nil _ [])) Try.func34 rfl [4] (by kernel_rfl) laws_eqBucketS.eq fun i x h hi hw => laws_eqBucketS.pure x.1 x.2 h hw

def v7Go (s : List UInt8) : Nat → Int → List Int → List Int × Int
  | 0, p, out => (out, p)
  | n + 1, p, out => if (fReadVar (s.drop p.toNat)).2 = 0 then (out, -1) else v7Go s n (p + (fReadVar (s.drop p.toNat)).2) (out ++ [(fReadVar (s.drop p.toNat)).1])
def fVars7 (s : List UInt8) (n : Int) : List Int × Int := v7Go s n.toNat 0 []
def p7 (s : List UInt8) (n : Int) : Prop := s.length ≤ 1048576 ∧ 0 ≤ n ∧ n ≤ 1000
def v7I (s : List UInt8) (n p i : Int) (out : List Int) : Prop := 0 ≤ i ∧ i ≤ n ∧ 0 ≤ p ∧ p ≤ s.length ∧ (out.length : Int) = i ∧ v7Go s (n - i).toNat p out = fVars7 s n
def v7M (s : List UInt8) (n p i : Int) (out : List Int) : Nat := (n - i).toNat
def c_spec_l7Vars : Con := { io := false, I := .unit, ownI := [], A := (.pair .str (.int .i64)), shA := [.one, .one], ownA := [], backA := [], B := .unit, R := (.pair (.list (.int .i64)) (.int .i64)), shR := [(false, 1), (false, 1)], fresh := [(0, 3)], newR := false, pre := fun _ a => (p7 a.1 a.2), f := some fun _ a => ((fVars7 a.1 a.2), ((), ())) }
def spec_l7Vars.F  (a0 : (List UInt8)) (a1 : Int) : Prop := (([(0, .val false [.str a0]), (1, .val false [.int .i64 a1])] : List (Nat × Sv)) = [(0, .val false [.str a0]), (1, .val false [.int .i64 a1])] ∧ ((v7I a0 a1 0 0 ([] : List Int)) ∧ ∀ (y1 : (Int × (Int × (List Int)))), (v7I a0 a1 y1.1 y1.2.1 y1.2.2) → (caseB (decide (y1.2.1 < a1)) (0 ≤ y1.1 ∧ (y1.1 ≤ ((List.length a0 : Nat) : Int) ∧ (True ∧ ∀ (r2 : (Int × Int) × (Unit × Unit)), ((r2 : (Int × Int) × (Unit × Unit)) = ((fReadVar (List.drop (Int.toNat y1.1) a0)), ((), ()))) → (caseB (r2.1.2 == (0 : Int)) ((((y1.2.2, (-1)), ((), ())) : ((List Int) × Int) × (Unit × Unit)) = ((fVars7 a0 a1), ((), ()))) (List.length y1.2.2 + List.length [r2.1.1] ≤ 9223372036854775807 ∧ ((List.length y1.2.2 + List.length [r2.1.1]) * 8 ≤ 140737488355328 ∧ (([(0, .val false [.str a0]), (1, .val false [.int .i64 a1])] : List (Nat × Sv)) = [(0, .val false [.str a0]), (1, .val false [.int .i64 a1])] ∧ (v7I a0 a1 (IntKind.wrap .i64 (y1.1 + r2.1.2)) (IntKind.wrap .i64 (y1.2.1 + (1 : Int))) (y1.2.2 ++ [r2.1.1])) ∧ (v7M a0 a1 (IntKind.wrap .i64 (y1.1 + r2.1.2)) (IntKind.wrap .i64 (y1.2.1 + (1 : Int))) (y1.2.2 ++ [r2.1.1])) < (v7M a0 a1 y1.1 y1.2.1 y1.2.2)))))))) ((((y1.2.2, y1.1), ((), ())) : ((List Int) × Int) × (Unit × Unit)) = ((fVars7 a0 a1), ((), ()))))))
def spec_l7Vars.L  (a0 : (List UInt8)) (a1 : Int) : Nat → Option LoopAnn := fun p => Go.Proofs.Ytcbehcpmojnnfaa.Bv.look p [(122, { kp := { hold := [0, 1], slots := [6, 7, 8], boxes := [], rows := [{ bx := false, s := 6, i := 0, k := 1000771, e := 3, hot := true }] }, T := (.pair (.int .i64) (.pair (.int .i64) (.list (.int .i64)))), I := fun st y => v7I a0 a1 y.1 y.2.1 y.2.2, μ := fun st y => v7M a0 a1 y.1 y.2.1 y.2.2 })]

theorem spec_l7Vars.pure  (a0 : (List UInt8)) (a1 : Int) (h : (p7 a0 a1)) (hw : Wf c_spec_l7Vars.A (a0, a1)) : spec_l7Vars.F a0 a1 := by
  unfold spec_l7Vars.F
  obtain ⟨q1, q2, q3⟩ := h
  simp only [forall_eq, true_and, and_true, caseB_iff, Prod.mk.injEq, decide_eq_true_eq, decide_eq_false_iff_not, Bool.not_eq_true', Bool.not_eq_false']
  refine ⟨⟨by omega, by omega, by omega, by omega, rfl, by simp [fVars7]⟩, ?_⟩
  rintro ⟨p, i, out⟩ ⟨h1, h2, h3, h4, h5, h6⟩
  simp only at h1 h2 h3 h4 h5 h6 ⊢
  have hb := readVar_bound (a0.drop p.toNat)
  rw [List.length_drop] at hb
  refine ⟨fun hi => ⟨h3, h4, fun hz => ?_, fun hz => ?_⟩, fun hi => ?_⟩
  · have e : (a1 - i).toNat = (a1 - i - 1).toNat + 1 := by omega
    rw [e] at h6
    have hz' : (fReadVar (a0.drop p.toNat)).2 = 0 := by simpa using hz
    rw [v7Go, if_pos hz'] at h6
    exact h6
  · have hz' : ¬ (fReadVar (a0.drop p.toNat)).2 = 0 := by simpa using hz
    have e : (a1 - i).toNat = (a1 - (i + 1)).toNat + 1 := by omega
    rw [e, v7Go, if_neg hz'] at h6
    have e1 : IntKind.wrap .i64 (i + 1) = i + 1 := Go.IntWalk.i64_in _ (by omega)
    have e2 : IntKind.wrap .i64 (p + (fReadVar (a0.drop p.toNat)).2) = p + (fReadVar (a0.drop p.toNat)).2 := Go.IntWalk.i64_in _ (by omega)
    rw [e1, e2]
    exact ⟨by simp; omega, by simp; omega, ⟨by omega, by omega, by omega, by omega, by simp; omega, h6⟩, by unfold v7M; omega⟩
  · have e : (a1 - i).toNat = 0 := by omega
    rw [e, v7Go] at h6
    exact h6

set_option maxRecDepth 100000 in
theorem spec_l7Vars.eq (i : El c_spec_l7Vars.I) (x : El c_spec_l7Vars.A) : vc tab (gam [(101, c_spec_ReadVar)] []) (spec_l7Vars.L x.1 x.2) (match Try.f74.body with | some c => c | none => .skip) 1 (initSt c_spec_l7Vars Try.f74.ntmps i x) (bodyK tab c_spec_l7Vars Try.f74.results.toList [32, 3] i x) = spec_l7Vars.F x.1 x.2 := by kernel_rfl
theorem spec_l7Vars.ok : ConOk Try.prog 74 c_spec_l7Vars :=
  conOk_of_eq (con := c_spec_l7Vars) (tab := tab) (Γ := (gam [(101, c_spec_ReadVar)] [])) (fn := Try.f74) (c := (match Try.f74.body with | some c => c | none => .skip)) (fun i x => spec_l7Vars.L x.1 x.2) (fun i x => spec_l7Vars.F x.1 x.2) rfl tabOk (gam_cons ⟨_, Try.func101, rfl, rfl⟩ spec_ReadVar.ok (gam_nil _ [])) Try.func74 rfl [32, 3] (by kernel_rfl) spec_l7Vars.eq fun i x h hi hw => spec_l7Vars.pure x.1 x.2 h hw

def rStep (d : List UInt8) (out : List Pt) : Option (List UInt8 × Pt) :=
  if (fReadVar d).2 = 0 then none
  else if (fReadVar (d.drop (fReadVar d).2.toNat)).2 = 0 then none
  else if (fReadVar d).1 > fBucket 1099511627776 ∨ (fReadVar (d.drop (fReadVar d).2.toNat)).1 ≥ 2 ∨ (0 < out.length ∧ (out.getD (out.length - 1) (0, 0)).1 ≥ (fReadVar d).1) ∨ 8 ≤ out.length then none
  else some ((d.drop (fReadVar d).2.toNat).drop (fReadVar (d.drop (fReadVar d).2.toNat)).2.toNat, ((fReadVar d).1, (fReadVar (d.drop (fReadVar d).2.toNat)).1))
def rGo : Nat → List UInt8 → List Pt → List Pt × Bool
  | 0, d, out => (out, true)
  | n + 1, d, out => if d.length = 0 then (out, true) else match rStep d out with
    | none => ([], false)
    | some p => rGo n p.1 (out ++ [p.2])
def pRoutes (s : List UInt8) : Prop := s.length ≤ 1048576
def fRoutes (s : List UInt8) : List Pt × Bool := rGo s.length s []
def rI (s d : List UInt8) (out : List Pt) : Prop := d.length ≤ s.length ∧ out.length ≤ 8 ∧ ∃ n, d.length ≤ n ∧ rGo n d out = fRoutes s
def rM (s d : List UInt8) (out : List Pt) : Nat := d.length
def rI2 (s d : List UInt8) (ok : Bool) (out : List Pt) : Prop := ok = true ∧ rI s d out
def rM2 (s d : List UInt8) (ok : Bool) (out : List Pt) : Nat := d.length
theorem r_end {s d : List UInt8} {out : List Pt} (h : rI s d out) (hd : d.length = 0) : (out, true) = fRoutes s := by
  obtain ⟨_, _, n, _, h4⟩ := h
  rw [← h4]
  cases n with
  | zero => rfl
  | succ n => rw [rGo, if_pos hd]
theorem r_none {s d : List UInt8} {out : List Pt} (h : rI s d out) (hd : ¬ d.length = 0) (hs : rStep d out = none) : (([], false) : List Pt × Bool) = fRoutes s := by
  obtain ⟨_, _, n, h3, h4⟩ := h
  rw [← h4]
  cases n with
  | zero => omega
  | succ n => rw [rGo, if_neg hd, hs]
theorem r_some {s d d' : List UInt8} {out : List Pt} {e : Pt} (h : rI s d out) (hd : ¬ d.length = 0) (hs : rStep d out = some (d', e)) (hl : d'.length < d.length) (ho : out.length < 8) : rI s d' (out ++ [e]) ∧ rM s d' (out ++ [e]) < rM s d out := by
  obtain ⟨h1, h2, n, h3, h4⟩ := h
  refine ⟨⟨by omega, by simp; omega, ?_⟩, hl⟩
  cases n with
  | zero => omega
  | succ n =>
    rw [rGo, if_neg hd, hs] at h4
    exact ⟨n, by omega, h4⟩
theorem v2a {d : List UInt8} (h : (fReadVar d).2 = 0) : fVars7 d 2 = ([], -1) := by
  show v7Go d 2 0 [] = _
  simp [v7Go, h]
theorem v2b {d : List UInt8} (h : ¬ (fReadVar d).2 = 0) (h1 : (fReadVar (d.drop (fReadVar d).2.toNat)).2 = 0) : fVars7 d 2 = ([(fReadVar d).1], -1) := by
  show v7Go d 2 0 [] = _
  simp [v7Go, h, h1]
theorem v2c {d : List UInt8} (h : ¬ (fReadVar d).2 = 0) (h1 : ¬ (fReadVar (d.drop (fReadVar d).2.toNat)).2 = 0) : fVars7 d 2 = ([(fReadVar d).1, (fReadVar (d.drop (fReadVar d).2.toNat)).1], (fReadVar d).2 + (fReadVar (d.drop (fReadVar d).2.toNat)).2) := by
  show v7Go d 2 0 [] = _
  simp [v7Go, h, h1]
def c_impl_Routes : Con := { io := false, I := .unit, ownI := [], A := .str, shA := [.one], ownA := [], backA := [], B := .unit, R := (.pair (.list (.pair (.int .i64) (.int .i64))) .bool), shR := [(false, 1), (false, 1)], fresh := [(0, 94)], newR := false, pre := fun _ a => (pRoutes a), f := some fun _ a => ((fRoutes a), ((), ())) }
def impl_Routes.F  (a0 : (List UInt8)) : Prop := (([(4, .box 10 0)] : List (Nat × Sv)) = [(4, .box 10 0)] ∧ ((rI2 a0 a0 true ([] : List (Int × Int))) ∧ ∀ (y1 : ((List UInt8) × (Bool × (List (Int × Int))))), (rI2 a0 y1.1 y1.2.1 y1.2.2) → (caseB (!(y1.1 == [])) (True ∧ ∀ (r2 : Int × (((List UInt8) × Bool) × Unit)), ((r2 : Int × (((List UInt8) × Bool) × Unit)) = ((fNum (y1.1, y1.2.1)).1, ((fNum (y1.1, y1.2.1)).2, ()))) → (True ∧ ∀ (r3 : Int × (((List UInt8) × Bool) × Unit)), ((r3 : Int × (((List UInt8) × Bool) × Unit)) = ((fNum (r2.2.1.1, r2.2.1.2)).1, ((fNum (r2.2.1.1, r2.2.1.2)).2, ()))) → (caseB (!r3.2.1.2) (((([], false), ((), ())) : ((List (Int × Int)) × Bool) × (Unit × Unit)) = ((fRoutes a0), ((), ()))) (True ∧ ∀ (r4 : Int × (Unit × Unit)), ((r4 : Int × (Unit × Unit)) = ((fBucket 1099511627776), ((), ()))) → (caseB (decide (r2.1 > r4.1)) (((([], false), ((), ())) : ((List (Int × Int)) × Bool) × (Unit × Unit)) = ((fRoutes a0), ((), ()))) (caseB (decide (r3.1 ≥ (2 : Int))) (((([], false), ((), ())) : ((List (Int × Int)) × Bool) × (Unit × Unit)) = ((fRoutes a0), ((), ()))) (caseB (((List.length y1.2.2 : Nat) : Int) == (8 : Int)) (((([], false), ((), ())) : ((List (Int × Int)) × Bool) × (Unit × Unit)) = ((fRoutes a0), ((), ()))) (caseB (decide (((List.length y1.2.2 : Nat) : Int) > (0 : Int))) (0 ≤ (IntKind.wrap .i64 (((List.length y1.2.2 : Nat) : Int) - (1 : Int))) ∧ ((IntKind.wrap .i64 (((List.length y1.2.2 : Nat) : Int) - (1 : Int))) < ((List.length y1.2.2 : Nat) : Int) ∧ (caseB (decide (((List.getD y1.2.2 (Int.toNat (IntKind.wrap .i64 (((List.length y1.2.2 : Nat) : Int) - (1 : Int)))) ((0 : Int), (0 : Int))).1) ≥ r2.1)) (((([], false), ((), ())) : ((List (Int × Int)) × Bool) × (Unit × Unit)) = ((fRoutes a0), ((), ()))) (List.length y1.2.2 + List.length [(r2.1, r3.1)] ≤ 9223372036854775807 ∧ ((List.length y1.2.2 + List.length [(r2.1, r3.1)]) * 16 ≤ 140737488355328 ∧ (([(4, .box 10 0)] : List (Nat × Sv)) = [(4, .box 10 0)] ∧ (rI2 a0 r3.2.1.1 r3.2.1.2 (y1.2.2 ++ [(r2.1, r3.1)])) ∧ (rM2 a0 r3.2.1.1 r3.2.1.2 (y1.2.2 ++ [(r2.1, r3.1)])) < (rM2 a0 y1.1 y1.2.1 y1.2.2))))))) (List.length y1.2.2 + List.length [(r2.1, r3.1)] ≤ 9223372036854775807 ∧ ((List.length y1.2.2 + List.length [(r2.1, r3.1)]) * 16 ≤ 140737488355328 ∧ (([(4, .box 10 0)] : List (Nat × Sv)) = [(4, .box 10 0)] ∧ (rI2 a0 r3.2.1.1 r3.2.1.2 (y1.2.2 ++ [(r2.1, r3.1)])) ∧ (rM2 a0 r3.2.1.1 r3.2.1.2 (y1.2.2 ++ [(r2.1, r3.1)])) < (rM2 a0 y1.1 y1.2.1 y1.2.2)))))))))))) ((((y1.2.2, true), ((), ())) : ((List (Int × Int)) × Bool) × (Unit × Unit)) = ((fRoutes a0), ((), ()))))))
def impl_Routes.L  (a0 : (List UInt8)) : Nat → Option LoopAnn := fun p => Go.Proofs.Ytcbehcpmojnnfaa.Bv.look p [(60, { kp := { hold := [4], slots := [5], boxes := [10], rows := [{ bx := false, s := 5, i := 0, k := 1000643, e := 94, hot := true }] }, T := (.pair .str (.pair .bool (.list (.pair (.int .i64) (.int .i64))))), I := fun st y => rI2 a0 y.1 y.2.1 y.2.2, μ := fun st y => rM2 a0 y.1 y.2.1 y.2.2 })]

theorem impl_Routes.pure  (a0 : (List UInt8)) (h : (pRoutes a0)) (hw : Wf c_impl_Routes.A a0) : impl_Routes.F a0 := by
  unfold impl_Routes.F
  have hb : a0.length ≤ 1048576 := h
  simp only [forall_eq, true_and, and_true, caseB_iff, Prod.mk.injEq, decide_eq_true_eq, decide_eq_false_iff_not, Bool.not_eq_true', Bool.not_eq_false', beq_iff_eq]
  refine ⟨⟨rfl, Nat.le_refl _, by simp, a0.length, Nat.le_refl _, rfl⟩, ?_⟩
  rintro ⟨d, ok, out⟩ ⟨h1, hI⟩
  simp only at h1 hI ⊢
  subst h1
  have h2 := hI.1
  have h3 := hI.2.1
  have e1 : IntKind.wrap .i64 ((out.length : Int) - 1) = (out.length : Int) - 1 := Go.IntWalk.i64_in _ (by omega)
  have e3 : ((out.length : Int) - 1).toNat = out.length - 1 := by omega
  rw [e1, e3]
  refine ⟨fun hd0 => ?_, fun hd => r_end hI (by rw [hd]; rfl)⟩
  have hd : ¬ d.length = 0 := fun e => by
    have : d = [] := List.length_eq_zero_iff.1 e
    subst this; simp at hd0
  have b0 := readVar_bound d
  have b1 := readVar_bound (d.drop (fReadVar d).2.toNat)
  by_cases z0 : (fReadVar d).2 = 0
  · have f0 : fNum (d, true) = (0, (d, false)) := by simp [fNum, z0]
    have f1 : fNum (d, false) = (0, (d, false)) := by simp [fNum]
    simp only [f0, f1]
    exact ⟨fun _ => r_none hI hd (by unfold rStep; rw [if_pos z0]), fun hh => by cases hh⟩
  · have f0 : fNum (d, true) = ((fReadVar d).1, (d.drop (fReadVar d).2.toNat, true)) := by
      unfold fNum; rw [if_pos ⟨rfl, by show (fReadVar d).2 > 0; omega⟩]
    simp only [f0]
    by_cases z1 : (fReadVar (d.drop (fReadVar d).2.toNat)).2 = 0
    · have f1 : fNum (d.drop (fReadVar d).2.toNat, true) = (0, (d.drop (fReadVar d).2.toNat, false)) := by simp [fNum, z1]
      simp only [f1]
      exact ⟨fun _ => r_none hI hd (by unfold rStep; rw [if_neg z0, if_pos z1]), fun hh => by cases hh⟩
    · have f1 : fNum (d.drop (fReadVar d).2.toNat, true) = ((fReadVar (d.drop (fReadVar d).2.toNat)).1, ((d.drop (fReadVar d).2.toNat).drop (fReadVar (d.drop (fReadVar d).2.toNat)).2.toNat, true)) := by
        unfold fNum; rw [if_pos ⟨rfl, by show (fReadVar (d.drop (fReadVar d).2.toNat)).2 > 0; omega⟩]
      simp only [f1]
      have nn : ((fReadVar d).1 > fBucket 1099511627776 ∨ (fReadVar (d.drop (fReadVar d).2.toNat)).1 ≥ 2 ∨ (0 < out.length ∧ (out.getD (out.length - 1) (0, 0)).1 ≥ (fReadVar d).1) ∨ 8 ≤ out.length) → rStep d out = none := fun hc => by
        unfold rStep; rw [if_neg z0, if_neg z1, if_pos hc]
      have yy : ¬ ((fReadVar d).1 > fBucket 1099511627776 ∨ (fReadVar (d.drop (fReadVar d).2.toNat)).1 ≥ 2 ∨ (0 < out.length ∧ (out.getD (out.length - 1) (0, 0)).1 ≥ (fReadVar d).1) ∨ 8 ≤ out.length) → rStep d out = some ((d.drop (fReadVar d).2.toNat).drop (fReadVar (d.drop (fReadVar d).2.toNat)).2.toNat, ((fReadVar d).1, (fReadVar (d.drop (fReadVar d).2.toNat)).1)) := fun hc => by
        unfold rStep; rw [if_neg z0, if_neg z1, if_neg hc]
      have hl : ((d.drop (fReadVar d).2.toNat).drop (fReadVar (d.drop (fReadVar d).2.toNat)).2.toNat).length < d.length := by rw [List.length_drop, List.length_drop]; omega
      refine ⟨fun hh => (by cases hh), fun _ => ⟨fun c1 => r_none hI hd (nn (.inl c1)), fun c1 => ⟨fun c2 => r_none hI hd (nn (.inr (.inl c2))), fun c2 => ⟨fun c3 => r_none hI hd (nn (.inr (.inr (.inr (by omega))))), fun c3 => ?_⟩⟩⟩⟩
      have c3' : out.length < 8 := by simp at c3; omega
      refine ⟨fun hp => ⟨by omega, by omega, fun c4 => r_none hI hd (nn (.inr (.inr (.inl ⟨by omega, c4⟩)))), fun c4 => ?_⟩, fun hp => ?_⟩
      · have := r_some hI hd (yy (by omega)) hl c3'
        exact ⟨by simp; omega, by simp; omega, ⟨rfl, this.1⟩, this.2⟩
      · have := r_some hI hd (yy (by omega)) hl c3'
        exact ⟨by simp; omega, by simp; omega, ⟨rfl, this.1⟩, this.2⟩

set_option maxRecDepth 100000 in
theorem impl_Routes.eq (i : El c_impl_Routes.I) (x : El c_impl_Routes.A) : vc tab (gam [(17, c_impl_BucketOf), (73, c_impl_rd_num)] []) (impl_Routes.L x) (match Try.f33.body with | some c => c | none => .skip) 1 (initSt c_impl_Routes Try.f33.ntmps i x) (bodyK tab c_impl_Routes Try.f33.results.toList [41, 4] i x) = impl_Routes.F x := by kernel_rfl
theorem impl_Routes.ok : ConOk Try.prog 33 c_impl_Routes :=
  conOk_of_eq (con := c_impl_Routes) (tab := tab) (Γ := (gam [(17, c_impl_BucketOf), (73, c_impl_rd_num)] [])) (fn := Try.f33) (c := (match Try.f33.body with | some c => c | none => .skip)) (fun i x => impl_Routes.L x) (fun i x => impl_Routes.F x) rfl tabOk (gam_cons ⟨_, Try.func17, rfl, rfl⟩ impl_BucketOf.ok (gam_cons ⟨_, Try.func73, rfl, rfl⟩ impl_rd_num.ok (gam_nil _ []))) Try.func33 rfl [41, 4] (by kernel_rfl) impl_Routes.eq fun i x h hi hw => impl_Routes.pure x h hw

def c_spec_Routes : Con := { io := false, I := .unit, ownI := [], A := .str, shA := [.one], ownA := [], backA := [], B := .unit, R := (.pair (.list (.pair (.int .i64) (.int .i64))) .bool), shR := [(false, 1), (false, 1)], fresh := [(0, 94)], newR := false, pre := fun _ a => (pRoutes a), f := some fun _ a => ((fRoutes a), ((), ())) }
def spec_Routes.F  (a0 : (List UInt8)) : Prop := (([] : List (Nat × Sv)) = [] ∧ ((rI a0 a0 ([] : List (Int × Int))) ∧ ∀ (y1 : ((List UInt8) × (List (Int × Int)))), (rI a0 y1.1 y1.2) → (caseB (decide (((List.length y1.1 : Nat) : Int) > (0 : Int))) ((p7 y1.1 2) ∧ ∀ (r2 : ((List Int) × Int) × (Unit × Unit)), ((r2 : ((List Int) × Int) × (Unit × Unit)) = ((fVars7 y1.1 2), ((), ()))) → (caseB (decide (r2.1.2 < (0 : Int))) (((([], false), ((), ())) : ((List (Int × Int)) × Bool) × (Unit × Unit)) = ((fRoutes a0), ((), ()))) (0 ≤ (0 : Int) ∧ ((0 : Int) < ((List.length r2.1.1 : Nat) : Int) ∧ (True ∧ ∀ (r3 : Int × (Unit × Unit)), ((r3 : Int × (Unit × Unit)) = ((fBucket 1099511627776), ((), ()))) → (caseB (decide ((List.getD r2.1.1 (Int.toNat (0 : Int)) (0 : Int)) > r3.1)) (((([], false), ((), ())) : ((List (Int × Int)) × Bool) × (Unit × Unit)) = ((fRoutes a0), ((), ()))) (0 ≤ (1 : Int) ∧ ((1 : Int) < ((List.length r2.1.1 : Nat) : Int) ∧ (caseB (decide ((List.getD r2.1.1 (Int.toNat (1 : Int)) (0 : Int)) ≥ (2 : Int))) (((([], false), ((), ())) : ((List (Int × Int)) × Bool) × (Unit × Unit)) = ((fRoutes a0), ((), ()))) (caseB (decide (((List.length y1.2 : Nat) : Int) > (0 : Int))) (0 ≤ (IntKind.wrap .i64 (((List.length y1.2 : Nat) : Int) - (1 : Int))) ∧ ((IntKind.wrap .i64 (((List.length y1.2 : Nat) : Int) - (1 : Int))) < ((List.length y1.2 : Nat) : Int) ∧ (0 ≤ (0 : Int) ∧ ((0 : Int) < ((List.length r2.1.1 : Nat) : Int) ∧ (caseB (decide (((List.getD y1.2 (Int.toNat (IntKind.wrap .i64 (((List.length y1.2 : Nat) : Int) - (1 : Int)))) ((0 : Int), (0 : Int))).1) ≥ (List.getD r2.1.1 (Int.toNat (0 : Int)) (0 : Int)))) (((([], false), ((), ())) : ((List (Int × Int)) × Bool) × (Unit × Unit)) = ((fRoutes a0), ((), ()))) (caseB (decide (((List.length y1.2 : Nat) : Int) ≥ (8 : Int))) (((([], false), ((), ())) : ((List (Int × Int)) × Bool) × (Unit × Unit)) = ((fRoutes a0), ((), ()))) (0 ≤ (0 : Int) ∧ ((0 : Int) < ((List.length r2.1.1 : Nat) : Int) ∧ (0 ≤ (1 : Int) ∧ ((1 : Int) < ((List.length r2.1.1 : Nat) : Int) ∧ (List.length y1.2 + List.length [((List.getD r2.1.1 (Int.toNat (0 : Int)) (0 : Int)), (List.getD r2.1.1 (Int.toNat (1 : Int)) (0 : Int)))] ≤ 9223372036854775807 ∧ ((List.length y1.2 + List.length [((List.getD r2.1.1 (Int.toNat (0 : Int)) (0 : Int)), (List.getD r2.1.1 (Int.toNat (1 : Int)) (0 : Int)))]) * 16 ≤ 140737488355328 ∧ (0 ≤ r2.1.2 ∧ (r2.1.2 ≤ ((List.length y1.1 : Nat) : Int) ∧ (([] : List (Nat × Sv)) = [] ∧ (rI a0 (List.drop (Int.toNat r2.1.2) y1.1) (y1.2 ++ [((List.getD r2.1.1 (Int.toNat (0 : Int)) (0 : Int)), (List.getD r2.1.1 (Int.toNat (1 : Int)) (0 : Int)))])) ∧ (rM a0 (List.drop (Int.toNat r2.1.2) y1.1) (y1.2 ++ [((List.getD r2.1.1 (Int.toNat (0 : Int)) (0 : Int)), (List.getD r2.1.1 (Int.toNat (1 : Int)) (0 : Int)))])) < (rM a0 y1.1 y1.2)))))))))))))))) (caseB (decide (((List.length y1.2 : Nat) : Int) ≥ (8 : Int))) (((([], false), ((), ())) : ((List (Int × Int)) × Bool) × (Unit × Unit)) = ((fRoutes a0), ((), ()))) (0 ≤ (0 : Int) ∧ ((0 : Int) < ((List.length r2.1.1 : Nat) : Int) ∧ (0 ≤ (1 : Int) ∧ ((1 : Int) < ((List.length r2.1.1 : Nat) : Int) ∧ (List.length y1.2 + List.length [((List.getD r2.1.1 (Int.toNat (0 : Int)) (0 : Int)), (List.getD r2.1.1 (Int.toNat (1 : Int)) (0 : Int)))] ≤ 9223372036854775807 ∧ ((List.length y1.2 + List.length [((List.getD r2.1.1 (Int.toNat (0 : Int)) (0 : Int)), (List.getD r2.1.1 (Int.toNat (1 : Int)) (0 : Int)))]) * 16 ≤ 140737488355328 ∧ (0 ≤ r2.1.2 ∧ (r2.1.2 ≤ ((List.length y1.1 : Nat) : Int) ∧ (([] : List (Nat × Sv)) = [] ∧ (rI a0 (List.drop (Int.toNat r2.1.2) y1.1) (y1.2 ++ [((List.getD r2.1.1 (Int.toNat (0 : Int)) (0 : Int)), (List.getD r2.1.1 (Int.toNat (1 : Int)) (0 : Int)))])) ∧ (rM a0 (List.drop (Int.toNat r2.1.2) y1.1) (y1.2 ++ [((List.getD r2.1.1 (Int.toNat (0 : Int)) (0 : Int)), (List.getD r2.1.1 (Int.toNat (1 : Int)) (0 : Int)))])) < (rM a0 y1.1 y1.2))))))))))))))))))))) ((((y1.2, true), ((), ())) : ((List (Int × Int)) × Bool) × (Unit × Unit)) = ((fRoutes a0), ((), ()))))))
def spec_Routes.L  (a0 : (List UInt8)) : Nat → Option LoopAnn := fun p => Go.Proofs.Ytcbehcpmojnnfaa.Bv.look p [(28, { kp := { hold := [], slots := [0, 4], boxes := [], rows := [{ bx := false, s := 4, i := 0, k := 1000515, e := 94, hot := true }] }, T := (.pair .str (.list (.pair (.int .i64) (.int .i64)))), I := fun st y => rI a0 y.1 y.2, μ := fun st y => rM a0 y.1 y.2 })]

theorem spec_Routes.pure  (a0 : (List UInt8)) (h : (pRoutes a0)) (hw : Wf c_spec_Routes.A a0) : spec_Routes.F a0 := by
  unfold spec_Routes.F
  have hb : a0.length ≤ 1048576 := h
  simp only [forall_eq, true_and, and_true, caseB_iff, Prod.mk.injEq, decide_eq_true_eq, decide_eq_false_iff_not, Bool.not_eq_true', Bool.not_eq_false', beq_iff_eq]
  refine ⟨⟨Nat.le_refl _, by simp, a0.length, Nat.le_refl _, rfl⟩, ?_⟩
  rintro ⟨d, out⟩ hI
  simp only at hI ⊢
  have h2 := hI.1
  have h3 := hI.2.1
  have e1 : IntKind.wrap .i64 ((out.length : Int) - 1) = (out.length : Int) - 1 := Go.IntWalk.i64_in _ (by omega)
  have e3 : ((out.length : Int) - 1).toNat = out.length - 1 := by omega
  rw [e1, e3]
  refine ⟨fun hd0 => ⟨⟨by omega, by omega, by omega⟩, ?_⟩, fun hd => r_end hI (by omega)⟩
  have hd : ¬ d.length = 0 := by omega
  have b0 := readVar_bound d
  have b1 := readVar_bound (d.drop (fReadVar d).2.toNat)
  by_cases z0 : (fReadVar d).2 = 0
  · simp only [v2a z0]
    exact ⟨fun _ => r_none hI hd (by unfold rStep; rw [if_pos z0]), fun hh => absurd (by decide) hh⟩
  · by_cases z1 : (fReadVar (d.drop (fReadVar d).2.toNat)).2 = 0
    · simp only [v2b z0 z1]
      exact ⟨fun _ => r_none hI hd (by unfold rStep; rw [if_neg z0, if_pos z1]), fun hh => absurd (by decide) hh⟩
    · simp only [v2c z0 z1]
      have nn : ((fReadVar d).1 > fBucket 1099511627776 ∨ (fReadVar (d.drop (fReadVar d).2.toNat)).1 ≥ 2 ∨ (0 < out.length ∧ (out.getD (out.length - 1) (0, 0)).1 ≥ (fReadVar d).1) ∨ 8 ≤ out.length) → rStep d out = none := fun hc => by
        unfold rStep; rw [if_neg z0, if_neg z1, if_pos hc]
      have ed : (d.drop (fReadVar d).2.toNat).drop (fReadVar (d.drop (fReadVar d).2.toNat)).2.toNat = d.drop ((fReadVar d).2 + (fReadVar (d.drop (fReadVar d).2.toNat)).2).toNat := by
        rw [List.drop_drop]; congr 1; omega
      have yy : ¬ ((fReadVar d).1 > fBucket 1099511627776 ∨ (fReadVar (d.drop (fReadVar d).2.toNat)).1 ≥ 2 ∨ (0 < out.length ∧ (out.getD (out.length - 1) (0, 0)).1 ≥ (fReadVar d).1) ∨ 8 ≤ out.length) → rStep d out = some (d.drop ((fReadVar d).2 + (fReadVar (d.drop (fReadVar d).2.toNat)).2).toNat, ((fReadVar d).1, (fReadVar (d.drop (fReadVar d).2.toNat)).1)) := fun hc => by
        unfold rStep; rw [if_neg z0, if_neg z1, if_neg hc, ed]
      have hlen := b1.2.2.2.1
      rw [List.length_drop] at hlen
      have hl : (d.drop ((fReadVar d).2 + (fReadVar (d.drop (fReadVar d).2.toNat)).2).toNat).length < d.length := by rw [List.length_drop]; omega
      have g0 : List.getD [(fReadVar d).1, (fReadVar (d.drop (fReadVar d).2.toNat)).1] (Int.toNat 0) 0 = (fReadVar d).1 := rfl
      have g1 : List.getD [(fReadVar d).1, (fReadVar (d.drop (fReadVar d).2.toNat)).1] (Int.toNat 1) 0 = (fReadVar (d.drop (fReadVar d).2.toNat)).1 := rfl
      simp only [g0, g1]
      refine ⟨fun hh => by omega, fun _ => ⟨by omega, by simp, fun c1 => r_none hI hd (nn (.inl c1)), fun c1 => ⟨by omega, by simp, fun c2 => r_none hI hd (nn (.inr (.inl c2))), fun c2 => ⟨fun hp => ⟨by omega, by omega, by omega, by simp, fun c4 => r_none hI hd (nn (.inr (.inr (.inl ⟨by omega, c4⟩)))), fun c4 => ⟨fun c3 => r_none hI hd (nn (.inr (.inr (.inr (by omega))))), fun c3 => ?_⟩⟩, fun hp => ⟨fun c3 => r_none hI hd (nn (.inr (.inr (.inr (by omega))))), fun c3 => ?_⟩⟩⟩⟩⟩
      · have := r_some hI hd (yy (by omega)) hl (by omega)
        exact ⟨by omega, by simp, by omega, by simp, by simp; omega, by simp; omega, by omega, by omega, this⟩
      · have := r_some hI hd (yy (by omega)) hl (by omega)
        exact ⟨by omega, by simp, by omega, by simp, by simp; omega, by simp; omega, by omega, by omega, this⟩

set_option maxRecDepth 100000 in
theorem spec_Routes.eq (i : El c_spec_Routes.I) (x : El c_spec_Routes.A) : vc tab (gam [(16, c_spec_BucketOf), (74, c_spec_l7Vars)] []) (spec_Routes.L x) (match Try.f32.body with | some c => c | none => .skip) 1 (initSt c_spec_Routes Try.f32.ntmps i x) (bodyK tab c_spec_Routes Try.f32.results.toList [41, 4] i x) = spec_Routes.F x := by kernel_rfl
theorem spec_Routes.ok : ConOk Try.prog 32 c_spec_Routes :=
  conOk_of_eq (con := c_spec_Routes) (tab := tab) (Γ := (gam [(16, c_spec_BucketOf), (74, c_spec_l7Vars)] [])) (fn := Try.f32) (c := (match Try.f32.body with | some c => c | none => .skip)) (fun i x => spec_Routes.L x) (fun i x => spec_Routes.F x) rfl tabOk (gam_cons ⟨_, Try.func16, rfl, rfl⟩ spec_BucketOf.ok (gam_cons ⟨_, Try.func74, rfl, rfl⟩ spec_l7Vars.ok (gam_nil _ []))) Try.func32 rfl [41, 4] (by kernel_rfl) spec_Routes.eq fun i x h hi hw => spec_Routes.pure x h hw

def upPairs (k : Int) (n : Nat) : List Pt := (List.range n).map fun (j : Nat) => (k + 2 * (j : Int), k + 2 * (j : Int) + 1)
theorem upPairs_length (a : Int) (n : Nat) : (upPairs a n).length = n := by simp [upPairs]
theorem upPairs_succ (a : Int) (n : Nat) : upPairs a (n + 1) = upPairs a n ++ [(a + 2 * (n : Int), a + 2 * (n : Int) + 1)] := by simp [upPairs, List.range_succ]
def pMarkB (l : List Pt) (k : Int) : Prop := l.length ≤ 1048576 ∧ 0 ≤ k ∧ k ≤ 1048576
def fMarkB (l : List Pt) (k : Int) : Int × List Pt := (k + 2 * l.length, upPairs k l.length)
def markBI (a : List Pt) (k0 k i : Int) (l : List Pt) : Prop := 0 ≤ i ∧ i ≤ a.length ∧ k = k0 + 2 * i ∧ l = upPairs k0 i.toNat ++ a.drop i.toNat
def markBM (a : List Pt) (k0 k i : Int) (l : List Pt) : Nat := (a.length - i).toNat
theorem set_midP (x y : List Pt) (i : Nat) (v : Pt) (hx : x.length = i) (hi : i < y.length) : List.set (x ++ y.drop i) i v = (x ++ [v]) ++ y.drop (i + 1) := by
  rw [List.drop_eq_getElem_cons hi, List.set_append_right _ _ (by omega), hx, Nat.sub_self, List.set_cons_zero, List.append_assoc]
  rfl
theorem getD_setP {l : List Pt} {i : Nat} {v d : Pt} (h : i < l.length) : List.getD (List.set l i v) i d = v := by
  rw [List.getD_eq_getElem?_getD, List.getElem?_set_self h]; rfl
def fHeldB (l : List Pt) (k : Int) : Int := if l = upPairs k l.length then k + 2 * l.length else -1
def heldBI (a : List Pt) (k0 k i : Int) : Prop := 0 ≤ i ∧ i ≤ a.length ∧ k = k0 + 2 * i ∧ a.take i.toNat = upPairs k0 i.toNat
def heldBM (a : List Pt) (k0 k i : Int) : Nat := (a.length - i).toNat
theorem takeP {a : List Pt} {n : Nat} (h : n < a.length) : a.take (n + 1) = a.take n ++ [a.getD n (0, 0)] := by
  rw [List.take_add_one, List.getElem?_eq_getElem h, List.getD_eq_getElem?_getD, List.getElem?_eq_getElem h]; rfl
theorem heldB_no {l : List Pt} {k : Int} {i : Nat} (h : i < l.length) (hne : l.getD i (0, 0) ≠ (k + 2 * (i : Int), k + 2 * (i : Int) + 1)) : -1 = fHeldB l k := by
  unfold fHeldB
  rw [if_neg]
  intro e
  apply hne
  rw [e, List.getD_eq_getElem?_getD]
  simp only [upPairs, List.getElem?_map]
  rw [List.getElem?_range (by omega)]
  rfl
def c_laws_markBucketS : Con := { io := false, I := .unit, ownI := [], A := (.pair (.list (.pair (.int .i64) (.int .i64))) (.int .i64)), shA := [.one, .one], ownA := [], backA := [(0, 94)], B := (.list (.pair (.int .i64) (.int .i64))), R := (.int .i64), shR := [(false, 1)], fresh := [], newR := false, pre := fun _ a => (pMarkB a.1 a.2), f := some fun _ a => ((fMarkB a.1 a.2).1, ((), (fMarkB a.1 a.2).2)) }
def laws_markBucketS.F  (a0 : (List (Int × Int))) (a1 : Int) : Prop := (([(0, .val false [.own (.pair (.int .i64) (.int .i64)) 2])] : List (Nat × Sv)) = [(0, .val false [.own (.pair (.int .i64) (.int .i64)) 2])] ∧ ((markBI a0 a1 a1 0 a0) ∧ ∀ (y1 : (Int × (Int × (List (Int × Int))))), (markBI a0 a1 y1.1 y1.2.1 y1.2.2) → (caseB (decide (y1.2.1 < ((List.length y1.2.2 : Nat) : Int))) (0 ≤ y1.2.1 ∧ (y1.2.1 < ((List.length y1.2.2 : Nat) : Int) ∧ (0 ≤ y1.2.1 ∧ (y1.2.1 < ((List.length (List.set y1.2.2 (Int.toNat y1.2.1) (y1.1, (List.getD y1.2.2 (Int.toNat y1.2.1) ((0 : Int), (0 : Int))).2)) : Nat) : Int) ∧ (([(0, .val false [.own (.pair (.int .i64) (.int .i64)) 2])] : List (Nat × Sv)) = [(0, .val false [.own (.pair (.int .i64) (.int .i64)) 2])] ∧ (markBI a0 a1 (IntKind.wrap .i64 ((IntKind.wrap .i64 (y1.1 + (1 : Int))) + (1 : Int))) (IntKind.wrap .i64 (y1.2.1 + (1 : Int))) (List.set (List.set y1.2.2 (Int.toNat y1.2.1) (y1.1, (List.getD y1.2.2 (Int.toNat y1.2.1) ((0 : Int), (0 : Int))).2)) (Int.toNat y1.2.1) ((List.getD (List.set y1.2.2 (Int.toNat y1.2.1) (y1.1, (List.getD y1.2.2 (Int.toNat y1.2.1) ((0 : Int), (0 : Int))).2)) (Int.toNat y1.2.1) ((0 : Int), (0 : Int))).1, (IntKind.wrap .i64 (y1.1 + (1 : Int)))))) ∧ (markBM a0 a1 (IntKind.wrap .i64 ((IntKind.wrap .i64 (y1.1 + (1 : Int))) + (1 : Int))) (IntKind.wrap .i64 (y1.2.1 + (1 : Int))) (List.set (List.set y1.2.2 (Int.toNat y1.2.1) (y1.1, (List.getD y1.2.2 (Int.toNat y1.2.1) ((0 : Int), (0 : Int))).2)) (Int.toNat y1.2.1) ((List.getD (List.set y1.2.2 (Int.toNat y1.2.1) (y1.1, (List.getD y1.2.2 (Int.toNat y1.2.1) ((0 : Int), (0 : Int))).2)) (Int.toNat y1.2.1) ((0 : Int), (0 : Int))).1, (IntKind.wrap .i64 (y1.1 + (1 : Int)))))) < (markBM a0 a1 y1.1 y1.2.1 y1.2.2)))))) (((y1.1, ((), y1.2.2)) : Int × (Unit × (List (Int × Int)))) = ((fMarkB a0 a1).1, ((), (fMarkB a0 a1).2))))))
def laws_markBucketS.L  (a0 : (List (Int × Int))) (a1 : Int) : Nat → Option LoopAnn := fun p => Go.Proofs.Ytcbehcpmojnnfaa.Bv.look p [(26, { kp := { hold := [0], slots := [1, 5], boxes := [], rows := [{ bx := false, s := 0, i := 0, k := 2, e := 94, hot := true }] }, T := (.pair (.int .i64) (.pair (.int .i64) (.list (.pair (.int .i64) (.int .i64))))), I := fun st y => markBI a0 a1 y.1 y.2.1 y.2.2, μ := fun st y => markBM a0 a1 y.1 y.2.1 y.2.2 })]

theorem laws_markBucketS.pure  (a0 : (List (Int × Int))) (a1 : Int) (h : (pMarkB a0 a1)) (hw : Wf c_laws_markBucketS.A (a0, a1)) : laws_markBucketS.F a0 a1 := by
  unfold laws_markBucketS.F
  obtain ⟨p1, p2, p3⟩ := h
  simp only [forall_eq, true_and, and_true, caseB_iff, Prod.mk.injEq, decide_eq_true_eq, decide_eq_false_iff_not, Bool.not_eq_true', Bool.not_eq_false']
  refine ⟨⟨by omega, by omega, by omega, by simp [upPairs]⟩, ?_⟩
  rintro ⟨k, i, l⟩ ⟨h1, h2, h3, h4⟩
  simp only at h1 h2 h3 h4 ⊢
  have hl : l.length = a0.length := by rw [h4, List.length_append, upPairs_length, List.length_drop]; omega
  refine ⟨fun hi => ?_, fun hi => ?_⟩
  · have hi' : i.toNat < l.length := by omega
    have e1 : IntKind.wrap .i64 (k + 1) = k + 1 := Go.IntWalk.i64_in _ (by omega)
    have e0 : IntKind.wrap .i64 (k + 1 + 1) = k + 1 + 1 := Go.IntWalk.i64_in _ (by omega)
    have e2 : IntKind.wrap .i64 (i + 1) = i + 1 := Go.IntWalk.i64_in _ (by omega)
    rw [e1, e0, e2, getD_setP hi', List.set_set, List.length_set]
    refine ⟨h1, hi, h1, hi, ⟨by omega, by omega, by omega, ?_⟩, by unfold markBM; omega⟩
    have e3 : (i + 1).toNat = i.toNat + 1 := by omega
    rw [e3, h4, set_midP _ _ _ _ (upPairs_length _ _) (by omega), upPairs_succ]
    have e4 : k = a1 + 2 * (i.toNat : Int) := by omega
    rw [e4]
  · have e : i = a0.length := by omega
    subst e
    refine ⟨by simp [fMarkB, h3], ?_⟩
    rw [h4]
    simp [fMarkB]

set_option maxRecDepth 100000 in
theorem laws_markBucketS.eq (i : El c_laws_markBucketS.I) (x : El c_laws_markBucketS.A) : vc tab (gam [] []) (laws_markBucketS.L x.1 x.2) (match Try.f35.body with | some c => c | none => .skip) 1 (initSt c_laws_markBucketS Try.f35.ntmps i x) (bodyK tab c_laws_markBucketS Try.f35.results.toList [3] i x) = laws_markBucketS.F x.1 x.2 := by kernel_rfl
theorem laws_markBucketS.ok : ConOk Try.prog 35 c_laws_markBucketS :=
  conOk_of_eq (con := c_laws_markBucketS) (tab := tab) (Γ := (gam [] [])) (fn := Try.f35) (c := (match Try.f35.body with | some c => c | none => .skip)) (fun i x => laws_markBucketS.L x.1 x.2) (fun i x => laws_markBucketS.F x.1 x.2) rfl tabOk (gam_nil _ []) Try.func35 rfl [3] (by kernel_rfl) laws_markBucketS.eq fun i x h hi hw => laws_markBucketS.pure x.1 x.2 h hw

def c_laws_heldBucketS : Con := { io := false, I := .unit, ownI := [], A := (.pair (.list (.pair (.int .i64) (.int .i64))) (.int .i64)), shA := [.one, .one], ownA := [], backA := [], B := .unit, R := (.int .i64), shR := [(false, 1)], fresh := [], newR := false, pre := fun _ a => (pMarkB a.1 a.2), f := some fun _ a => ((fHeldB a.1 a.2), ((), ())) }
def laws_heldBucketS.F  (a0 : (List (Int × Int))) (a1 : Int) : Prop := (([(0, .val false [.lst (.pair (.int .i64) (.int .i64)) a0 none])] : List (Nat × Sv)) = [(0, .val false [.lst (.pair (.int .i64) (.int .i64)) a0 none])] ∧ ((heldBI a0 a1 a1 0) ∧ ∀ (y1 : (Int × Int)), (heldBI a0 a1 y1.1 y1.2) → (caseB (decide (y1.2 < ((List.length a0 : Nat) : Int))) (0 ≤ y1.2 ∧ (y1.2 < ((List.length a0 : Nat) : Int) ∧ (caseB (((List.getD a0 (Int.toNat y1.2) ((0 : Int), (0 : Int))).1) != y1.1) ((((-1), ((), ())) : Int × (Unit × Unit)) = ((fHeldB a0 a1), ((), ()))) (0 ≤ y1.2 ∧ (y1.2 < ((List.length a0 : Nat) : Int) ∧ (caseB (((List.getD a0 (Int.toNat y1.2) ((0 : Int), (0 : Int))).2) != (IntKind.wrap .i64 (y1.1 + (1 : Int)))) ((((-1), ((), ())) : Int × (Unit × Unit)) = ((fHeldB a0 a1), ((), ()))) (([(0, .val false [.lst (.pair (.int .i64) (.int .i64)) a0 none])] : List (Nat × Sv)) = [(0, .val false [.lst (.pair (.int .i64) (.int .i64)) a0 none])] ∧ (heldBI a0 a1 (IntKind.wrap .i64 ((IntKind.wrap .i64 (y1.1 + (1 : Int))) + (1 : Int))) (IntKind.wrap .i64 (y1.2 + (1 : Int)))) ∧ (heldBM a0 a1 (IntKind.wrap .i64 ((IntKind.wrap .i64 (y1.1 + (1 : Int))) + (1 : Int))) (IntKind.wrap .i64 (y1.2 + (1 : Int)))) < (heldBM a0 a1 y1.1 y1.2)))))))) (((y1.1, ((), ())) : Int × (Unit × Unit)) = ((fHeldB a0 a1), ((), ()))))))
def laws_heldBucketS.L  (a0 : (List (Int × Int))) (a1 : Int) : Nat → Option LoopAnn := fun p => Go.Proofs.Ytcbehcpmojnnfaa.Bv.look p [(26, { kp := { hold := [0], slots := [1, 5], boxes := [], rows := [] }, T := (.pair (.int .i64) (.int .i64)), I := fun st y => heldBI a0 a1 y.1 y.2, μ := fun st y => heldBM a0 a1 y.1 y.2 })]

theorem laws_heldBucketS.pure  (a0 : (List (Int × Int))) (a1 : Int) (h : (pMarkB a0 a1)) (hw : Wf c_laws_heldBucketS.A (a0, a1)) : laws_heldBucketS.F a0 a1 := by
  unfold laws_heldBucketS.F
  obtain ⟨p1, p2, p3⟩ := h
  simp only [forall_eq, true_and, and_true, caseB_iff, Prod.mk.injEq, decide_eq_true_eq, decide_eq_false_iff_not, Bool.not_eq_true', Bool.not_eq_false']
  refine ⟨⟨by omega, by omega, by omega, by simp [upPairs]⟩, ?_⟩
  rintro ⟨k, i⟩ ⟨h1, h2, h3, h4⟩
  simp only at h1 h2 h3 h4 ⊢
  refine ⟨fun hi => ?_, fun hi => ?_⟩
  · have e1 : IntKind.wrap .i64 (k + 1) = k + 1 := Go.IntWalk.i64_in _ (by omega)
    have e0 : IntKind.wrap .i64 (k + 1 + 1) = k + 1 + 1 := Go.IntWalk.i64_in _ (by omega)
    have e2 : IntKind.wrap .i64 (i + 1) = i + 1 := Go.IntWalk.i64_in _ (by omega)
    have e4 : k = a1 + 2 * (i.toNat : Int) := by omega
    rw [e1, e0, e2]
    refine ⟨h1, hi, fun t1 => ?_, fun t1 => ⟨h1, hi, fun t2 => ?_, fun t2 => ?_⟩⟩
    · exact heldB_no (i := i.toNat) (by omega) (fun e => by rw [e] at t1; simp at t1; omega)
    · exact heldB_no (i := i.toNat) (by omega) (fun e => by rw [e] at t2; simp at t2; omega)
    · have e3 : (i + 1).toNat = i.toNat + 1 := by omega
      refine ⟨⟨by omega, by omega, by omega, ?_⟩, by unfold heldBM; omega⟩
      have g1 : (a0.getD i.toNat (0, 0)).1 = k := by simpa only [bne_eq_false_iff_eq] using t1
      have g2 : (a0.getD i.toNat (0, 0)).2 = k + 1 := by simpa only [bne_eq_false_iff_eq] using t2
      rw [e3, takeP (by omega), h4, upPairs_succ]
      have : a0.getD i.toNat (0, 0) = (k, k + 1) := Prod.ext g1 g2
      rw [this, e4]
  · have e : i = a0.length := by omega
    subst e
    simp only [Int.toNat_natCast, List.take_length] at h4
    unfold fHeldB
    rw [if_pos h4, h3]

set_option maxRecDepth 100000 in
theorem laws_heldBucketS.eq (i : El c_laws_heldBucketS.I) (x : El c_laws_heldBucketS.A) : vc tab (gam [] []) (laws_heldBucketS.L x.1 x.2) (match Try.f36.body with | some c => c | none => .skip) 1 (initSt c_laws_heldBucketS Try.f36.ntmps i x) (bodyK tab c_laws_heldBucketS Try.f36.results.toList [3] i x) = laws_heldBucketS.F x.1 x.2 := by kernel_rfl
theorem laws_heldBucketS.ok : ConOk Try.prog 36 c_laws_heldBucketS :=
  conOk_of_eq (con := c_laws_heldBucketS) (tab := tab) (Γ := (gam [] [])) (fn := Try.f36) (c := (match Try.f36.body with | some c => c | none => .skip)) (fun i x => laws_heldBucketS.L x.1 x.2) (fun i x => laws_heldBucketS.F x.1 x.2) rfl tabOk (gam_nil _ []) Try.func36 rfl [3] (by kernel_rfl) laws_heldBucketS.eq fun i x h hi hw => laws_heldBucketS.pure x.1 x.2 h hw

theorem rGo_len : ∀ (n : Nat) (d : List UInt8) (out : List Pt), out.length ≤ 8 → (rGo n d out).1.length ≤ 8
  | 0, d, out, h => h
  | n + 1, d, out, h => by
    rw [rGo]
    split
    · exact h
    · split
      · simp
      · rename_i p hp
        refine rGo_len n _ _ ?_
        unfold rStep at hp
        split at hp
        · cases hp
        · split at hp
          · cases hp
          · split at hp
            · cases hp
            · rename_i hc
              simp; omega
def laws_FnExactRoutes.F  (a0 : (List UInt8)) : Prop := (caseB (decide (((List.length a0 : Nat) : Int) > (1048576 : Int))) (((true, ((), ())) : Bool × (Unit × Unit)) = (true, ((), ()))) ((pRoutes a0) ∧ ∀ (r1 : ((List (Int × Int)) × Bool) × (Unit × Unit)), ((r1 : ((List (Int × Int)) × Bool) × (Unit × Unit)) = ((fRoutes a0), ((), ()))) → ((pRoutes a0) ∧ ∀ (r2 : ((List (Int × Int)) × Bool) × (Unit × Unit)), ((r2 : ((List (Int × Int)) × Bool) × (Unit × Unit)) = ((fRoutes a0), ((), ()))) → (True ∧ ∀ (r3 : Bool × (Unit × Unit)), ((r3 : Bool × (Unit × Unit)) = ((eqBus r2.1.1 r1.1.1), ((), ()))) → (caseB (!r3.1) (((false, ((), ())) : Bool × (Unit × Unit)) = (true, ((), ()))) (caseB (!(r2.1.2 == r1.1.2)) (((false, ((), ())) : Bool × (Unit × Unit)) = (true, ((), ()))) ((pMarkB r2.1.1 1) ∧ ∀ (r4 : Int × (Unit × (List (Int × Int)))), ((r4 : Int × (Unit × (List (Int × Int)))) = ((fMarkB r2.1.1 1).1, ((), (fMarkB r2.1.1 1).2))) → ((pMarkB r4.2.2 1) ∧ ∀ (r5 : Int × (Unit × Unit)), ((r5 : Int × (Unit × Unit)) = ((fHeldB r4.2.2 1), ((), ()))) → (caseB (decide (r5.1 < (0 : Int))) (((false, ((), ())) : Bool × (Unit × Unit)) = (true, ((), ()))) (caseB (r5.1 != r4.1) (((false, ((), ())) : Bool × (Unit × Unit)) = (true, ((), ()))) ((pRoutes a0) ∧ ∀ (r6 : ((List (Int × Int)) × Bool) × (Unit × Unit)), ((r6 : ((List (Int × Int)) × Bool) × (Unit × Unit)) = ((fRoutes a0), ((), ()))) → (True ∧ ∀ (r7 : Bool × (Unit × Unit)), ((r7 : Bool × (Unit × Unit)) = ((eqBus r6.1.1 r1.1.1), ((), ()))) → (caseB (!r7.1) (((false, ((), ())) : Bool × (Unit × Unit)) = (true, ((), ()))) (caseB (!(r6.1.2 == r1.1.2)) (((false, ((), ())) : Bool × (Unit × Unit)) = (true, ((), ()))) ((pMarkB r4.2.2 1) ∧ ∀ (r8 : Int × (Unit × Unit)), ((r8 : Int × (Unit × Unit)) = ((fHeldB r4.2.2 1), ((), ()))) → (caseB (decide (r8.1 < (0 : Int))) (((false, ((), ())) : Bool × (Unit × Unit)) = (true, ((), ()))) (caseB (r8.1 != r4.1) (((false, ((), ())) : Bool × (Unit × Unit)) = (true, ((), ()))) (((true, ((), ())) : Bool × (Unit × Unit)) = (true, ((), ()))))))))))))))))))))
def laws_FnExactRoutes.L  (a0 : (List UInt8)) : Nat → Option LoopAnn := fun p => Go.Proofs.Ytcbehcpmojnnfaa.Bv.look p []

theorem laws_FnExactRoutes.pure  (a0 : (List UInt8)) (h : WfD .str a0) (hw : Wf (lawCon .str [.one]).A a0) : laws_FnExactRoutes.F a0 := by
  unfold laws_FnExactRoutes.F
  have hlen : (fRoutes a0).1.length ≤ 8 := rGo_len _ _ _ (by simp)
  have hp : pMarkB (fRoutes a0).1 1 := ⟨by omega, by omega, by omega⟩
  have hp2 : pMarkB (upPairs 1 (fRoutes a0).1.length) 1 := ⟨by rw [upPairs_length]; omega, by omega, by omega⟩
  have hf : fHeldB (upPairs 1 (fRoutes a0).1.length) 1 = 1 + 2 * ((fRoutes a0).1.length : Int) := by
    unfold fHeldB
    rw [upPairs_length, if_pos rfl]
  have he : eqBus (fRoutes a0).1 (fRoutes a0).1 = true := by simp [eqBus]
  simp only [forall_eq, true_and, and_true, caseB_iff, fMarkB, he, hf, hp, hp2, decide_eq_true_eq, decide_eq_false_iff_not]
  refine ⟨fun _ => trivial, fun h1 => ?_⟩
  have hr : pRoutes a0 := by unfold pRoutes; omega
  simp [hr]
  omega

set_option maxRecDepth 100000 in
theorem laws_FnExactRoutes.eq (i : El (lawCon .str [.one]).I) (x : El (lawCon .str [.one]).A) : vc tab (gam [(32, c_spec_Routes), (33, c_impl_Routes), (34, c_laws_eqBucketS), (35, c_laws_markBucketS), (36, c_laws_heldBucketS)] []) (laws_FnExactRoutes.L x) (match Try.f8.body with | some c => c | none => .skip) 1 (initSt (lawCon .str [.one]) Try.f8.ntmps i x) (bodyK tab (lawCon .str [.one]) Try.f8.results.toList [4] i x) = laws_FnExactRoutes.F x := by kernel_rfl
theorem laws_FnExactRoutes.ok : ConOk Try.prog 8 (lawCon .str [.one]) :=
  conOk_of_eq (con := (lawCon .str [.one])) (tab := tab) (Γ := (gam [(32, c_spec_Routes), (33, c_impl_Routes), (34, c_laws_eqBucketS), (35, c_laws_markBucketS), (36, c_laws_heldBucketS)] [])) (fn := Try.f8) (c := (match Try.f8.body with | some c => c | none => .skip)) (fun i x => laws_FnExactRoutes.L x) (fun i x => laws_FnExactRoutes.F x) rfl tabOk (gam_cons ⟨_, Try.func32, rfl, rfl⟩ spec_Routes.ok (gam_cons ⟨_, Try.func33, rfl, rfl⟩ impl_Routes.ok (gam_cons ⟨_, Try.func34, rfl, rfl⟩ laws_eqBucketS.ok (gam_cons ⟨_, Try.func35, rfl, rfl⟩ laws_markBucketS.ok (gam_cons ⟨_, Try.func36, rfl, rfl⟩ laws_heldBucketS.ok (gam_nil _ [])))))) Try.func8 rfl [4] (by kernel_rfl) laws_FnExactRoutes.eq fun i x h hi hw => laws_FnExactRoutes.pure x h hw

end Go.Proofs.Ytcbehcpmojnnfaa.B

