/- Values of the program's types: how large, the same, marked. -/
import Derived.Test.YtcbehcpmojnnfaaCCover
namespace Go.Proofs.Ytcbehcpmojnnfaa.B
set_option linter.unusedVariables false
set_option linter.unusedSimpArgs false
open Go Go.Proofs.Ytcbehcpmojnnfaa.Bv

def sumT {α : Type} (n : α → Nat) (l : List α) (i : Nat) : Nat := ((l.take i).map n).sum
theorem sumT_zero {α : Type} (n : α → Nat) (l : List α) : sumT n l 0 = 0 := by simp [sumT]
theorem sumT_succ {α : Type} (n : α → Nat) (l : List α) (d : α) {i : Nat} (h : i < l.length) : sumT n l (i + 1) = sumT n l i + n (l.getD i d) := by
  unfold sumT; rw [take_getD d h, List.map_append, List.sum_append]; simp
theorem sumT_le {α : Type} (n : α → Nat) (l : List α) (i : Nat) : sumT n l i ≤ sumT n l l.length := by
  have h : l.take l.length = l.take i ++ l.drop i := by rw [List.take_length, List.take_append_drop]
  unfold sumT; rw [h, List.map_append, List.sum_append]; omega
def nL {α : Type} (n : α → Nat) (l : List α) : Nat := l.length + sumT n l l.length
theorem sum_mem {α : Type} (n : α → Nat) {x : α} : ∀ {l : List α}, x ∈ l → n x ≤ (l.map n).sum
  | y :: l, h => by
    rw [List.map_cons, List.sum_cons]
    rcases List.mem_cons.1 h with rfl | h
    · omega
    · have := sum_mem n h; omega
theorem nL_mem {α : Type} (n : α → Nat) {l : List α} {x : α} (h : x ∈ l) : n x + 1 ≤ nL n l := by
  have h1 := sum_mem n h
  have h2 : 0 < l.length := List.length_pos_of_mem h
  unfold nL sumT; rw [List.take_length]; omega
def fSz (n : Nat) (left : Int) : Int := if left < n then -1 else left - n
theorem fSz_no {n : Nat} {left : Int} (h : left < n) : fSz n left = -1 := if_pos h
theorem fSz_yes {n : Nat} {left : Int} (h : ¬ left < n) : fSz n left = left - n := if_neg h
def szLI {α : Type} (n : α → Nat) (a : List α) (left0 left i : Int) : Prop := 0 ≤ i ∧ i ≤ a.length ∧ 0 ≤ left ∧ left0 = left + a.length + sumT n a i.toNat
def szLM {α : Type} (a : List α) (left0 left i : Int) : Nat := (a.length - i).toNat
def cpI {α : Type} (d : α) (a : List α) (i : Int) (out : List α) : Prop := 0 ≤ i ∧ i ≤ a.length ∧ out = a.take i.toNat ++ List.replicate (a.length - i.toNat) d
def cpM {α : Type} (a : List α) (i : Int) (out : List α) : Nat := (a.length - i).toNat
theorem cp_len {α : Type} {d : α} {a : List α} {i : Int} {out : List α} (h : cpI d a i out) : out.length = a.length := by
  obtain ⟨h1, h2, h3⟩ := h
  rw [h3, List.length_append, List.length_take, List.length_replicate]; omega
theorem cp_step {α : Type} {d : α} {a : List α} {i : Int} {out : List α} (h : cpI d a i out) (hi : i < a.length) : cpI d a (i + 1) (out.set i.toNat (a.getD i.toNat d)) := by
  obtain ⟨h1, h2, h3⟩ := h
  refine ⟨by omega, by omega, ?_⟩
  rw [tn1 h1, h3, take_getD d (by omega : i.toNat < a.length)]
  have e : a.length - i.toNat = (a.length - (i.toNat + 1)) + 1 := by omega
  have hl : (a.take i.toNat).length = i.toNat := by rw [List.length_take]; omega
  rw [e, List.replicate_succ, List.set_append_right _ _ (by omega), hl, Nat.sub_self, List.set_cons_zero, List.append_assoc]
  rfl
theorem cp_end {α : Type} {d : α} {a : List α} {i : Int} {out : List α} (h : cpI d a i out) (hi : ¬ i < a.length) : out = a := by
  obtain ⟨h1, h2, h3⟩ := h
  have e : i.toNat = a.length := by omega
  rw [h3, e, List.take_length, Nat.sub_self]; simp
def eqLI {α : Type} (a b : List α) (i : Int) : Prop := 0 ≤ i ∧ i ≤ a.length ∧ a.length = b.length ∧ a.take i.toNat = b.take i.toNat
def eqLM {α : Type} (a b : List α) (i : Int) : Nat := (a.length - i).toNat
theorem eqL_step {α : Type} {d : α} {a b : List α} {i : Int} (h : eqLI a b i) (hi : i < a.length) (he : a.getD i.toNat d = b.getD i.toNat d) : eqLI a b (i + 1) := by
  obtain ⟨h1, h2, h3, h4⟩ := h
  refine ⟨by omega, by omega, h3, ?_⟩
  rw [tn1 h1, take_getD d (by omega), take_getD d (by omega), h4, he]
theorem eqL_end {α : Type} {a b : List α} {i : Int} (h : eqLI a b i) (hi : ¬ i < a.length) : a = b := by
  obtain ⟨h1, h2, h3, h4⟩ := h
  have e : i.toNat = a.length := by omega
  rw [e, List.take_length, h3, List.take_length] at h4
  exact h4
/-! Marks: c tells how many, m marks, o looks whether they are there. -/
def cL {α : Type} (c : α → Int) (l : List α) : Int := (l.map c).sum
def mL {α : Type} (c : α → Int) (m : α → Int → α) : List α → Int → List α
  | [], _ => []
  | x :: l, k => m x k :: mL c m l (k + c x)
def oL {α : Type} (c : α → Int) (o : α → Int → Bool) : List α → Int → Bool
  | [], _ => true
  | x :: l, k => o x k && oL c o l (k + c x)
def fHd (c : Int) (o : Bool) (k : Int) : Int := if o = true then k + c else -1
theorem fHd_neg {c k : Int} {o : Bool} (h0 : 0 ≤ c) (h1 : 0 ≤ k) : fHd c o k < 0 ↔ o = false := by
  unfold fHd; cases o <;> simp; omega
theorem fHd_yes {c k : Int} {o : Bool} (h : o = true) : fHd c o k = k + c := if_pos h
theorem cL_nil {α : Type} (c : α → Int) : cL c [] = 0 := rfl
theorem cL_cons {α : Type} (c : α → Int) (x : α) (l : List α) : cL c (x :: l) = c x + cL c l := by simp [cL]
theorem cL_append {α : Type} (c : α → Int) (l r : List α) : cL c (l ++ r) = cL c l + cL c r := by simp [cL]
theorem cL_pos {α : Type} {c : α → Int} (h : ∀ x, 0 ≤ c x) : ∀ l, 0 ≤ cL c l
  | [] => by simp [cL]
  | x :: l => by have := cL_pos h l; have := h x; rw [cL_cons]; omega
theorem cL_split {α : Type} (c : α → Int) (d : α) {l : List α} {i : Nat} (h : i < l.length) : cL c (l.take (i + 1)) = cL c (l.take i) + c (l.getD i d) ∧ cL c l = cL c (l.take i) + (c (l.getD i d) + cL c (l.drop (i + 1))) := by
  constructor
  · rw [take_getD d h, cL_append]; simp [cL]
  · conv => lhs; rw [← List.take_append_drop i l, cL_append, drop_getD d h, cL_cons]
theorem cL_le {α : Type} {c : α → Int} (h : ∀ x, 0 ≤ c x ∧ c x ≤ 64) : ∀ l, cL c l ≤ 64 * l.length
  | [] => by simp [cL]
  | x :: l => by have := cL_le h l; have := h x; rw [cL_cons, List.length_cons]; omega
theorem mL_length {α : Type} (c : α → Int) (m : α → Int → α) : ∀ l k, (mL c m l k).length = l.length
  | [], _ => rfl
  | x :: l, k => by simp [mL, mL_length c m l]
theorem mL_append {α : Type} (c : α → Int) (m : α → Int → α) : ∀ l r k, mL c m (l ++ r) k = mL c m l k ++ mL c m r (k + cL c l)
  | [], r, k => by simp [mL, cL]
  | x :: l, r, k => by simp only [List.cons_append, mL, mL_append c m l r, cL_cons]; rw [Int.add_assoc]
theorem oL_mL {α : Type} {c : α → Int} {m : α → Int → α} {o : α → Int → Bool} (h : ∀ x k, o (m x k) k = true ∧ c (m x k) = c x) : ∀ l k, oL c o (mL c m l k) k = true ∧ cL c (mL c m l k) = cL c l
  | [], k => ⟨rfl, rfl⟩
  | x :: l, k => by
    obtain ⟨h1, h2⟩ := h x k
    obtain ⟨h3, h4⟩ := oL_mL h l (k + c x)
    simp only [mL, oL, cL_cons, h1, h2, h3, h4, Bool.and_self, and_self]
structure mkI {α : Type} (c : α → Int) (m : α → Int → α) (a : List α) (k0 k i : Int) (l : List α) : Prop where
  h1 : 0 ≤ i
  h2 : i ≤ a.length
  h3 : k = k0 + cL c (a.take i.toNat)
  h4 : l = mL c m (a.take i.toNat) k0 ++ a.drop i.toNat
def mkM {α : Type} (a : List α) (k0 k i : Int) (l : List α) : Nat := (a.length - i).toNat
theorem mk_len {α : Type} {c : α → Int} {m : α → Int → α} {a : List α} {k0 k i : Int} {l : List α} (h : mkI c m a k0 k i l) : l.length = a.length := by
  obtain ⟨h1, h2, h3, h4⟩ := h
  rw [h4, List.length_append, mL_length, List.length_take, List.length_drop]; omega
theorem mk_at {α : Type} {c : α → Int} {m : α → Int → α} {a : List α} {k0 k i : Int} {l : List α} {d : α} (h : mkI c m a k0 k i l) (hi : i < a.length) : l.getD i.toNat d = a.getD i.toNat d := by
  obtain ⟨h1, h2, h3, h4⟩ := h
  have hl : (mL c m (a.take i.toNat) k0).length = i.toNat := by rw [mL_length, List.length_take]; omega
  rw [h4, List.getD_eq_getElem?_getD, List.getElem?_append_right (by omega), hl, Nat.sub_self, drop_getD d (by omega)]
  rfl
theorem mk_step {α : Type} {c : α → Int} {m : α → Int → α} {a : List α} {k0 k i : Int} {l : List α} {d x' : α} {k' : Int} (h : mkI c m a k0 k i l) (hi : i < a.length) (hx : x' = m (a.getD i.toNat d) k) (hk : k' = k + c (a.getD i.toNat d)) : mkI c m a k0 k' (i + 1) (l.set i.toNat x') := by
  obtain ⟨h1, h2, h3, h4⟩ := h
  have hi' : i.toNat < a.length := by omega
  have hl : (mL c m (a.take i.toNat) k0).length = i.toNat := by rw [mL_length, List.length_take]; omega
  refine ⟨by omega, by omega, ?_, ?_⟩
  · rw [tn1 h1, (cL_split c d hi').1, hk, h3]; omega
  · rw [tn1 h1, h4, take_getD d hi', mL_append, List.set_append_right _ _ (by omega), hl, Nat.sub_self, drop_getD d hi', List.set_cons_zero, List.append_assoc, hx, h3]
    rfl
theorem mk_end {α : Type} {c : α → Int} {m : α → Int → α} {a : List α} {k0 k i : Int} {l : List α} (h : mkI c m a k0 k i l) (hi : ¬ i < a.length) : k = k0 + cL c a ∧ l = mL c m a k0 := by
  obtain ⟨h1, h2, h3, h4⟩ := h
  have e : i.toNat = a.length := by omega
  rw [e, List.take_length] at h3 h4
  exact ⟨h3, by rw [h4, List.drop_length, List.append_nil]⟩
structure hdI {α : Type} (c : α → Int) (o : α → Int → Bool) (a : List α) (k0 k i : Int) : Prop where
  h1 : 0 ≤ i
  h2 : i ≤ a.length
  h3 : k = k0 + cL c (a.take i.toNat)
  h4 : oL c o a k0 = oL c o (a.drop i.toNat) k
def hdM {α : Type} (a : List α) (k0 k i : Int) : Nat := (a.length - i).toNat
theorem hd_step {α : Type} {c : α → Int} {o : α → Int → Bool} {a : List α} {k0 k i k' : Int} (d : α) (h : hdI c o a k0 k i) (hi : i < a.length) (ho : o (a.getD i.toNat d) k = true) (hk : k' = k + c (a.getD i.toNat d)) : hdI c o a k0 k' (i + 1) := by
  obtain ⟨h1, h2, h3, h4⟩ := h
  have hi' : i.toNat < a.length := by omega
  refine ⟨by omega, by omega, ?_, ?_⟩
  · rw [tn1 h1, (cL_split c d hi').1, hk, h3]; omega
  · rw [tn1 h1, h4, drop_getD d hi']; simp only [oL, ho, Bool.true_and, hk]
theorem hd_no {α : Type} {c : α → Int} {o : α → Int → Bool} {a : List α} {k0 k i : Int} (d : α) (h : hdI c o a k0 k i) (hi : i < a.length) (ho : o (a.getD i.toNat d) k = false) : -1 = fHd (cL c a) (oL c o a k0) k0 := by
  obtain ⟨h1, h2, h3, h4⟩ := h
  rw [h4, drop_getD d (by omega)]
  show -1 = fHd _ (o (a.getD i.toNat d) k && oL c o _ _) _
  rw [ho, Bool.false_and]; rfl
theorem hd_end {α : Type} {c : α → Int} {o : α → Int → Bool} {a : List α} {k0 k i : Int} (h : hdI c o a k0 k i) (hi : ¬ i < a.length) : k = fHd (cL c a) (oL c o a k0) k0 := by
  obtain ⟨h1, h2, h3, h4⟩ := h
  have e : i.toNat = a.length := by omega
  rw [e, List.take_length] at h3
  rw [e, List.drop_length] at h4
  rw [h4]
  show k = fHd (cL c a) true k0
  rw [fHd_yes rfl, h3]
theorem getD_set_self {α : Type} {l : List α} {i : Nat} {v d : α} (h : i < l.length) : List.getD (List.set l i v) i d = v := by
  rw [List.getD_eq_getElem?_getD, List.getElem?_set_self h]; rfl
/-- The text of a mark. -/
def mtGo (n : Nat) (out : List UInt8) : List UInt8 := if n = 0 then out else mtGo (n / 10) (UInt8.ofNat (48 + n % 10) :: out)
termination_by n
decreasing_by omega
def pMT (k : Int) : Prop := k ≤ 4611686018427387904
def fMT (k : Int) : List UInt8 := if k ≤ 0 then [109, 48] else 109 :: mtGo k.toNat []
def mtI (k0 k : Int) (out : List UInt8) : Prop := 0 ≤ k ∧ 0 < k0 ∧ out.length + k ≤ k0 ∧ k0 ≤ 4611686018427387904 ∧ mtGo k.toNat out = mtGo k0.toNat []
def mtM (k0 k : Int) (out : List UInt8) : Nat := k.toNat
def c_1 (x : Int) : Int := 1
def m_Int (x k : Int) : Int := k
def o_Int (x k : Int) : Bool := decide (x = k)
def c_1s (x : List UInt8) : Int := 1
def m_String (x : List UInt8) (k : Int) : List UInt8 := fMT k
def o_String (x : List UInt8) (k : Int) : Bool := decide (x = fMT k)
theorem ok_Int : ∀ (x k : Int), o_Int (m_Int x k) k = true ∧ c_1 (m_Int x k) = c_1 x := fun x k => ⟨by simp [o_Int, m_Int], rfl⟩
theorem ok_String : ∀ (x : List UInt8) (k : Int), o_String (m_String x k) k = true ∧ c_1s (m_String x k) = c_1s x := fun x k => ⟨by simp [o_String, m_String], rfl⟩
theorem pos_Int : ∀ x : Int, 0 ≤ c_1 x := fun x => by simp [c_1]
theorem pos_String : ∀ x : List UInt8, 0 ≤ c_1s x := fun x => by simp [c_1s]
def fEq_IntS (a b : List Int) : Bool := decide (a = b)
def c_laws_eqIntS : Con := { io := false, I := .unit, ownI := [], A := (.pair (.list (.int .i64)) (.list (.int .i64))), shA := [.one, .one], ownA := [], backA := [], B := .unit, R := .bool, shR := [(false, 1)], fresh := [], newR := false, pre := fun _ a => True, f := some fun _ a => ((fEq_IntS a.1 a.2), ((), ())) }
def laws_eqIntS.F  (a0 : (List Int)) (a1 : (List Int)) : Prop := (caseB (((List.length a0 : Nat) : Int) != ((List.length a1 : Nat) : Int)) (((false, ((), ())) : Bool × (Unit × Unit)) = ((fEq_IntS a0 a1), ((), ()))) (([(0, .val false [.lst (.int .i64) a0 none]), (1, .val false [.lst (.int .i64) a1 none])] : List (Nat × Sv)) = [(0, .val false [.lst (.int .i64) a0 none]), (1, .val false [.lst (.int .i64) a1 none])] ∧ ((eqLI a0 a1 0) ∧ ∀ (y1 : Int), (eqLI a0 a1 y1) → (caseB (decide (y1 < ((List.length a0 : Nat) : Int))) (0 ≤ y1 ∧ (y1 < ((List.length a0 : Nat) : Int) ∧ (0 ≤ y1 ∧ (y1 < ((List.length a1 : Nat) : Int) ∧ (caseB ((List.getD a0 (Int.toNat y1) (0 : Int)) != (List.getD a1 (Int.toNat y1) (0 : Int))) (((false, ((), ())) : Bool × (Unit × Unit)) = ((fEq_IntS a0 a1), ((), ()))) (([(0, .val false [.lst (.int .i64) a0 none]), (1, .val false [.lst (.int .i64) a1 none])] : List (Nat × Sv)) = [(0, .val false [.lst (.int .i64) a0 none]), (1, .val false [.lst (.int .i64) a1 none])] ∧ (eqLI a0 a1 (IntKind.wrap .i64 (y1 + (1 : Int)))) ∧ (eqLM a0 a1 (IntKind.wrap .i64 (y1 + (1 : Int)))) < (eqLM a0 a1 y1))))))) (((true, ((), ())) : Bool × (Unit × Unit)) = ((fEq_IntS a0 a1), ((), ())))))))
def laws_eqIntS.L  (a0 : (List Int)) (a1 : (List Int)) : Nat → Option LoopAnn := fun p => Go.Proofs.Ytcbehcpmojnnfaa.Bv.look p [(58, { kp := { hold := [0, 1], slots := [5], boxes := [], rows := [] }, T := (.int .i64), I := fun st y => eqLI a0 a1 y, μ := fun st y => eqLM a0 a1 y })]

theorem laws_eqIntS.pure  (a0 : (List Int)) (a1 : (List Int)) (h : True) (hw : Wf c_laws_eqIntS.A (a0, a1)) : laws_eqIntS.F a0 a1 := by
  unfold laws_eqIntS.F
  have hw1 : a0.length ≤ 9223372036854775807 := hw.1.1
  simp only [forall_eq, true_and, and_true, caseB_iff, Prod.mk.injEq, decide_eq_true_eq, decide_eq_false_iff_not, Bool.not_eq_true', Bool.not_eq_false', bne_iff_ne, ne_eq, beq_iff_eq, Bool.not_true, Bool.not_false, beq_eq_false_iff_ne, bne_eq_false_iff_eq, List.length_append, List.length_cons, List.length_nil, List.append_nil, Nat.zero_add, decide_true, decide_false, eq_self_iff_true]
  refine ⟨fun h1 => ?_, fun h1 => ?_⟩
  · have : a0 ≠ a1 := fun e => by subst e; simp at h1
    simp [fEq_IntS, this]
  have hl : a0.length = a1.length := by omega
  refine ⟨⟨by omega, by omega, hl, by simp⟩, ?_⟩
  rintro i hI
  have h2 := hI.1
  have h3 := hI.2.1
  refine ⟨fun hi => ⟨h2, hi, h2, by omega, fun hne => ?_, fun he => ?_⟩, fun hi => ?_⟩
  · have : a0 ≠ a1 := fun e => by subst e; simp at hne
    simp [fEq_IntS, this]
  · have hg : a0.getD i.toNat (0 : Int) = a1.getD i.toNat (0 : Int) := by simpa using he
    rw [w64 (x := i + 1) (by omega) (by omega)]
    exact ⟨eqL_step hI hi hg, by unfold eqLM; omega⟩
  · have h6 := eqL_end hI hi
    simp [fEq_IntS, h6]

set_option maxRecDepth 100000 in
theorem laws_eqIntS.eq (i : El c_laws_eqIntS.I) (x : El c_laws_eqIntS.A) : vc tab (gam [] []) (laws_eqIntS.L x.1 x.2) (match Try.f26.body with | some c => c | none => .skip) 1 (initSt c_laws_eqIntS Try.f26.ntmps i x) (bodyK tab c_laws_eqIntS Try.f26.results.toList [4] i x) = laws_eqIntS.F x.1 x.2 := by kernel_rfl
theorem laws_eqIntS.ok : ConOk Try.prog 26 c_laws_eqIntS :=
  conOk_of_eq (con := c_laws_eqIntS) (tab := tab) (Γ := (gam [] [])) (fn := Try.f26) (c := (match Try.f26.body with | some c => c | none => .skip)) (fun i x => laws_eqIntS.L x.1 x.2) (fun i x => laws_eqIntS.F x.1 x.2) rfl tabOk (gam_nil _ []) Try.func26 rfl [4] (by kernel_rfl) laws_eqIntS.eq fun i x h hi hw => laws_eqIntS.pure x.1 x.2 h hw

def pMk_IntS (l : List Int) (k : Int) : Prop := 0 ≤ k ∧ k + cL c_1 l ≤ 4611686018427387904
def fMk_IntS (l : List Int) (k : Int) : Int × List Int := (k + cL c_1 l, mL c_1 m_Int l k)
def c_laws_markIntS : Con := { io := false, I := .unit, ownI := [], A := (.pair (.list (.int .i64)) (.int .i64)), shA := [.one, .one], ownA := [], backA := [(0, 3)], B := (.list (.int .i64)), R := (.int .i64), shR := [(false, 1)], fresh := [], newR := false, pre := fun _ a => (pMk_IntS a.1 a.2), f := some fun _ a => ((fMk_IntS a.1 a.2).1, ((), (fMk_IntS a.1 a.2).2)) }
def laws_markIntS.F  (a0 : (List Int)) (a1 : Int) : Prop := (([(0, .val false [.own (.int .i64) 2])] : List (Nat × Sv)) = [(0, .val false [.own (.int .i64) 2])] ∧ ((mkI c_1 m_Int a0 a1 a1 0 a0) ∧ ∀ (y1 : (Int × (Int × (List Int)))), (mkI c_1 m_Int a0 a1 y1.1 y1.2.1 y1.2.2) → (caseB (decide (y1.2.1 < ((List.length y1.2.2 : Nat) : Int))) (0 ≤ y1.2.1 ∧ (y1.2.1 < ((List.length y1.2.2 : Nat) : Int) ∧ (([(0, .val false [.own (.int .i64) 2])] : List (Nat × Sv)) = [(0, .val false [.own (.int .i64) 2])] ∧ (mkI c_1 m_Int a0 a1 (IntKind.wrap .i64 (y1.1 + (1 : Int))) (IntKind.wrap .i64 (y1.2.1 + (1 : Int))) (List.set y1.2.2 (Int.toNat y1.2.1) y1.1)) ∧ (mkM a0 a1 (IntKind.wrap .i64 (y1.1 + (1 : Int))) (IntKind.wrap .i64 (y1.2.1 + (1 : Int))) (List.set y1.2.2 (Int.toNat y1.2.1) y1.1)) < (mkM a0 a1 y1.1 y1.2.1 y1.2.2)))) (((y1.1, ((), y1.2.2)) : Int × (Unit × (List Int))) = ((fMk_IntS a0 a1).1, ((), (fMk_IntS a0 a1).2))))))
def laws_markIntS.L  (a0 : (List Int)) (a1 : Int) : Nat → Option LoopAnn := fun p => Go.Proofs.Ytcbehcpmojnnfaa.Bv.look p [(26, { kp := { hold := [0], slots := [1, 5], boxes := [], rows := [{ bx := false, s := 0, i := 0, k := 2, e := 3, hot := true }] }, T := (.pair (.int .i64) (.pair (.int .i64) (.list (.int .i64)))), I := fun st y => mkI c_1 m_Int a0 a1 y.1 y.2.1 y.2.2, μ := fun st y => mkM a0 a1 y.1 y.2.1 y.2.2 })]

theorem laws_markIntS.pure  (a0 : (List Int)) (a1 : Int) (h : (pMk_IntS a0 a1)) (hw : Wf c_laws_markIntS.A (a0, a1)) : laws_markIntS.F a0 a1 := by
  unfold laws_markIntS.F
  obtain ⟨p1, p2⟩ := h
  have hw1 : a0.length ≤ 9223372036854775807 := hw.1.1
  simp only [forall_eq, true_and, and_true, caseB_iff, Prod.mk.injEq, decide_eq_true_eq, decide_eq_false_iff_not, Bool.not_eq_true', Bool.not_eq_false', bne_iff_ne, ne_eq, beq_iff_eq, Bool.not_true, Bool.not_false, beq_eq_false_iff_ne, bne_eq_false_iff_eq, List.length_append, List.length_cons, List.length_nil, List.append_nil, Nat.zero_add, decide_true, decide_false, eq_self_iff_true]
  refine ⟨⟨by omega, by omega, by simp [cL], by simp [mL]⟩, ?_⟩
  rintro ⟨k, i, l⟩ hI
  simp only at hI ⊢
  have hl := mk_len hI
  have h2 := hI.1
  have h3 := hI.2
  refine ⟨fun hi0 => ?_, fun hi0 => ?_⟩
  · have hi : i < (a0.length : Int) := by omega
    have hi' : i.toNat < l.length := by omega
    have hg := mk_at (d := (0 : Int)) hI hi
    have hs := cL_split c_1 (0 : Int) (l := a0) (i := i.toNat) (by omega)
    have hk := hI.3
    have c1 := cL_pos pos_Int (a0.take i.toNat)
    have c2 := cL_pos pos_Int (a0.drop (i.toNat + 1))
    have c3 := pos_Int (a0.getD i.toNat (0 : Int))
    have hmod : Int.tmod k 3 = k % 3 := Int.tmod_eq_emod_of_nonneg (by omega)
    have hc : c_1 (a0.getD i.toNat (0 : Int)) = c_1 (a0.getD i.toNat (0 : Int)) := rfl
    conv at hc => rhs; unfold c_1
    try simp only [hg, getD_set_self hi', List.set_set, List.length_set]
    try simp (disch := first | omega | simp_all) only [getD_set_self, List.set_set, List.length_set, hg, w64, pMT]
    repeat' (with_reducible (refine And.intro ?_ ?_))
    all_goals (first | omega | exact mk_step (d := (0 : Int)) hI hi (by simp [m_Int, hmod]) (by omega) | (unfold mkM; omega) | skip)
  · obtain ⟨e1, e2⟩ := mk_end hI (by omega)
    exact ⟨e1, e2⟩

set_option maxRecDepth 100000 in
theorem laws_markIntS.eq (i : El c_laws_markIntS.I) (x : El c_laws_markIntS.A) : vc tab (gam [] []) (laws_markIntS.L x.1 x.2) (match Try.f27.body with | some c => c | none => .skip) 1 (initSt c_laws_markIntS Try.f27.ntmps i x) (bodyK tab c_laws_markIntS Try.f27.results.toList [3] i x) = laws_markIntS.F x.1 x.2 := by kernel_rfl
theorem laws_markIntS.ok : ConOk Try.prog 27 c_laws_markIntS :=
  conOk_of_eq (con := c_laws_markIntS) (tab := tab) (Γ := (gam [] [])) (fn := Try.f27) (c := (match Try.f27.body with | some c => c | none => .skip)) (fun i x => laws_markIntS.L x.1 x.2) (fun i x => laws_markIntS.F x.1 x.2) rfl tabOk (gam_nil _ []) Try.func27 rfl [3] (by kernel_rfl) laws_markIntS.eq fun i x h hi hw => laws_markIntS.pure x.1 x.2 h hw

def fHd_IntS (l : List Int) (k : Int) : Int := fHd (cL c_1 l) (oL c_1 o_Int l k) k
def c_laws_heldIntS : Con := { io := false, I := .unit, ownI := [], A := (.pair (.list (.int .i64)) (.int .i64)), shA := [.one, .one], ownA := [], backA := [], B := .unit, R := (.int .i64), shR := [(false, 1)], fresh := [], newR := false, pre := fun _ a => (pMk_IntS a.1 a.2), f := some fun _ a => ((fHd_IntS a.1 a.2), ((), ())) }
def laws_heldIntS.F  (a0 : (List Int)) (a1 : Int) : Prop := (([(0, .val false [.lst (.int .i64) a0 none])] : List (Nat × Sv)) = [(0, .val false [.lst (.int .i64) a0 none])] ∧ ((hdI c_1 o_Int a0 a1 a1 0) ∧ ∀ (y1 : (Int × Int)), (hdI c_1 o_Int a0 a1 y1.1 y1.2) → (caseB (decide (y1.2 < ((List.length a0 : Nat) : Int))) (0 ≤ y1.2 ∧ (y1.2 < ((List.length a0 : Nat) : Int) ∧ (caseB ((List.getD a0 (Int.toNat y1.2) (0 : Int)) != y1.1) ((((-1), ((), ())) : Int × (Unit × Unit)) = ((fHd_IntS a0 a1), ((), ()))) (([(0, .val false [.lst (.int .i64) a0 none])] : List (Nat × Sv)) = [(0, .val false [.lst (.int .i64) a0 none])] ∧ (hdI c_1 o_Int a0 a1 (IntKind.wrap .i64 (y1.1 + (1 : Int))) (IntKind.wrap .i64 (y1.2 + (1 : Int)))) ∧ (hdM a0 a1 (IntKind.wrap .i64 (y1.1 + (1 : Int))) (IntKind.wrap .i64 (y1.2 + (1 : Int)))) < (hdM a0 a1 y1.1 y1.2))))) (((y1.1, ((), ())) : Int × (Unit × Unit)) = ((fHd_IntS a0 a1), ((), ()))))))
def laws_heldIntS.L  (a0 : (List Int)) (a1 : Int) : Nat → Option LoopAnn := fun p => Go.Proofs.Ytcbehcpmojnnfaa.Bv.look p [(26, { kp := { hold := [0], slots := [1, 5], boxes := [], rows := [] }, T := (.pair (.int .i64) (.int .i64)), I := fun st y => hdI c_1 o_Int a0 a1 y.1 y.2, μ := fun st y => hdM a0 a1 y.1 y.2 })]

theorem laws_heldIntS.pure  (a0 : (List Int)) (a1 : Int) (h : (pMk_IntS a0 a1)) (hw : Wf c_laws_heldIntS.A (a0, a1)) : laws_heldIntS.F a0 a1 := by
  unfold laws_heldIntS.F
  obtain ⟨p1, p2⟩ := h
  have hw1 : a0.length ≤ 9223372036854775807 := hw.1.1
  simp only [forall_eq, true_and, and_true, caseB_iff, Prod.mk.injEq, decide_eq_true_eq, decide_eq_false_iff_not, Bool.not_eq_true', Bool.not_eq_false', bne_iff_ne, ne_eq, beq_iff_eq, Bool.not_true, Bool.not_false, beq_eq_false_iff_ne, bne_eq_false_iff_eq, List.length_append, List.length_cons, List.length_nil, List.append_nil, Nat.zero_add, decide_true, decide_false, eq_self_iff_true]
  refine ⟨⟨by omega, by omega, by simp [cL], by simp⟩, ?_⟩
  rintro ⟨k, i⟩ hI
  simp only at hI ⊢
  have h2 := hI.1
  have h3 := hI.2
  refine ⟨fun hi => ?_, fun hi => hd_end hI hi⟩
  · have hs := cL_split c_1 (0 : Int) (l := a0) (i := i.toNat) (by omega)
    have hk := hI.3
    have c1 := cL_pos pos_Int (a0.take i.toNat)
    have c2 := cL_pos pos_Int (a0.drop (i.toNat + 1))
    have c3 := pos_Int (a0.getD i.toNat (0 : Int))
    have hmod : Int.tmod k 3 = k % 3 := Int.tmod_eq_emod_of_nonneg (by omega)
    have no : o_Int (a0.getD i.toNat (0 : Int)) k = false → -1 = fHd_IntS a0 a1 := fun ho => hd_no (0 : Int) hI hi ho
    have yes : o_Int (a0.getD i.toNat (0 : Int)) k = true → hdI c_1 o_Int a0 a1 (k + c_1 (a0.getD i.toNat (0 : Int))) (i + 1) := fun ho => hd_step (0 : Int) hI hi ho rfl
    generalize a0.getD i.toNat (0 : Int) = x at *
    have hc : c_1 x = c_1 x := rfl
    conv at hc => rhs; unfold c_1
    simp only [o_Int] at no yes
    simp (disch := omega) only [w64, pMT]
    repeat' (with_reducible (first | (refine And.intro ?_ ?_) | intro _))
    all_goals (first | omega | (unfold hdM; omega) | skip)
    all_goals (try simp (disch := first | omega | assumption) only [fHd_neg, fHd_yes, w64, Bool.not_eq_false] at *)
    all_goals (try simp (disch := first | omega | assumption) only [fHd_neg, fHd_yes, w64, Bool.not_eq_false] at *)
    all_goals (first | omega | grind)

set_option maxRecDepth 100000 in
theorem laws_heldIntS.eq (i : El c_laws_heldIntS.I) (x : El c_laws_heldIntS.A) : vc tab (gam [] []) (laws_heldIntS.L x.1 x.2) (match Try.f28.body with | some c => c | none => .skip) 1 (initSt c_laws_heldIntS Try.f28.ntmps i x) (bodyK tab c_laws_heldIntS Try.f28.results.toList [3] i x) = laws_heldIntS.F x.1 x.2 := by kernel_rfl
theorem laws_heldIntS.ok : ConOk Try.prog 28 c_laws_heldIntS :=
  conOk_of_eq (con := c_laws_heldIntS) (tab := tab) (Γ := (gam [] [])) (fn := Try.f28) (c := (match Try.f28.body with | some c => c | none => .skip)) (fun i x => laws_heldIntS.L x.1 x.2) (fun i x => laws_heldIntS.F x.1 x.2) rfl tabOk (gam_nil _ []) Try.func28 rfl [3] (by kernel_rfl) laws_heldIntS.eq fun i x h hi hw => laws_heldIntS.pure x.1 x.2 h hw

def n_Point (x : (Int × Int)) : Nat := 0
def pSz_PointS (x : List (Int × Int)) (left : Int) : Prop := WfD (.list (.pair (.int .i64) (.int .i64))) x ∧ 0 ≤ left ∧ left ≤ 1048576
def fSz_PointS (x : List (Int × Int)) (left : Int) : Int := fSz (List.length x) left
def c_laws_szPointS : Con := { io := false, I := .unit, ownI := [], A := (.pair (.list (.pair (.int .i64) (.int .i64))) (.int .i64)), shA := [.one, .one], ownA := [], backA := [], B := .unit, R := (.int .i64), shR := [(false, 1)], fresh := [], newR := false, pre := fun _ a => (pSz_PointS a.1 a.2), f := some fun _ a => ((fSz_PointS a.1 a.2), ((), ())) }
def laws_szPointS.F  (a0 : (List (Int × Int))) (a1 : Int) : Prop := (caseB (decide ((IntKind.wrap .i64 (a1 - ((List.length a0 : Nat) : Int))) < (0 : Int))) ((((-1), ((), ())) : Int × (Unit × Unit)) = ((fSz_PointS a0 a1), ((), ()))) ((((IntKind.wrap .i64 (a1 - ((List.length a0 : Nat) : Int))), ((), ())) : Int × (Unit × Unit)) = ((fSz_PointS a0 a1), ((), ()))))
def laws_szPointS.L  (a0 : (List (Int × Int))) (a1 : Int) : Nat → Option LoopAnn := fun p => Go.Proofs.Ytcbehcpmojnnfaa.Bv.look p []

theorem laws_szPointS.pure  (a0 : (List (Int × Int))) (a1 : Int) (h : (pSz_PointS a0 a1)) (hw : Wf c_laws_szPointS.A (a0, a1)) : laws_szPointS.F a0 a1 := by
  unfold laws_szPointS.F
  obtain ⟨hwf, p1, p2⟩ := h
  have hw1 : a0.length ≤ 9223372036854775807 := hwf.1
  simp only [forall_eq, true_and, and_true, caseB_iff, Prod.mk.injEq, decide_eq_true_eq, decide_eq_false_iff_not, Bool.not_eq_true', Bool.not_eq_false', bne_iff_ne, ne_eq, beq_iff_eq, Bool.not_true, Bool.not_false, beq_eq_false_iff_ne, bne_eq_false_iff_eq, List.length_append, List.length_cons, List.length_nil, List.append_nil, Nat.zero_add, decide_true, decide_false, eq_self_iff_true, fSz_PointS]
  rw [w64 (x := a1 - (a0.length : Int)) (by omega) (by omega)]
  exact ⟨fun h1 => (fSz_no (by omega)).symm, fun h1 => (fSz_yes (by omega)).symm⟩

set_option maxRecDepth 100000 in
theorem laws_szPointS.eq (i : El c_laws_szPointS.I) (x : El c_laws_szPointS.A) : vc tab (gam [] []) (laws_szPointS.L x.1 x.2) (match Try.f51.body with | some c => c | none => .skip) 1 (initSt c_laws_szPointS Try.f51.ntmps i x) (bodyK tab c_laws_szPointS Try.f51.results.toList [3] i x) = laws_szPointS.F x.1 x.2 := by kernel_rfl
theorem laws_szPointS.ok : ConOk Try.prog 51 c_laws_szPointS :=
  conOk_of_eq (con := c_laws_szPointS) (tab := tab) (Γ := (gam [] [])) (fn := Try.f51) (c := (match Try.f51.body with | some c => c | none => .skip)) (fun i x => laws_szPointS.L x.1 x.2) (fun i x => laws_szPointS.F x.1 x.2) rfl tabOk (gam_nil _ []) Try.func51 rfl [3] (by kernel_rfl) laws_szPointS.eq fun i x h hi hw => laws_szPointS.pure x.1 x.2 h hw

def pTo_Point (x : (Int × Int)) : Prop := n_Point x ≤ 1048576
def fTo_Point (x : (Int × Int)) : (Int × Int) := x
def c_laws_toPoint : Con := { io := false, I := .unit, ownI := [], A := (.pair (.int .i64) (.int .i64)), shA := [.agg 2], ownA := [], backA := [], B := .unit, R := (.pair (.int .i64) (.int .i64)), shR := [(true, 2)], fresh := [], newR := false, pre := fun _ a => (pTo_Point a), f := some fun _ a => ((fTo_Point a), ((), ())) }
def laws_toPoint.F  (a0 : (Int × Int)) : Prop := ((((a0.1, a0.2), ((), ())) : (Int × Int) × (Unit × Unit)) = ((fTo_Point a0), ((), ())))
def laws_toPoint.L  (a0 : (Int × Int)) : Nat → Option LoopAnn := fun p => Go.Proofs.Ytcbehcpmojnnfaa.Bv.look p []

theorem laws_toPoint.pure  (a0 : (Int × Int)) (h : (pTo_Point a0)) (hw : Wf c_laws_toPoint.A a0) : laws_toPoint.F a0 := by
  unfold laws_toPoint.F
  have hp : n_Point a0 ≤ 1048576 := h
  simp only [n_Point] at hp
  simp only [forall_eq, true_and, and_true, caseB_iff, Prod.mk.injEq, decide_eq_true_eq, decide_eq_false_iff_not, Bool.not_eq_true', Bool.not_eq_false', bne_iff_ne, ne_eq, beq_iff_eq, Bool.not_true, Bool.not_false, beq_eq_false_iff_ne, bne_eq_false_iff_eq, List.length_append, List.length_cons, List.length_nil, List.append_nil, Nat.zero_add, decide_true, decide_false, eq_self_iff_true, n_Point, fTo_Point, pTo_Point]
  repeat' (with_reducible (first | (refine And.intro ?_ ?_) | intro _))
  all_goals (try simp (disch := omega) only [w64, wu8, tn0, tn1, tm1, tm2, List.length_append, List.length_cons, List.length_nil] at *)
  all_goals (try omega)
  all_goals (try grind [])

set_option maxRecDepth 100000 in
theorem laws_toPoint.eq (i : El c_laws_toPoint.I) (x : El c_laws_toPoint.A) : vc tab (gam [] []) (laws_toPoint.L x) (match Try.f89.body with | some c => c | none => .skip) 1 (initSt c_laws_toPoint Try.f89.ntmps i x) (bodyK tab c_laws_toPoint Try.f89.results.toList [56] i x) = laws_toPoint.F x := by kernel_rfl
theorem laws_toPoint.ok : ConOk Try.prog 89 c_laws_toPoint :=
  conOk_of_eq (con := c_laws_toPoint) (tab := tab) (Γ := (gam [] [])) (fn := Try.f89) (c := (match Try.f89.body with | some c => c | none => .skip)) (fun i x => laws_toPoint.L x) (fun i x => laws_toPoint.F x) rfl tabOk (gam_nil _ []) Try.func89 rfl [56] (by kernel_rfl) laws_toPoint.eq fun i x h hi hw => laws_toPoint.pure x h hw

def pTo_PointS (x : List (Int × Int)) : Prop := List.length x ≤ 1048576
def fTo_PointS (x : List (Int × Int)) : List (Int × Int) := x
def c_laws_toPointS : Con := { io := false, I := .unit, ownI := [], A := (.list (.pair (.int .i64) (.int .i64))), shA := [.one], ownA := [], backA := [], B := .unit, R := (.list (.pair (.int .i64) (.int .i64))), shR := [(false, 1)], fresh := [(0, 56)], newR := false, pre := fun _ a => (pTo_PointS a), f := some fun _ a => ((fTo_PointS a), ((), ())) }
def laws_toPointS.F  (a0 : (List (Int × Int))) : Prop := (0 ≤ ((List.length a0 : Nat) : Int) ∧ (((List.length a0 : Nat) : Int) ≤ ((List.length a0 : Nat) : Int) ∧ (((List.length a0 : Nat) : Int) ≤ 9223372036854775807 ∧ (((16 : Nat) : Int) * ((List.length a0 : Nat) : Int) ≤ 140737488355328 ∧ (([(0, .val false [.lst (.pair (.int .i64) (.int .i64)) a0 none]), (3, .val false [.own (.pair (.int .i64) (.int .i64)) 1000387])] : List (Nat × Sv)) = [(0, .val false [.lst (.pair (.int .i64) (.int .i64)) a0 none]), (3, .val false [.own (.pair (.int .i64) (.int .i64)) 1000387])] ∧ ((cpI ((0 : Int), (0 : Int)) a0 0 (List.replicate (Int.toNat ((List.length a0 : Nat) : Int)) ((0 : Int), (0 : Int)))) ∧ ∀ (y1 : (Int × (List (Int × Int)))), (cpI ((0 : Int), (0 : Int)) a0 y1.1 y1.2) → (caseB (decide (y1.1 < ((List.length a0 : Nat) : Int))) (0 ≤ y1.1 ∧ (y1.1 < ((List.length a0 : Nat) : Int) ∧ ((pTo_Point ((List.getD a0 (Int.toNat y1.1) ((0 : Int), (0 : Int))).1, (List.getD a0 (Int.toNat y1.1) ((0 : Int), (0 : Int))).2)) ∧ ∀ (r2 : (Int × Int) × (Unit × Unit)), ((r2 : (Int × Int) × (Unit × Unit)) = ((fTo_Point ((List.getD a0 (Int.toNat y1.1) ((0 : Int), (0 : Int))).1, (List.getD a0 (Int.toNat y1.1) ((0 : Int), (0 : Int))).2)), ((), ()))) → (0 ≤ y1.1 ∧ (y1.1 < ((List.length y1.2 : Nat) : Int) ∧ (([(0, .val false [.lst (.pair (.int .i64) (.int .i64)) a0 none]), (3, .val false [.own (.pair (.int .i64) (.int .i64)) 1000387])] : List (Nat × Sv)) = [(0, .val false [.lst (.pair (.int .i64) (.int .i64)) a0 none]), (3, .val false [.own (.pair (.int .i64) (.int .i64)) 1000387])] ∧ (cpI ((0 : Int), (0 : Int)) a0 (IntKind.wrap .i64 (y1.1 + (1 : Int))) (List.set y1.2 (Int.toNat y1.1) (r2.1.1, r2.1.2))) ∧ (cpM a0 (IntKind.wrap .i64 (y1.1 + (1 : Int))) (List.set y1.2 (Int.toNat y1.1) (r2.1.1, r2.1.2))) < (cpM a0 y1.1 y1.2))))))) (((y1.2, ((), ())) : (List (Int × Int)) × (Unit × Unit)) = ((fTo_PointS a0), ((), ()))))))))))
def laws_toPointS.L  (a0 : (List (Int × Int))) : Nat → Option LoopAnn := fun p => Go.Proofs.Ytcbehcpmojnnfaa.Bv.look p [(58, { kp := { hold := [0, 3], slots := [4], boxes := [], rows := [{ bx := false, s := 3, i := 0, k := 1000387, e := 56, hot := true }] }, T := (.pair (.int .i64) (.list (.pair (.int .i64) (.int .i64)))), I := fun st y => cpI ((0 : Int), (0 : Int)) a0 y.1 y.2, μ := fun st y => cpM a0 y.1 y.2 })]

theorem laws_toPointS.pure  (a0 : (List (Int × Int))) (h : (pTo_PointS a0)) (hw : Wf c_laws_toPointS.A a0) : laws_toPointS.F a0 := by
  unfold laws_toPointS.F
  have hb : a0.length ≤ 1048576 := by have h1 : List.length a0 ≤ 1048576 := h; exact h1
  simp only [forall_eq, true_and, and_true, caseB_iff, Prod.mk.injEq, decide_eq_true_eq, decide_eq_false_iff_not, Bool.not_eq_true', Bool.not_eq_false', bne_iff_ne, ne_eq, beq_iff_eq, Bool.not_true, Bool.not_false, beq_eq_false_iff_ne, bne_eq_false_iff_eq, List.length_append, List.length_cons, List.length_nil, List.append_nil, Nat.zero_add, decide_true, decide_false, eq_self_iff_true, fTo_PointS]
  refine ⟨by omega, by omega, by omega, by omega, ⟨by omega, by omega, by simp⟩, ?_⟩
  rintro ⟨i, out⟩ hI
  simp only at hI ⊢
  refine ⟨fun hi => ?_, fun hi => cp_end hI hi⟩
  have hl := cp_len hI
  have h3 := hI.2.1
  have h2 := hI.1
  have hp : pTo_Point (a0.getD i.toNat ((0 : Int), (0 : Int))) := by
    have h1 : List.length a0 ≤ 1048576 := h
    have hm : a0.getD i.toNat ((0 : Int), (0 : Int)) ∈ a0 := getD_mem (by omega)
    show n_Point _ ≤ 1048576
    simp [n_Point]
  rw [w64 (x := i + 1) (by omega) (by omega)]
  simp only [fTo_Point, hl]
  exact ⟨h2, hi, hp, h2, hi, cp_step hI hi, by unfold cpM; omega⟩

set_option maxRecDepth 100000 in
theorem laws_toPointS.eq (i : El c_laws_toPointS.I) (x : El c_laws_toPointS.A) : vc tab (gam [(89, c_laws_toPoint)] []) (laws_toPointS.L x) (match Try.f53.body with | some c => c | none => .skip) 1 (initSt c_laws_toPointS Try.f53.ntmps i x) (bodyK tab c_laws_toPointS Try.f53.results.toList [48] i x) = laws_toPointS.F x := by kernel_rfl
theorem laws_toPointS.ok : ConOk Try.prog 53 c_laws_toPointS :=
  conOk_of_eq (con := c_laws_toPointS) (tab := tab) (Γ := (gam [(89, c_laws_toPoint)] [])) (fn := Try.f53) (c := (match Try.f53.body with | some c => c | none => .skip)) (fun i x => laws_toPointS.L x) (fun i x => laws_toPointS.F x) rfl tabOk (gam_cons ⟨_, Try.func89, rfl, rfl⟩ laws_toPoint.ok (gam_nil _ [])) Try.func53 rfl [48] (by kernel_rfl) laws_toPointS.eq fun i x h hi hw => laws_toPointS.pure x h hw

def fEq_Point (a b : (Int × Int)) : Bool := decide (a = b)
def c_laws_eqPoint : Con := { io := false, I := .unit, ownI := [], A := (.pair (.pair (.int .i64) (.int .i64)) (.pair (.int .i64) (.int .i64))), shA := [.agg 2, .agg 2], ownA := [], backA := [], B := .unit, R := .bool, shR := [(false, 1)], fresh := [], newR := false, pre := fun _ a => True, f := some fun _ a => ((fEq_Point a.1 a.2), ((), ())) }
def laws_eqPoint.F  (a0 : (Int × Int)) (a1 : (Int × Int)) : Prop := (caseB (a0.1 != a1.1) (((false, ((), ())) : Bool × (Unit × Unit)) = ((fEq_Point a0 a1), ((), ()))) (caseB (a0.2 != a1.2) (((false, ((), ())) : Bool × (Unit × Unit)) = ((fEq_Point a0 a1), ((), ()))) (((true, ((), ())) : Bool × (Unit × Unit)) = ((fEq_Point a0 a1), ((), ())))))
def laws_eqPoint.L  (a0 : (Int × Int)) (a1 : (Int × Int)) : Nat → Option LoopAnn := fun p => Go.Proofs.Ytcbehcpmojnnfaa.Bv.look p []

theorem laws_eqPoint.pure  (a0 : (Int × Int)) (a1 : (Int × Int)) (h : True) (hw : Wf c_laws_eqPoint.A (a0, a1)) : laws_eqPoint.F a0 a1 := by
  unfold laws_eqPoint.F
  obtain ⟨x0, x1⟩ := a0
  obtain ⟨y0, y1⟩ := a1
  simp only [forall_eq, true_and, and_true, caseB_iff, Prod.mk.injEq, decide_eq_true_eq, decide_eq_false_iff_not, Bool.not_eq_true', Bool.not_eq_false', bne_iff_ne, ne_eq, beq_iff_eq, Bool.not_true, Bool.not_false, beq_eq_false_iff_ne, bne_eq_false_iff_eq, List.length_append, List.length_cons, List.length_nil, List.append_nil, Nat.zero_add, decide_true, decide_false, eq_self_iff_true, fEq_Point]
  repeat' (first | (refine And.intro ?_ ?_) | intro _)
  all_goals simp_all

set_option maxRecDepth 100000 in
theorem laws_eqPoint.eq (i : El c_laws_eqPoint.I) (x : El c_laws_eqPoint.A) : vc tab (gam [] []) (laws_eqPoint.L x.1 x.2) (match Try.f91.body with | some c => c | none => .skip) 1 (initSt c_laws_eqPoint Try.f91.ntmps i x) (bodyK tab c_laws_eqPoint Try.f91.results.toList [4] i x) = laws_eqPoint.F x.1 x.2 := by kernel_rfl
theorem laws_eqPoint.ok : ConOk Try.prog 91 c_laws_eqPoint :=
  conOk_of_eq (con := c_laws_eqPoint) (tab := tab) (Γ := (gam [] [])) (fn := Try.f91) (c := (match Try.f91.body with | some c => c | none => .skip)) (fun i x => laws_eqPoint.L x.1 x.2) (fun i x => laws_eqPoint.F x.1 x.2) rfl tabOk (gam_nil _ []) Try.func91 rfl [4] (by kernel_rfl) laws_eqPoint.eq fun i x h hi hw => laws_eqPoint.pure x.1 x.2 h hw

def fEq_PointS (a b : List (Int × Int)) : Bool := decide (a = b)
def c_laws_eqPointS : Con := { io := false, I := .unit, ownI := [], A := (.pair (.list (.pair (.int .i64) (.int .i64))) (.list (.pair (.int .i64) (.int .i64)))), shA := [.one, .one], ownA := [], backA := [], B := .unit, R := .bool, shR := [(false, 1)], fresh := [], newR := false, pre := fun _ a => True, f := some fun _ a => ((fEq_PointS a.1 a.2), ((), ())) }
def laws_eqPointS.F  (a0 : (List (Int × Int))) (a1 : (List (Int × Int))) : Prop := (caseB (((List.length a0 : Nat) : Int) != ((List.length a1 : Nat) : Int)) (((false, ((), ())) : Bool × (Unit × Unit)) = ((fEq_PointS a0 a1), ((), ()))) (([(0, .val false [.lst (.pair (.int .i64) (.int .i64)) a0 none]), (1, .val false [.lst (.pair (.int .i64) (.int .i64)) a1 none])] : List (Nat × Sv)) = [(0, .val false [.lst (.pair (.int .i64) (.int .i64)) a0 none]), (1, .val false [.lst (.pair (.int .i64) (.int .i64)) a1 none])] ∧ ((eqLI a0 a1 0) ∧ ∀ (y1 : Int), (eqLI a0 a1 y1) → (caseB (decide (y1 < ((List.length a0 : Nat) : Int))) (0 ≤ y1 ∧ (y1 < ((List.length a0 : Nat) : Int) ∧ (0 ≤ y1 ∧ (y1 < ((List.length a1 : Nat) : Int) ∧ (True ∧ ∀ (r2 : Bool × (Unit × Unit)), ((r2 : Bool × (Unit × Unit)) = ((fEq_Point ((List.getD a0 (Int.toNat y1) ((0 : Int), (0 : Int))).1, (List.getD a0 (Int.toNat y1) ((0 : Int), (0 : Int))).2) ((List.getD a1 (Int.toNat y1) ((0 : Int), (0 : Int))).1, (List.getD a1 (Int.toNat y1) ((0 : Int), (0 : Int))).2)), ((), ()))) → (caseB (!r2.1) (((false, ((), ())) : Bool × (Unit × Unit)) = ((fEq_PointS a0 a1), ((), ()))) (([(0, .val false [.lst (.pair (.int .i64) (.int .i64)) a0 none]), (1, .val false [.lst (.pair (.int .i64) (.int .i64)) a1 none])] : List (Nat × Sv)) = [(0, .val false [.lst (.pair (.int .i64) (.int .i64)) a0 none]), (1, .val false [.lst (.pair (.int .i64) (.int .i64)) a1 none])] ∧ (eqLI a0 a1 (IntKind.wrap .i64 (y1 + (1 : Int)))) ∧ (eqLM a0 a1 (IntKind.wrap .i64 (y1 + (1 : Int)))) < (eqLM a0 a1 y1)))))))) (((true, ((), ())) : Bool × (Unit × Unit)) = ((fEq_PointS a0 a1), ((), ())))))))
def laws_eqPointS.L  (a0 : (List (Int × Int))) (a1 : (List (Int × Int))) : Nat → Option LoopAnn := fun p => Go.Proofs.Ytcbehcpmojnnfaa.Bv.look p [(58, { kp := { hold := [0, 1], slots := [5], boxes := [], rows := [] }, T := (.int .i64), I := fun st y => eqLI a0 a1 y, μ := fun st y => eqLM a0 a1 y })]

theorem laws_eqPointS.pure  (a0 : (List (Int × Int))) (a1 : (List (Int × Int))) (h : True) (hw : Wf c_laws_eqPointS.A (a0, a1)) : laws_eqPointS.F a0 a1 := by
  unfold laws_eqPointS.F
  have hw1 : a0.length ≤ 9223372036854775807 := hw.1.1
  simp only [forall_eq, true_and, and_true, caseB_iff, Prod.mk.injEq, decide_eq_true_eq, decide_eq_false_iff_not, Bool.not_eq_true', Bool.not_eq_false', bne_iff_ne, ne_eq, beq_iff_eq, Bool.not_true, Bool.not_false, beq_eq_false_iff_ne, bne_eq_false_iff_eq, List.length_append, List.length_cons, List.length_nil, List.append_nil, Nat.zero_add, decide_true, decide_false, eq_self_iff_true]
  refine ⟨fun h1 => ?_, fun h1 => ?_⟩
  · have : a0 ≠ a1 := fun e => by subst e; simp at h1
    simp [fEq_PointS, this]
  have hl : a0.length = a1.length := by omega
  refine ⟨⟨by omega, by omega, hl, by simp⟩, ?_⟩
  rintro i hI
  have h2 := hI.1
  have h3 := hI.2.1
  refine ⟨fun hi => ⟨h2, hi, h2, by omega, fun hne => ?_, fun he => ?_⟩, fun hi => ?_⟩
  · have : a0 ≠ a1 := fun e => by subst e; simp [fEq_Point] at hne
    simp [fEq_PointS, this]
  · have hg : a0.getD i.toNat ((0 : Int), (0 : Int)) = a1.getD i.toNat ((0 : Int), (0 : Int)) := by simpa only [fEq_Point, decide_eq_true_eq] using he
    rw [w64 (x := i + 1) (by omega) (by omega)]
    exact ⟨eqL_step hI hi hg, by unfold eqLM; omega⟩
  · have h6 := eqL_end hI hi
    simp [fEq_PointS, h6]

set_option maxRecDepth 100000 in
theorem laws_eqPointS.eq (i : El c_laws_eqPointS.I) (x : El c_laws_eqPointS.A) : vc tab (gam [(91, c_laws_eqPoint)] []) (laws_eqPointS.L x.1 x.2) (match Try.f56.body with | some c => c | none => .skip) 1 (initSt c_laws_eqPointS Try.f56.ntmps i x) (bodyK tab c_laws_eqPointS Try.f56.results.toList [4] i x) = laws_eqPointS.F x.1 x.2 := by kernel_rfl
theorem laws_eqPointS.ok : ConOk Try.prog 56 c_laws_eqPointS :=
  conOk_of_eq (con := c_laws_eqPointS) (tab := tab) (Γ := (gam [(91, c_laws_eqPoint)] [])) (fn := Try.f56) (c := (match Try.f56.body with | some c => c | none => .skip)) (fun i x => laws_eqPointS.L x.1 x.2) (fun i x => laws_eqPointS.F x.1 x.2) rfl tabOk (gam_cons ⟨_, Try.func91, rfl, rfl⟩ laws_eqPoint.ok (gam_nil _ [])) Try.func56 rfl [4] (by kernel_rfl) laws_eqPointS.eq fun i x h hi hw => laws_eqPointS.pure x.1 x.2 h hw

def c_mPoint (x : (Int × Int)) : Int := 1 + 1
def m_Point (x : (Int × Int)) (k : Int) : (Int × Int) := (k, (k + 1))
def o_Point (x : (Int × Int)) (k : Int) : Bool := (decide (x.1 = k)) && (decide (x.2 = (k + 1)))
theorem ok_Point : ∀ (x : (Int × Int)) (k : Int), o_Point (m_Point x k) k = true ∧ c_mPoint (m_Point x k) = c_mPoint x := fun x k => by
  simp [o_Point, m_Point, c_mPoint]
theorem pos_Point : ∀ x : (Int × Int), 0 ≤ c_mPoint x := fun x => by
  unfold c_mPoint; omega
def pMk_PointS (l : List (Int × Int)) (k : Int) : Prop := 0 ≤ k ∧ k + cL c_mPoint l ≤ 4611686018427387904
def fMk_PointS (l : List (Int × Int)) (k : Int) : Int × List (Int × Int) := (k + cL c_mPoint l, mL c_mPoint m_Point l k)
def c_laws_markPointS : Con := { io := false, I := .unit, ownI := [], A := (.pair (.list (.pair (.int .i64) (.int .i64))) (.int .i64)), shA := [.one, .one], ownA := [], backA := [(0, 56)], B := (.list (.pair (.int .i64) (.int .i64))), R := (.int .i64), shR := [(false, 1)], fresh := [], newR := false, pre := fun _ a => (pMk_PointS a.1 a.2), f := some fun _ a => ((fMk_PointS a.1 a.2).1, ((), (fMk_PointS a.1 a.2).2)) }
def laws_markPointS.F  (a0 : (List (Int × Int))) (a1 : Int) : Prop := (([(0, .val false [.own (.pair (.int .i64) (.int .i64)) 2])] : List (Nat × Sv)) = [(0, .val false [.own (.pair (.int .i64) (.int .i64)) 2])] ∧ ((mkI c_mPoint m_Point a0 a1 a1 0 a0) ∧ ∀ (y1 : (Int × (Int × (List (Int × Int))))), (mkI c_mPoint m_Point a0 a1 y1.1 y1.2.1 y1.2.2) → (caseB (decide (y1.2.1 < ((List.length y1.2.2 : Nat) : Int))) (0 ≤ y1.2.1 ∧ (y1.2.1 < ((List.length y1.2.2 : Nat) : Int) ∧ (0 ≤ y1.2.1 ∧ (y1.2.1 < ((List.length (List.set y1.2.2 (Int.toNat y1.2.1) (y1.1, (List.getD y1.2.2 (Int.toNat y1.2.1) ((0 : Int), (0 : Int))).2)) : Nat) : Int) ∧ (([(0, .val false [.own (.pair (.int .i64) (.int .i64)) 2])] : List (Nat × Sv)) = [(0, .val false [.own (.pair (.int .i64) (.int .i64)) 2])] ∧ (mkI c_mPoint m_Point a0 a1 (IntKind.wrap .i64 ((IntKind.wrap .i64 (y1.1 + (1 : Int))) + (1 : Int))) (IntKind.wrap .i64 (y1.2.1 + (1 : Int))) (List.set (List.set y1.2.2 (Int.toNat y1.2.1) (y1.1, (List.getD y1.2.2 (Int.toNat y1.2.1) ((0 : Int), (0 : Int))).2)) (Int.toNat y1.2.1) ((List.getD (List.set y1.2.2 (Int.toNat y1.2.1) (y1.1, (List.getD y1.2.2 (Int.toNat y1.2.1) ((0 : Int), (0 : Int))).2)) (Int.toNat y1.2.1) ((0 : Int), (0 : Int))).1, (IntKind.wrap .i64 (y1.1 + (1 : Int)))))) ∧ (mkM a0 a1 (IntKind.wrap .i64 ((IntKind.wrap .i64 (y1.1 + (1 : Int))) + (1 : Int))) (IntKind.wrap .i64 (y1.2.1 + (1 : Int))) (List.set (List.set y1.2.2 (Int.toNat y1.2.1) (y1.1, (List.getD y1.2.2 (Int.toNat y1.2.1) ((0 : Int), (0 : Int))).2)) (Int.toNat y1.2.1) ((List.getD (List.set y1.2.2 (Int.toNat y1.2.1) (y1.1, (List.getD y1.2.2 (Int.toNat y1.2.1) ((0 : Int), (0 : Int))).2)) (Int.toNat y1.2.1) ((0 : Int), (0 : Int))).1, (IntKind.wrap .i64 (y1.1 + (1 : Int)))))) < (mkM a0 a1 y1.1 y1.2.1 y1.2.2)))))) (((y1.1, ((), y1.2.2)) : Int × (Unit × (List (Int × Int)))) = ((fMk_PointS a0 a1).1, ((), (fMk_PointS a0 a1).2))))))
def laws_markPointS.L  (a0 : (List (Int × Int))) (a1 : Int) : Nat → Option LoopAnn := fun p => Go.Proofs.Ytcbehcpmojnnfaa.Bv.look p [(26, { kp := { hold := [0], slots := [1, 5], boxes := [], rows := [{ bx := false, s := 0, i := 0, k := 2, e := 56, hot := true }] }, T := (.pair (.int .i64) (.pair (.int .i64) (.list (.pair (.int .i64) (.int .i64))))), I := fun st y => mkI c_mPoint m_Point a0 a1 y.1 y.2.1 y.2.2, μ := fun st y => mkM a0 a1 y.1 y.2.1 y.2.2 })]

theorem laws_markPointS.pure  (a0 : (List (Int × Int))) (a1 : Int) (h : (pMk_PointS a0 a1)) (hw : Wf c_laws_markPointS.A (a0, a1)) : laws_markPointS.F a0 a1 := by
  unfold laws_markPointS.F
  obtain ⟨p1, p2⟩ := h
  have hw1 : a0.length ≤ 9223372036854775807 := hw.1.1
  simp only [forall_eq, true_and, and_true, caseB_iff, Prod.mk.injEq, decide_eq_true_eq, decide_eq_false_iff_not, Bool.not_eq_true', Bool.not_eq_false', bne_iff_ne, ne_eq, beq_iff_eq, Bool.not_true, Bool.not_false, beq_eq_false_iff_ne, bne_eq_false_iff_eq, List.length_append, List.length_cons, List.length_nil, List.append_nil, Nat.zero_add, decide_true, decide_false, eq_self_iff_true]
  refine ⟨⟨by omega, by omega, by simp [cL], by simp [mL]⟩, ?_⟩
  rintro ⟨k, i, l⟩ hI
  simp only at hI ⊢
  have hl := mk_len hI
  have h2 := hI.1
  have h3 := hI.2
  refine ⟨fun hi0 => ?_, fun hi0 => ?_⟩
  · have hi : i < (a0.length : Int) := by omega
    have hi' : i.toNat < l.length := by omega
    have hg := mk_at (d := ((0 : Int), (0 : Int))) hI hi
    have hs := cL_split c_mPoint ((0 : Int), (0 : Int)) (l := a0) (i := i.toNat) (by omega)
    have hk := hI.3
    have c1 := cL_pos pos_Point (a0.take i.toNat)
    have c2 := cL_pos pos_Point (a0.drop (i.toNat + 1))
    have c3 := pos_Point (a0.getD i.toNat ((0 : Int), (0 : Int)))
    have hmod : Int.tmod k 3 = k % 3 := Int.tmod_eq_emod_of_nonneg (by omega)
    have hc : c_mPoint (a0.getD i.toNat ((0 : Int), (0 : Int))) = c_mPoint (a0.getD i.toNat ((0 : Int), (0 : Int))) := rfl
    conv at hc => rhs; unfold c_mPoint
    try simp only [hg, getD_set_self hi', List.set_set, List.length_set]
    try simp (disch := first | omega | simp_all) only [getD_set_self, List.set_set, List.length_set, hg, w64, pMT]
    repeat' (with_reducible (refine And.intro ?_ ?_))
    all_goals (first | omega | exact mk_step (d := ((0 : Int), (0 : Int))) hI hi (by simp [m_Point, hmod]) (by omega) | (unfold mkM; omega) | skip)
  · obtain ⟨e1, e2⟩ := mk_end hI (by omega)
    exact ⟨e1, e2⟩

set_option maxRecDepth 100000 in
theorem laws_markPointS.eq (i : El c_laws_markPointS.I) (x : El c_laws_markPointS.A) : vc tab (gam [] []) (laws_markPointS.L x.1 x.2) (match Try.f57.body with | some c => c | none => .skip) 1 (initSt c_laws_markPointS Try.f57.ntmps i x) (bodyK tab c_laws_markPointS Try.f57.results.toList [3] i x) = laws_markPointS.F x.1 x.2 := by kernel_rfl
theorem laws_markPointS.ok : ConOk Try.prog 57 c_laws_markPointS :=
  conOk_of_eq (con := c_laws_markPointS) (tab := tab) (Γ := (gam [] [])) (fn := Try.f57) (c := (match Try.f57.body with | some c => c | none => .skip)) (fun i x => laws_markPointS.L x.1 x.2) (fun i x => laws_markPointS.F x.1 x.2) rfl tabOk (gam_nil _ []) Try.func57 rfl [3] (by kernel_rfl) laws_markPointS.eq fun i x h hi hw => laws_markPointS.pure x.1 x.2 h hw

def fHd_PointS (l : List (Int × Int)) (k : Int) : Int := fHd (cL c_mPoint l) (oL c_mPoint o_Point l k) k
def c_laws_heldPointS : Con := { io := false, I := .unit, ownI := [], A := (.pair (.list (.pair (.int .i64) (.int .i64))) (.int .i64)), shA := [.one, .one], ownA := [], backA := [], B := .unit, R := (.int .i64), shR := [(false, 1)], fresh := [], newR := false, pre := fun _ a => (pMk_PointS a.1 a.2), f := some fun _ a => ((fHd_PointS a.1 a.2), ((), ())) }
def laws_heldPointS.F  (a0 : (List (Int × Int))) (a1 : Int) : Prop := (([(0, .val false [.lst (.pair (.int .i64) (.int .i64)) a0 none])] : List (Nat × Sv)) = [(0, .val false [.lst (.pair (.int .i64) (.int .i64)) a0 none])] ∧ ((hdI c_mPoint o_Point a0 a1 a1 0) ∧ ∀ (y1 : (Int × Int)), (hdI c_mPoint o_Point a0 a1 y1.1 y1.2) → (caseB (decide (y1.2 < ((List.length a0 : Nat) : Int))) (0 ≤ y1.2 ∧ (y1.2 < ((List.length a0 : Nat) : Int) ∧ (caseB (((List.getD a0 (Int.toNat y1.2) ((0 : Int), (0 : Int))).1) != y1.1) ((((-1), ((), ())) : Int × (Unit × Unit)) = ((fHd_PointS a0 a1), ((), ()))) (0 ≤ y1.2 ∧ (y1.2 < ((List.length a0 : Nat) : Int) ∧ (caseB (((List.getD a0 (Int.toNat y1.2) ((0 : Int), (0 : Int))).2) != (IntKind.wrap .i64 (y1.1 + (1 : Int)))) ((((-1), ((), ())) : Int × (Unit × Unit)) = ((fHd_PointS a0 a1), ((), ()))) (([(0, .val false [.lst (.pair (.int .i64) (.int .i64)) a0 none])] : List (Nat × Sv)) = [(0, .val false [.lst (.pair (.int .i64) (.int .i64)) a0 none])] ∧ (hdI c_mPoint o_Point a0 a1 (IntKind.wrap .i64 ((IntKind.wrap .i64 (y1.1 + (1 : Int))) + (1 : Int))) (IntKind.wrap .i64 (y1.2 + (1 : Int)))) ∧ (hdM a0 a1 (IntKind.wrap .i64 ((IntKind.wrap .i64 (y1.1 + (1 : Int))) + (1 : Int))) (IntKind.wrap .i64 (y1.2 + (1 : Int)))) < (hdM a0 a1 y1.1 y1.2)))))))) (((y1.1, ((), ())) : Int × (Unit × Unit)) = ((fHd_PointS a0 a1), ((), ()))))))
def laws_heldPointS.L  (a0 : (List (Int × Int))) (a1 : Int) : Nat → Option LoopAnn := fun p => Go.Proofs.Ytcbehcpmojnnfaa.Bv.look p [(26, { kp := { hold := [0], slots := [1, 5], boxes := [], rows := [] }, T := (.pair (.int .i64) (.int .i64)), I := fun st y => hdI c_mPoint o_Point a0 a1 y.1 y.2, μ := fun st y => hdM a0 a1 y.1 y.2 })]

theorem laws_heldPointS.pure  (a0 : (List (Int × Int))) (a1 : Int) (h : (pMk_PointS a0 a1)) (hw : Wf c_laws_heldPointS.A (a0, a1)) : laws_heldPointS.F a0 a1 := by
  unfold laws_heldPointS.F
  obtain ⟨p1, p2⟩ := h
  have hw1 : a0.length ≤ 9223372036854775807 := hw.1.1
  simp only [forall_eq, true_and, and_true, caseB_iff, Prod.mk.injEq, decide_eq_true_eq, decide_eq_false_iff_not, Bool.not_eq_true', Bool.not_eq_false', bne_iff_ne, ne_eq, beq_iff_eq, Bool.not_true, Bool.not_false, beq_eq_false_iff_ne, bne_eq_false_iff_eq, List.length_append, List.length_cons, List.length_nil, List.append_nil, Nat.zero_add, decide_true, decide_false, eq_self_iff_true]
  refine ⟨⟨by omega, by omega, by simp [cL], by simp⟩, ?_⟩
  rintro ⟨k, i⟩ hI
  simp only at hI ⊢
  have h2 := hI.1
  have h3 := hI.2
  refine ⟨fun hi => ?_, fun hi => hd_end hI hi⟩
  · have hs := cL_split c_mPoint ((0 : Int), (0 : Int)) (l := a0) (i := i.toNat) (by omega)
    have hk := hI.3
    have c1 := cL_pos pos_Point (a0.take i.toNat)
    have c2 := cL_pos pos_Point (a0.drop (i.toNat + 1))
    have c3 := pos_Point (a0.getD i.toNat ((0 : Int), (0 : Int)))
    have hmod : Int.tmod k 3 = k % 3 := Int.tmod_eq_emod_of_nonneg (by omega)
    have no : o_Point (a0.getD i.toNat ((0 : Int), (0 : Int))) k = false → -1 = fHd_PointS a0 a1 := fun ho => hd_no ((0 : Int), (0 : Int)) hI hi ho
    have yes : o_Point (a0.getD i.toNat ((0 : Int), (0 : Int))) k = true → hdI c_mPoint o_Point a0 a1 (k + c_mPoint (a0.getD i.toNat ((0 : Int), (0 : Int)))) (i + 1) := fun ho => hd_step ((0 : Int), (0 : Int)) hI hi ho rfl
    generalize a0.getD i.toNat ((0 : Int), (0 : Int)) = x at *
    have hc : c_mPoint x = c_mPoint x := rfl
    conv at hc => rhs; unfold c_mPoint
    simp only [o_Point] at no yes
    simp (disch := omega) only [w64, pMT]
    repeat' (with_reducible (first | (refine And.intro ?_ ?_) | intro _))
    all_goals (first | omega | (unfold hdM; omega) | skip)
    all_goals (try simp (disch := first | omega | assumption) only [fHd_neg, fHd_yes, w64, Bool.not_eq_false] at *)
    all_goals (try simp (disch := first | omega | assumption) only [fHd_neg, fHd_yes, w64, Bool.not_eq_false] at *)
    all_goals (first | omega | grind)

set_option maxRecDepth 100000 in
theorem laws_heldPointS.eq (i : El c_laws_heldPointS.I) (x : El c_laws_heldPointS.A) : vc tab (gam [] []) (laws_heldPointS.L x.1 x.2) (match Try.f64.body with | some c => c | none => .skip) 1 (initSt c_laws_heldPointS Try.f64.ntmps i x) (bodyK tab c_laws_heldPointS Try.f64.results.toList [3] i x) = laws_heldPointS.F x.1 x.2 := by kernel_rfl
theorem laws_heldPointS.ok : ConOk Try.prog 64 c_laws_heldPointS :=
  conOk_of_eq (con := c_laws_heldPointS) (tab := tab) (Γ := (gam [] [])) (fn := Try.f64) (c := (match Try.f64.body with | some c => c | none => .skip)) (fun i x => laws_heldPointS.L x.1 x.2) (fun i x => laws_heldPointS.F x.1 x.2) rfl tabOk (gam_nil _ []) Try.func64 rfl [3] (by kernel_rfl) laws_heldPointS.eq fun i x h hi hw => laws_heldPointS.pure x.1 x.2 h hw

def n_Series (x : ((List UInt8) × (List (Int × Int)))) : Nat := (x.1.length) + (List.length x.2)
def pSz_Series (x : ((List UInt8) × (List (Int × Int)))) (left : Int) : Prop := WfD (.pair .str (.list (.pair (.int .i64) (.int .i64)))) x ∧ 0 ≤ left ∧ left ≤ 1048576
def fSz_Series (x : ((List UInt8) × (List (Int × Int)))) (left : Int) : Int := fSz (n_Series x) left
def c_laws_szSeries : Con := { io := false, I := .unit, ownI := [], A := (.pair (.pair .str (.list (.pair (.int .i64) (.int .i64)))) (.int .i64)), shA := [.agg 2, .one], ownA := [], backA := [], B := .unit, R := (.int .i64), shR := [(false, 1)], fresh := [], newR := false, pre := fun _ a => (pSz_Series a.1 a.2), f := some fun _ a => ((fSz_Series a.1 a.2), ((), ())) }
def laws_szSeries.F  (a0 : ((List UInt8) × (List (Int × Int)))) (a1 : Int) : Prop := (caseB (decide ((IntKind.wrap .i64 (a1 - ((List.length a0.1 : Nat) : Int))) < (0 : Int))) ((((-1), ((), ())) : Int × (Unit × Unit)) = ((fSz_Series a0 a1), ((), ()))) ((pSz_PointS a0.2 (IntKind.wrap .i64 (a1 - ((List.length a0.1 : Nat) : Int)))) ∧ ∀ (r1 : Int × (Unit × Unit)), ((r1 : Int × (Unit × Unit)) = ((fSz_PointS a0.2 (IntKind.wrap .i64 (a1 - ((List.length a0.1 : Nat) : Int)))), ((), ()))) → (caseB (decide (r1.1 < (0 : Int))) ((((-1), ((), ())) : Int × (Unit × Unit)) = ((fSz_Series a0 a1), ((), ()))) (((r1.1, ((), ())) : Int × (Unit × Unit)) = ((fSz_Series a0 a1), ((), ()))))))
def laws_szSeries.L  (a0 : ((List UInt8) × (List (Int × Int)))) (a1 : Int) : Nat → Option LoopAnn := fun p => Go.Proofs.Ytcbehcpmojnnfaa.Bv.look p []

theorem laws_szSeries.pure  (a0 : ((List UInt8) × (List (Int × Int)))) (a1 : Int) (h : (pSz_Series a0 a1)) (hw : Wf c_laws_szSeries.A (a0, a1)) : laws_szSeries.F a0 a1 := by
  unfold laws_szSeries.F
  obtain ⟨hwf, p1, p2⟩ := h
  have w0 : a0.1.length ≤ 9223372036854775807 := hwf.1
  have w1 : WfD (.list (.pair (.int .i64) (.int .i64))) a0.2 := hwf.2
  simp only [forall_eq, true_and, and_true, caseB_iff, Prod.mk.injEq, decide_eq_true_eq, decide_eq_false_iff_not, Bool.not_eq_true', Bool.not_eq_false', bne_iff_ne, ne_eq, beq_iff_eq, Bool.not_true, Bool.not_false, beq_eq_false_iff_ne, bne_eq_false_iff_eq, List.length_append, List.length_cons, List.length_nil, List.append_nil, Nat.zero_add, decide_true, decide_false, eq_self_iff_true, n_Series, fSz_Series, pSz_PointS, fSz_PointS]
  repeat' (with_reducible (first | (refine And.intro ?_ ?_) | intro _))
  all_goals (try simp (disch := omega) only [w64, wu8, tn0, tn1, tm1, tm2, List.length_append, List.length_cons, List.length_nil] at *)
  all_goals (try omega)
  all_goals (try grind [fSz])

set_option maxRecDepth 100000 in
theorem laws_szSeries.eq (i : El c_laws_szSeries.I) (x : El c_laws_szSeries.A) : vc tab (gam [(51, c_laws_szPointS)] []) (laws_szSeries.L x.1 x.2) (match Try.f84.body with | some c => c | none => .skip) 1 (initSt c_laws_szSeries Try.f84.ntmps i x) (bodyK tab c_laws_szSeries Try.f84.results.toList [3] i x) = laws_szSeries.F x.1 x.2 := by kernel_rfl
theorem laws_szSeries.ok : ConOk Try.prog 84 c_laws_szSeries :=
  conOk_of_eq (con := c_laws_szSeries) (tab := tab) (Γ := (gam [(51, c_laws_szPointS)] [])) (fn := Try.f84) (c := (match Try.f84.body with | some c => c | none => .skip)) (fun i x => laws_szSeries.L x.1 x.2) (fun i x => laws_szSeries.F x.1 x.2) rfl tabOk (gam_cons ⟨_, Try.func51, rfl, rfl⟩ laws_szPointS.ok (gam_nil _ [])) Try.func84 rfl [3] (by kernel_rfl) laws_szSeries.eq fun i x h hi hw => laws_szSeries.pure x.1 x.2 h hw

def pSz_SeriesS (x : List ((List UInt8) × (List (Int × Int)))) (left : Int) : Prop := WfD (.list (.pair .str (.list (.pair (.int .i64) (.int .i64))))) x ∧ 0 ≤ left ∧ left ≤ 1048576
def fSz_SeriesS (x : List ((List UInt8) × (List (Int × Int)))) (left : Int) : Int := fSz (nL n_Series x) left
def c_laws_szSeriesS : Con := { io := false, I := .unit, ownI := [], A := (.pair (.list (.pair .str (.list (.pair (.int .i64) (.int .i64))))) (.int .i64)), shA := [.one, .one], ownA := [], backA := [], B := .unit, R := (.int .i64), shR := [(false, 1)], fresh := [], newR := false, pre := fun _ a => (pSz_SeriesS a.1 a.2), f := some fun _ a => ((fSz_SeriesS a.1 a.2), ((), ())) }
def laws_szSeriesS.F  (a0 : (List ((List UInt8) × (List (Int × Int))))) (a1 : Int) : Prop := (caseB (decide ((IntKind.wrap .i64 (a1 - ((List.length a0 : Nat) : Int))) < (0 : Int))) ((((-1), ((), ())) : Int × (Unit × Unit)) = ((fSz_SeriesS a0 a1), ((), ()))) (([(0, .val false [.lst (.pair .str (.list (.pair (.int .i64) (.int .i64)))) a0 none])] : List (Nat × Sv)) = [(0, .val false [.lst (.pair .str (.list (.pair (.int .i64) (.int .i64)))) a0 none])] ∧ ((szLI n_Series a0 a1 (IntKind.wrap .i64 (a1 - ((List.length a0 : Nat) : Int))) 0) ∧ ∀ (y1 : (Int × Int)), (szLI n_Series a0 a1 y1.1 y1.2) → (caseB (decide (y1.2 < ((List.length a0 : Nat) : Int))) (0 ≤ y1.2 ∧ (y1.2 < ((List.length a0 : Nat) : Int) ∧ ((pSz_Series ((List.getD a0 (Int.toNat y1.2) (([] : (List UInt8)), ([] : (List (Int × Int))))).1, (List.getD a0 (Int.toNat y1.2) (([] : (List UInt8)), ([] : (List (Int × Int))))).2) y1.1) ∧ ∀ (r2 : Int × (Unit × Unit)), ((r2 : Int × (Unit × Unit)) = ((fSz_Series ((List.getD a0 (Int.toNat y1.2) (([] : (List UInt8)), ([] : (List (Int × Int))))).1, (List.getD a0 (Int.toNat y1.2) (([] : (List UInt8)), ([] : (List (Int × Int))))).2) y1.1), ((), ()))) → (caseB (decide (r2.1 < (0 : Int))) ((((-1), ((), ())) : Int × (Unit × Unit)) = ((fSz_SeriesS a0 a1), ((), ()))) (([(0, .val false [.lst (.pair .str (.list (.pair (.int .i64) (.int .i64)))) a0 none])] : List (Nat × Sv)) = [(0, .val false [.lst (.pair .str (.list (.pair (.int .i64) (.int .i64)))) a0 none])] ∧ (szLI n_Series a0 a1 r2.1 (IntKind.wrap .i64 (y1.2 + (1 : Int)))) ∧ (szLM a0 a1 r2.1 (IntKind.wrap .i64 (y1.2 + (1 : Int)))) < (szLM a0 a1 y1.1 y1.2)))))) (((y1.1, ((), ())) : Int × (Unit × Unit)) = ((fSz_SeriesS a0 a1), ((), ())))))))
def laws_szSeriesS.L  (a0 : (List ((List UInt8) × (List (Int × Int))))) (a1 : Int) : Nat → Option LoopAnn := fun p => Go.Proofs.Ytcbehcpmojnnfaa.Bv.look p [(122, { kp := { hold := [0], slots := [1, 5], boxes := [], rows := [] }, T := (.pair (.int .i64) (.int .i64)), I := fun st y => szLI n_Series a0 a1 y.1 y.2, μ := fun st y => szLM a0 a1 y.1 y.2 })]

theorem laws_szSeriesS.pure  (a0 : (List ((List UInt8) × (List (Int × Int))))) (a1 : Int) (h : (pSz_SeriesS a0 a1)) (hw : Wf c_laws_szSeriesS.A (a0, a1)) : laws_szSeriesS.F a0 a1 := by
  unfold laws_szSeriesS.F
  obtain ⟨hwf, p1, p2⟩ := h
  have hw1 : a0.length ≤ 9223372036854775807 := hwf.1
  simp only [forall_eq, true_and, and_true, caseB_iff, Prod.mk.injEq, decide_eq_true_eq, decide_eq_false_iff_not, Bool.not_eq_true', Bool.not_eq_false', bne_iff_ne, ne_eq, beq_iff_eq, Bool.not_true, Bool.not_false, beq_eq_false_iff_ne, bne_eq_false_iff_eq, List.length_append, List.length_cons, List.length_nil, List.append_nil, Nat.zero_add, decide_true, decide_false, eq_self_iff_true, fSz_SeriesS]
  rw [w64 (x := a1 - (a0.length : Int)) (by omega) (by omega)]
  refine ⟨fun h1 => (fSz_no (by unfold nL; omega)).symm, fun h1 => ⟨⟨by omega, by omega, by omega, by rw [show Int.toNat 0 = 0 from rfl, sumT_zero]; omega⟩, ?_⟩⟩
  rintro ⟨left, i⟩ ⟨h2, h3, h4, h5⟩
  simp only at h2 h3 h4 h5 ⊢
  refine ⟨fun hi => ?_, fun hi => ?_⟩
  · have hm : a0.getD i.toNat (([] : (List UInt8)), ([] : (List (Int × Int)))) ∈ a0 := getD_mem (by omega)
    have s1 := sumT_succ n_Series a0 (([] : (List UInt8)), ([] : (List (Int × Int)))) (i := i.toNat) (by omega)
    have s2 := sumT_le n_Series a0 (i.toNat + 1)
    have hwx : WfD (.pair .str (.list (.pair (.int .i64) (.int .i64)))) (a0.getD i.toNat (([] : (List UInt8)), ([] : (List (Int × Int))))) := hwf.2 _ hm
    rw [w64 (x := i + 1) (by omega) (by omega)]
    simp only [fSz_Series]
    by_cases hc : left < (n_Series (a0.getD i.toNat (([] : (List UInt8)), ([] : (List (Int × Int))))) : Int)
    · rw [fSz_no hc]
      exact ⟨h2, hi, ⟨hwx, h4, by omega⟩, fun h6 => (fSz_no (by unfold nL; omega)).symm, fun h6 => absurd (by decide) h6⟩
    · rw [fSz_yes hc]
      exact ⟨h2, hi, ⟨hwx, h4, by omega⟩, fun h6 => by omega, fun h6 => ⟨⟨by omega, by omega, by omega, by rw [tn1 h2]; omega⟩, by unfold szLM; omega⟩⟩
  · have e : i.toNat = a0.length := by omega
    rw [e] at h5
    rw [fSz_yes (by unfold nL; omega)]
    unfold nL; omega

set_option maxRecDepth 100000 in
theorem laws_szSeriesS.eq (i : El c_laws_szSeriesS.I) (x : El c_laws_szSeriesS.A) : vc tab (gam [(84, c_laws_szSeries)] []) (laws_szSeriesS.L x.1 x.2) (match Try.f46.body with | some c => c | none => .skip) 1 (initSt c_laws_szSeriesS Try.f46.ntmps i x) (bodyK tab c_laws_szSeriesS Try.f46.results.toList [3] i x) = laws_szSeriesS.F x.1 x.2 := by kernel_rfl
theorem laws_szSeriesS.ok : ConOk Try.prog 46 c_laws_szSeriesS :=
  conOk_of_eq (con := c_laws_szSeriesS) (tab := tab) (Γ := (gam [(84, c_laws_szSeries)] [])) (fn := Try.f46) (c := (match Try.f46.body with | some c => c | none => .skip)) (fun i x => laws_szSeriesS.L x.1 x.2) (fun i x => laws_szSeriesS.F x.1 x.2) rfl tabOk (gam_cons ⟨_, Try.func84, rfl, rfl⟩ laws_szSeries.ok (gam_nil _ [])) Try.func46 rfl [3] (by kernel_rfl) laws_szSeriesS.eq fun i x h hi hw => laws_szSeriesS.pure x.1 x.2 h hw

def pTo_Series (x : ((List UInt8) × (List (Int × Int)))) : Prop := n_Series x ≤ 1048576
def fTo_Series (x : ((List UInt8) × (List (Int × Int)))) : ((List UInt8) × (List (Int × Int))) := x
def c_laws_toSeries : Con := { io := false, I := .unit, ownI := [], A := (.pair .str (.list (.pair (.int .i64) (.int .i64)))), shA := [.agg 2], ownA := [], backA := [], B := .unit, R := (.pair .str (.list (.pair (.int .i64) (.int .i64)))), shR := [(true, 2)], fresh := [(1, 56)], newR := false, pre := fun _ a => (pTo_Series a), f := some fun _ a => ((fTo_Series a), ((), ())) }
def laws_toSeries.F  (a0 : ((List UInt8) × (List (Int × Int)))) : Prop := ((pTo_PointS a0.2) ∧ ∀ (r1 : (List (Int × Int)) × (Unit × Unit)), ((r1 : (List (Int × Int)) × (Unit × Unit)) = ((fTo_PointS a0.2), ((), ()))) → ((((a0.1, r1.1), ((), ())) : ((List UInt8) × (List (Int × Int))) × (Unit × Unit)) = ((fTo_Series a0), ((), ()))))
def laws_toSeries.L  (a0 : ((List UInt8) × (List (Int × Int)))) : Nat → Option LoopAnn := fun p => Go.Proofs.Ytcbehcpmojnnfaa.Bv.look p []

theorem laws_toSeries.pure  (a0 : ((List UInt8) × (List (Int × Int)))) (h : (pTo_Series a0)) (hw : Wf c_laws_toSeries.A a0) : laws_toSeries.F a0 := by
  unfold laws_toSeries.F
  have hp : n_Series a0 ≤ 1048576 := h
  simp only [n_Series] at hp
  simp only [forall_eq, true_and, and_true, caseB_iff, Prod.mk.injEq, decide_eq_true_eq, decide_eq_false_iff_not, Bool.not_eq_true', Bool.not_eq_false', bne_iff_ne, ne_eq, beq_iff_eq, Bool.not_true, Bool.not_false, beq_eq_false_iff_ne, bne_eq_false_iff_eq, List.length_append, List.length_cons, List.length_nil, List.append_nil, Nat.zero_add, decide_true, decide_false, eq_self_iff_true, n_Series, fTo_Series, pTo_Series, pTo_PointS, fTo_PointS]
  repeat' (with_reducible (first | (refine And.intro ?_ ?_) | intro _))
  all_goals (try simp (disch := omega) only [w64, wu8, tn0, tn1, tm1, tm2, List.length_append, List.length_cons, List.length_nil] at *)
  all_goals (try omega)
  all_goals (try grind [])

set_option maxRecDepth 100000 in
theorem laws_toSeries.eq (i : El c_laws_toSeries.I) (x : El c_laws_toSeries.A) : vc tab (gam [(53, c_laws_toPointS)] []) (laws_toSeries.L x) (match Try.f86.body with | some c => c | none => .skip) 1 (initSt c_laws_toSeries Try.f86.ntmps i x) (bodyK tab c_laws_toSeries Try.f86.results.toList [106] i x) = laws_toSeries.F x := by kernel_rfl
theorem laws_toSeries.ok : ConOk Try.prog 86 c_laws_toSeries :=
  conOk_of_eq (con := c_laws_toSeries) (tab := tab) (Γ := (gam [(53, c_laws_toPointS)] [])) (fn := Try.f86) (c := (match Try.f86.body with | some c => c | none => .skip)) (fun i x => laws_toSeries.L x) (fun i x => laws_toSeries.F x) rfl tabOk (gam_cons ⟨_, Try.func53, rfl, rfl⟩ laws_toPointS.ok (gam_nil _ [])) Try.func86 rfl [106] (by kernel_rfl) laws_toSeries.eq fun i x h hi hw => laws_toSeries.pure x h hw

def pTo_SeriesS (x : List ((List UInt8) × (List (Int × Int)))) : Prop := nL n_Series x ≤ 1048576
def fTo_SeriesS (x : List ((List UInt8) × (List (Int × Int)))) : List ((List UInt8) × (List (Int × Int))) := x
def c_laws_toSeriesS : Con := { io := false, I := .unit, ownI := [], A := (.list (.pair .str (.list (.pair (.int .i64) (.int .i64))))), shA := [.one], ownA := [], backA := [], B := .unit, R := (.list (.pair .str (.list (.pair (.int .i64) (.int .i64))))), shR := [(false, 1)], fresh := [(0, 106)], newR := false, pre := fun _ a => (pTo_SeriesS a), f := some fun _ a => ((fTo_SeriesS a), ((), ())) }
def laws_toSeriesS.F  (a0 : (List ((List UInt8) × (List (Int × Int))))) : Prop := (0 ≤ ((List.length a0 : Nat) : Int) ∧ (((List.length a0 : Nat) : Int) ≤ ((List.length a0 : Nat) : Int) ∧ (((List.length a0 : Nat) : Int) ≤ 9223372036854775807 ∧ (((40 : Nat) : Int) * ((List.length a0 : Nat) : Int) ≤ 140737488355328 ∧ (([(0, .val false [.lst (.pair .str (.list (.pair (.int .i64) (.int .i64)))) a0 none]), (3, .val false [.own (.pair .str (.list (.pair (.int .i64) (.int .i64)))) 1000387])] : List (Nat × Sv)) = [(0, .val false [.lst (.pair .str (.list (.pair (.int .i64) (.int .i64)))) a0 none]), (3, .val false [.own (.pair .str (.list (.pair (.int .i64) (.int .i64)))) 1000387])] ∧ ((cpI (([] : (List UInt8)), ([] : (List (Int × Int)))) a0 0 (List.replicate (Int.toNat ((List.length a0 : Nat) : Int)) (([] : (List UInt8)), ([] : (List (Int × Int)))))) ∧ ∀ (y1 : (Int × (List ((List UInt8) × (List (Int × Int)))))), (cpI (([] : (List UInt8)), ([] : (List (Int × Int)))) a0 y1.1 y1.2) → (caseB (decide (y1.1 < ((List.length a0 : Nat) : Int))) (0 ≤ y1.1 ∧ (y1.1 < ((List.length a0 : Nat) : Int) ∧ ((pTo_Series ((List.getD a0 (Int.toNat y1.1) (([] : (List UInt8)), ([] : (List (Int × Int))))).1, (List.getD a0 (Int.toNat y1.1) (([] : (List UInt8)), ([] : (List (Int × Int))))).2)) ∧ ∀ (r2 : ((List UInt8) × (List (Int × Int))) × (Unit × Unit)), ((r2 : ((List UInt8) × (List (Int × Int))) × (Unit × Unit)) = ((fTo_Series ((List.getD a0 (Int.toNat y1.1) (([] : (List UInt8)), ([] : (List (Int × Int))))).1, (List.getD a0 (Int.toNat y1.1) (([] : (List UInt8)), ([] : (List (Int × Int))))).2)), ((), ()))) → (0 ≤ y1.1 ∧ (y1.1 < ((List.length y1.2 : Nat) : Int) ∧ (([(0, .val false [.lst (.pair .str (.list (.pair (.int .i64) (.int .i64)))) a0 none]), (3, .val false [.own (.pair .str (.list (.pair (.int .i64) (.int .i64)))) 1000387])] : List (Nat × Sv)) = [(0, .val false [.lst (.pair .str (.list (.pair (.int .i64) (.int .i64)))) a0 none]), (3, .val false [.own (.pair .str (.list (.pair (.int .i64) (.int .i64)))) 1000387])] ∧ (cpI (([] : (List UInt8)), ([] : (List (Int × Int)))) a0 (IntKind.wrap .i64 (y1.1 + (1 : Int))) (List.set y1.2 (Int.toNat y1.1) (r2.1.1, r2.1.2))) ∧ (cpM a0 (IntKind.wrap .i64 (y1.1 + (1 : Int))) (List.set y1.2 (Int.toNat y1.1) (r2.1.1, r2.1.2))) < (cpM a0 y1.1 y1.2))))))) (((y1.2, ((), ())) : (List ((List UInt8) × (List (Int × Int)))) × (Unit × Unit)) = ((fTo_SeriesS a0), ((), ()))))))))))
def laws_toSeriesS.L  (a0 : (List ((List UInt8) × (List (Int × Int))))) : Nat → Option LoopAnn := fun p => Go.Proofs.Ytcbehcpmojnnfaa.Bv.look p [(58, { kp := { hold := [0, 3], slots := [4], boxes := [], rows := [{ bx := false, s := 3, i := 0, k := 1000387, e := 106, hot := true }] }, T := (.pair (.int .i64) (.list (.pair .str (.list (.pair (.int .i64) (.int .i64)))))), I := fun st y => cpI (([] : (List UInt8)), ([] : (List (Int × Int)))) a0 y.1 y.2, μ := fun st y => cpM a0 y.1 y.2 })]

theorem laws_toSeriesS.pure  (a0 : (List ((List UInt8) × (List (Int × Int))))) (h : (pTo_SeriesS a0)) (hw : Wf c_laws_toSeriesS.A a0) : laws_toSeriesS.F a0 := by
  unfold laws_toSeriesS.F
  have hb : a0.length ≤ 1048576 := by have h1 : nL n_Series a0 ≤ 1048576 := h; unfold nL at h1; omega
  simp only [forall_eq, true_and, and_true, caseB_iff, Prod.mk.injEq, decide_eq_true_eq, decide_eq_false_iff_not, Bool.not_eq_true', Bool.not_eq_false', bne_iff_ne, ne_eq, beq_iff_eq, Bool.not_true, Bool.not_false, beq_eq_false_iff_ne, bne_eq_false_iff_eq, List.length_append, List.length_cons, List.length_nil, List.append_nil, Nat.zero_add, decide_true, decide_false, eq_self_iff_true, fTo_SeriesS]
  refine ⟨by omega, by omega, by omega, by omega, ⟨by omega, by omega, by simp⟩, ?_⟩
  rintro ⟨i, out⟩ hI
  simp only at hI ⊢
  refine ⟨fun hi => ?_, fun hi => cp_end hI hi⟩
  have hl := cp_len hI
  have h3 := hI.2.1
  have h2 := hI.1
  have hp : pTo_Series (a0.getD i.toNat (([] : (List UInt8)), ([] : (List (Int × Int))))) := by
    have h1 : nL n_Series a0 ≤ 1048576 := h
    have hm : a0.getD i.toNat (([] : (List UInt8)), ([] : (List (Int × Int)))) ∈ a0 := getD_mem (by omega)
    show n_Series _ ≤ 1048576
    have := nL_mem n_Series hm; omega
  rw [w64 (x := i + 1) (by omega) (by omega)]
  simp only [fTo_Series, hl]
  exact ⟨h2, hi, hp, h2, hi, cp_step hI hi, by unfold cpM; omega⟩

set_option maxRecDepth 100000 in
theorem laws_toSeriesS.eq (i : El c_laws_toSeriesS.I) (x : El c_laws_toSeriesS.A) : vc tab (gam [(86, c_laws_toSeries)] []) (laws_toSeriesS.L x) (match Try.f48.body with | some c => c | none => .skip) 1 (initSt c_laws_toSeriesS Try.f48.ntmps i x) (bodyK tab c_laws_toSeriesS Try.f48.results.toList [62] i x) = laws_toSeriesS.F x := by kernel_rfl
theorem laws_toSeriesS.ok : ConOk Try.prog 48 c_laws_toSeriesS :=
  conOk_of_eq (con := c_laws_toSeriesS) (tab := tab) (Γ := (gam [(86, c_laws_toSeries)] [])) (fn := Try.f48) (c := (match Try.f48.body with | some c => c | none => .skip)) (fun i x => laws_toSeriesS.L x) (fun i x => laws_toSeriesS.F x) rfl tabOk (gam_cons ⟨_, Try.func86, rfl, rfl⟩ laws_toSeries.ok (gam_nil _ [])) Try.func48 rfl [62] (by kernel_rfl) laws_toSeriesS.eq fun i x h hi hw => laws_toSeriesS.pure x h hw

def fEq_Series (a b : ((List UInt8) × (List (Int × Int)))) : Bool := decide (a = b)
def c_laws_eqSeries : Con := { io := false, I := .unit, ownI := [], A := (.pair (.pair .str (.list (.pair (.int .i64) (.int .i64)))) (.pair .str (.list (.pair (.int .i64) (.int .i64))))), shA := [.agg 2, .agg 2], ownA := [], backA := [], B := .unit, R := .bool, shR := [(false, 1)], fresh := [], newR := false, pre := fun _ a => True, f := some fun _ a => ((fEq_Series a.1 a.2), ((), ())) }
def laws_eqSeries.F  (a0 : ((List UInt8) × (List (Int × Int)))) (a1 : ((List UInt8) × (List (Int × Int)))) : Prop := (caseB (!(a0.1 == a1.1)) (((false, ((), ())) : Bool × (Unit × Unit)) = ((fEq_Series a0 a1), ((), ()))) (True ∧ ∀ (r1 : Bool × (Unit × Unit)), ((r1 : Bool × (Unit × Unit)) = ((fEq_PointS a0.2 a1.2), ((), ()))) → (caseB (!r1.1) (((false, ((), ())) : Bool × (Unit × Unit)) = ((fEq_Series a0 a1), ((), ()))) (((true, ((), ())) : Bool × (Unit × Unit)) = ((fEq_Series a0 a1), ((), ()))))))
def laws_eqSeries.L  (a0 : ((List UInt8) × (List (Int × Int)))) (a1 : ((List UInt8) × (List (Int × Int)))) : Nat → Option LoopAnn := fun p => Go.Proofs.Ytcbehcpmojnnfaa.Bv.look p []

theorem laws_eqSeries.pure  (a0 : ((List UInt8) × (List (Int × Int)))) (a1 : ((List UInt8) × (List (Int × Int)))) (h : True) (hw : Wf c_laws_eqSeries.A (a0, a1)) : laws_eqSeries.F a0 a1 := by
  unfold laws_eqSeries.F
  obtain ⟨x0, x1⟩ := a0
  obtain ⟨y0, y1⟩ := a1
  simp only [forall_eq, true_and, and_true, caseB_iff, Prod.mk.injEq, decide_eq_true_eq, decide_eq_false_iff_not, Bool.not_eq_true', Bool.not_eq_false', bne_iff_ne, ne_eq, beq_iff_eq, Bool.not_true, Bool.not_false, beq_eq_false_iff_ne, bne_eq_false_iff_eq, List.length_append, List.length_cons, List.length_nil, List.append_nil, Nat.zero_add, decide_true, decide_false, eq_self_iff_true, fEq_Series, fEq_PointS]
  repeat' (first | (refine And.intro ?_ ?_) | intro _)
  all_goals simp_all

set_option maxRecDepth 100000 in
theorem laws_eqSeries.eq (i : El c_laws_eqSeries.I) (x : El c_laws_eqSeries.A) : vc tab (gam [(56, c_laws_eqPointS)] []) (laws_eqSeries.L x.1 x.2) (match Try.f88.body with | some c => c | none => .skip) 1 (initSt c_laws_eqSeries Try.f88.ntmps i x) (bodyK tab c_laws_eqSeries Try.f88.results.toList [4] i x) = laws_eqSeries.F x.1 x.2 := by kernel_rfl
theorem laws_eqSeries.ok : ConOk Try.prog 88 c_laws_eqSeries :=
  conOk_of_eq (con := c_laws_eqSeries) (tab := tab) (Γ := (gam [(56, c_laws_eqPointS)] [])) (fn := Try.f88) (c := (match Try.f88.body with | some c => c | none => .skip)) (fun i x => laws_eqSeries.L x.1 x.2) (fun i x => laws_eqSeries.F x.1 x.2) rfl tabOk (gam_cons ⟨_, Try.func56, rfl, rfl⟩ laws_eqPointS.ok (gam_nil _ [])) Try.func88 rfl [4] (by kernel_rfl) laws_eqSeries.eq fun i x h hi hw => laws_eqSeries.pure x.1 x.2 h hw

def fEq_SeriesS (a b : List ((List UInt8) × (List (Int × Int)))) : Bool := decide (a = b)
def c_laws_eqSeriesS : Con := { io := false, I := .unit, ownI := [], A := (.pair (.list (.pair .str (.list (.pair (.int .i64) (.int .i64))))) (.list (.pair .str (.list (.pair (.int .i64) (.int .i64)))))), shA := [.one, .one], ownA := [], backA := [], B := .unit, R := .bool, shR := [(false, 1)], fresh := [], newR := false, pre := fun _ a => True, f := some fun _ a => ((fEq_SeriesS a.1 a.2), ((), ())) }
def laws_eqSeriesS.F  (a0 : (List ((List UInt8) × (List (Int × Int))))) (a1 : (List ((List UInt8) × (List (Int × Int))))) : Prop := (caseB (((List.length a0 : Nat) : Int) != ((List.length a1 : Nat) : Int)) (((false, ((), ())) : Bool × (Unit × Unit)) = ((fEq_SeriesS a0 a1), ((), ()))) (([(0, .val false [.lst (.pair .str (.list (.pair (.int .i64) (.int .i64)))) a0 none]), (1, .val false [.lst (.pair .str (.list (.pair (.int .i64) (.int .i64)))) a1 none])] : List (Nat × Sv)) = [(0, .val false [.lst (.pair .str (.list (.pair (.int .i64) (.int .i64)))) a0 none]), (1, .val false [.lst (.pair .str (.list (.pair (.int .i64) (.int .i64)))) a1 none])] ∧ ((eqLI a0 a1 0) ∧ ∀ (y1 : Int), (eqLI a0 a1 y1) → (caseB (decide (y1 < ((List.length a0 : Nat) : Int))) (0 ≤ y1 ∧ (y1 < ((List.length a0 : Nat) : Int) ∧ (0 ≤ y1 ∧ (y1 < ((List.length a1 : Nat) : Int) ∧ (True ∧ ∀ (r2 : Bool × (Unit × Unit)), ((r2 : Bool × (Unit × Unit)) = ((fEq_Series ((List.getD a0 (Int.toNat y1) (([] : (List UInt8)), ([] : (List (Int × Int))))).1, (List.getD a0 (Int.toNat y1) (([] : (List UInt8)), ([] : (List (Int × Int))))).2) ((List.getD a1 (Int.toNat y1) (([] : (List UInt8)), ([] : (List (Int × Int))))).1, (List.getD a1 (Int.toNat y1) (([] : (List UInt8)), ([] : (List (Int × Int))))).2)), ((), ()))) → (caseB (!r2.1) (((false, ((), ())) : Bool × (Unit × Unit)) = ((fEq_SeriesS a0 a1), ((), ()))) (([(0, .val false [.lst (.pair .str (.list (.pair (.int .i64) (.int .i64)))) a0 none]), (1, .val false [.lst (.pair .str (.list (.pair (.int .i64) (.int .i64)))) a1 none])] : List (Nat × Sv)) = [(0, .val false [.lst (.pair .str (.list (.pair (.int .i64) (.int .i64)))) a0 none]), (1, .val false [.lst (.pair .str (.list (.pair (.int .i64) (.int .i64)))) a1 none])] ∧ (eqLI a0 a1 (IntKind.wrap .i64 (y1 + (1 : Int)))) ∧ (eqLM a0 a1 (IntKind.wrap .i64 (y1 + (1 : Int)))) < (eqLM a0 a1 y1)))))))) (((true, ((), ())) : Bool × (Unit × Unit)) = ((fEq_SeriesS a0 a1), ((), ())))))))
def laws_eqSeriesS.L  (a0 : (List ((List UInt8) × (List (Int × Int))))) (a1 : (List ((List UInt8) × (List (Int × Int))))) : Nat → Option LoopAnn := fun p => Go.Proofs.Ytcbehcpmojnnfaa.Bv.look p [(58, { kp := { hold := [0, 1], slots := [5], boxes := [], rows := [] }, T := (.int .i64), I := fun st y => eqLI a0 a1 y, μ := fun st y => eqLM a0 a1 y })]

theorem laws_eqSeriesS.pure  (a0 : (List ((List UInt8) × (List (Int × Int))))) (a1 : (List ((List UInt8) × (List (Int × Int))))) (h : True) (hw : Wf c_laws_eqSeriesS.A (a0, a1)) : laws_eqSeriesS.F a0 a1 := by
  unfold laws_eqSeriesS.F
  have hw1 : a0.length ≤ 9223372036854775807 := hw.1.1
  simp only [forall_eq, true_and, and_true, caseB_iff, Prod.mk.injEq, decide_eq_true_eq, decide_eq_false_iff_not, Bool.not_eq_true', Bool.not_eq_false', bne_iff_ne, ne_eq, beq_iff_eq, Bool.not_true, Bool.not_false, beq_eq_false_iff_ne, bne_eq_false_iff_eq, List.length_append, List.length_cons, List.length_nil, List.append_nil, Nat.zero_add, decide_true, decide_false, eq_self_iff_true]
  refine ⟨fun h1 => ?_, fun h1 => ?_⟩
  · have : a0 ≠ a1 := fun e => by subst e; simp at h1
    simp [fEq_SeriesS, this]
  have hl : a0.length = a1.length := by omega
  refine ⟨⟨by omega, by omega, hl, by simp⟩, ?_⟩
  rintro i hI
  have h2 := hI.1
  have h3 := hI.2.1
  refine ⟨fun hi => ⟨h2, hi, h2, by omega, fun hne => ?_, fun he => ?_⟩, fun hi => ?_⟩
  · have : a0 ≠ a1 := fun e => by subst e; simp [fEq_Series] at hne
    simp [fEq_SeriesS, this]
  · have hg : a0.getD i.toNat (([] : (List UInt8)), ([] : (List (Int × Int)))) = a1.getD i.toNat (([] : (List UInt8)), ([] : (List (Int × Int)))) := by simpa only [fEq_Series, decide_eq_true_eq] using he
    rw [w64 (x := i + 1) (by omega) (by omega)]
    exact ⟨eqL_step hI hi hg, by unfold eqLM; omega⟩
  · have h6 := eqL_end hI hi
    simp [fEq_SeriesS, h6]

set_option maxRecDepth 100000 in
theorem laws_eqSeriesS.eq (i : El c_laws_eqSeriesS.I) (x : El c_laws_eqSeriesS.A) : vc tab (gam [(88, c_laws_eqSeries)] []) (laws_eqSeriesS.L x.1 x.2) (match Try.f50.body with | some c => c | none => .skip) 1 (initSt c_laws_eqSeriesS Try.f50.ntmps i x) (bodyK tab c_laws_eqSeriesS Try.f50.results.toList [4] i x) = laws_eqSeriesS.F x.1 x.2 := by kernel_rfl
theorem laws_eqSeriesS.ok : ConOk Try.prog 50 c_laws_eqSeriesS :=
  conOk_of_eq (con := c_laws_eqSeriesS) (tab := tab) (Γ := (gam [(88, c_laws_eqSeries)] [])) (fn := Try.f50) (c := (match Try.f50.body with | some c => c | none => .skip)) (fun i x => laws_eqSeriesS.L x.1 x.2) (fun i x => laws_eqSeriesS.F x.1 x.2) rfl tabOk (gam_cons ⟨_, Try.func88, rfl, rfl⟩ laws_eqSeries.ok (gam_nil _ [])) Try.func50 rfl [4] (by kernel_rfl) laws_eqSeriesS.eq fun i x h hi hw => laws_eqSeriesS.pure x.1 x.2 h hw

def c_mSeries (x : ((List UInt8) × (List (Int × Int)))) : Int := 1 + cL c_mPoint x.2
def m_Series (x : ((List UInt8) × (List (Int × Int)))) (k : Int) : ((List UInt8) × (List (Int × Int))) := ((fMT k), (mL c_mPoint m_Point x.2 (k + 1)))
def o_Series (x : ((List UInt8) × (List (Int × Int)))) (k : Int) : Bool := (decide (x.1 = fMT k)) && (oL c_mPoint o_Point x.2 (k + 1))
theorem ok_Series : ∀ (x : ((List UInt8) × (List (Int × Int)))) (k : Int), o_Series (m_Series x k) k = true ∧ c_mSeries (m_Series x k) = c_mSeries x := fun x k => by
  simp [o_Series, m_Series, c_mSeries, (oL_mL ok_Point _ _).1, (oL_mL ok_Point _ _).2]
theorem pos_Series : ∀ x : ((List UInt8) × (List (Int × Int))), 0 ≤ c_mSeries x := fun x => by
  have p0 := fun l => cL_pos pos_Point l
  have q0 := p0 x.2
  unfold c_mSeries; omega
def n_Part (x : (Int × (List (Int × Int)))) : Nat := (List.length x.2)
def fEq_Part (a b : (Int × (List (Int × Int)))) : Bool := decide (a = b)
def c_laws_eqPart : Con := { io := false, I := .unit, ownI := [], A := (.pair (.pair (.int .i64) (.list (.pair (.int .i64) (.int .i64)))) (.pair (.int .i64) (.list (.pair (.int .i64) (.int .i64))))), shA := [.agg 2, .agg 2], ownA := [], backA := [], B := .unit, R := .bool, shR := [(false, 1)], fresh := [], newR := false, pre := fun _ a => True, f := some fun _ a => ((fEq_Part a.1 a.2), ((), ())) }
def laws_eqPart.F  (a0 : (Int × (List (Int × Int)))) (a1 : (Int × (List (Int × Int)))) : Prop := (caseB (a0.1 != a1.1) (((false, ((), ())) : Bool × (Unit × Unit)) = ((fEq_Part a0 a1), ((), ()))) (True ∧ ∀ (r1 : Bool × (Unit × Unit)), ((r1 : Bool × (Unit × Unit)) = ((fEq_PointS a0.2 a1.2), ((), ()))) → (caseB (!r1.1) (((false, ((), ())) : Bool × (Unit × Unit)) = ((fEq_Part a0 a1), ((), ()))) (((true, ((), ())) : Bool × (Unit × Unit)) = ((fEq_Part a0 a1), ((), ()))))))
def laws_eqPart.L  (a0 : (Int × (List (Int × Int)))) (a1 : (Int × (List (Int × Int)))) : Nat → Option LoopAnn := fun p => Go.Proofs.Ytcbehcpmojnnfaa.Bv.look p []

theorem laws_eqPart.pure  (a0 : (Int × (List (Int × Int)))) (a1 : (Int × (List (Int × Int)))) (h : True) (hw : Wf c_laws_eqPart.A (a0, a1)) : laws_eqPart.F a0 a1 := by
  unfold laws_eqPart.F
  obtain ⟨x0, x1⟩ := a0
  obtain ⟨y0, y1⟩ := a1
  simp only [forall_eq, true_and, and_true, caseB_iff, Prod.mk.injEq, decide_eq_true_eq, decide_eq_false_iff_not, Bool.not_eq_true', Bool.not_eq_false', bne_iff_ne, ne_eq, beq_iff_eq, Bool.not_true, Bool.not_false, beq_eq_false_iff_ne, bne_eq_false_iff_eq, List.length_append, List.length_cons, List.length_nil, List.append_nil, Nat.zero_add, decide_true, decide_false, eq_self_iff_true, fEq_Part, fEq_PointS]
  repeat' (first | (refine And.intro ?_ ?_) | intro _)
  all_goals simp_all

set_option maxRecDepth 100000 in
theorem laws_eqPart.eq (i : El c_laws_eqPart.I) (x : El c_laws_eqPart.A) : vc tab (gam [(56, c_laws_eqPointS)] []) (laws_eqPart.L x.1 x.2) (match Try.f90.body with | some c => c | none => .skip) 1 (initSt c_laws_eqPart Try.f90.ntmps i x) (bodyK tab c_laws_eqPart Try.f90.results.toList [4] i x) = laws_eqPart.F x.1 x.2 := by kernel_rfl
theorem laws_eqPart.ok : ConOk Try.prog 90 c_laws_eqPart :=
  conOk_of_eq (con := c_laws_eqPart) (tab := tab) (Γ := (gam [(56, c_laws_eqPointS)] [])) (fn := Try.f90) (c := (match Try.f90.body with | some c => c | none => .skip)) (fun i x => laws_eqPart.L x.1 x.2) (fun i x => laws_eqPart.F x.1 x.2) rfl tabOk (gam_cons ⟨_, Try.func56, rfl, rfl⟩ laws_eqPointS.ok (gam_nil _ [])) Try.func90 rfl [4] (by kernel_rfl) laws_eqPart.eq fun i x h hi hw => laws_eqPart.pure x.1 x.2 h hw

def fEq_PartS (a b : List (Int × (List (Int × Int)))) : Bool := decide (a = b)
def c_laws_eqPartS : Con := { io := false, I := .unit, ownI := [], A := (.pair (.list (.pair (.int .i64) (.list (.pair (.int .i64) (.int .i64))))) (.list (.pair (.int .i64) (.list (.pair (.int .i64) (.int .i64)))))), shA := [.one, .one], ownA := [], backA := [], B := .unit, R := .bool, shR := [(false, 1)], fresh := [], newR := false, pre := fun _ a => True, f := some fun _ a => ((fEq_PartS a.1 a.2), ((), ())) }
def laws_eqPartS.F  (a0 : (List (Int × (List (Int × Int))))) (a1 : (List (Int × (List (Int × Int))))) : Prop := (caseB (((List.length a0 : Nat) : Int) != ((List.length a1 : Nat) : Int)) (((false, ((), ())) : Bool × (Unit × Unit)) = ((fEq_PartS a0 a1), ((), ()))) (([(0, .val false [.lst (.pair (.int .i64) (.list (.pair (.int .i64) (.int .i64)))) a0 none]), (1, .val false [.lst (.pair (.int .i64) (.list (.pair (.int .i64) (.int .i64)))) a1 none])] : List (Nat × Sv)) = [(0, .val false [.lst (.pair (.int .i64) (.list (.pair (.int .i64) (.int .i64)))) a0 none]), (1, .val false [.lst (.pair (.int .i64) (.list (.pair (.int .i64) (.int .i64)))) a1 none])] ∧ ((eqLI a0 a1 0) ∧ ∀ (y1 : Int), (eqLI a0 a1 y1) → (caseB (decide (y1 < ((List.length a0 : Nat) : Int))) (0 ≤ y1 ∧ (y1 < ((List.length a0 : Nat) : Int) ∧ (0 ≤ y1 ∧ (y1 < ((List.length a1 : Nat) : Int) ∧ (True ∧ ∀ (r2 : Bool × (Unit × Unit)), ((r2 : Bool × (Unit × Unit)) = ((fEq_Part ((List.getD a0 (Int.toNat y1) ((0 : Int), ([] : (List (Int × Int))))).1, (List.getD a0 (Int.toNat y1) ((0 : Int), ([] : (List (Int × Int))))).2) ((List.getD a1 (Int.toNat y1) ((0 : Int), ([] : (List (Int × Int))))).1, (List.getD a1 (Int.toNat y1) ((0 : Int), ([] : (List (Int × Int))))).2)), ((), ()))) → (caseB (!r2.1) (((false, ((), ())) : Bool × (Unit × Unit)) = ((fEq_PartS a0 a1), ((), ()))) (([(0, .val false [.lst (.pair (.int .i64) (.list (.pair (.int .i64) (.int .i64)))) a0 none]), (1, .val false [.lst (.pair (.int .i64) (.list (.pair (.int .i64) (.int .i64)))) a1 none])] : List (Nat × Sv)) = [(0, .val false [.lst (.pair (.int .i64) (.list (.pair (.int .i64) (.int .i64)))) a0 none]), (1, .val false [.lst (.pair (.int .i64) (.list (.pair (.int .i64) (.int .i64)))) a1 none])] ∧ (eqLI a0 a1 (IntKind.wrap .i64 (y1 + (1 : Int)))) ∧ (eqLM a0 a1 (IntKind.wrap .i64 (y1 + (1 : Int)))) < (eqLM a0 a1 y1)))))))) (((true, ((), ())) : Bool × (Unit × Unit)) = ((fEq_PartS a0 a1), ((), ())))))))
def laws_eqPartS.L  (a0 : (List (Int × (List (Int × Int))))) (a1 : (List (Int × (List (Int × Int))))) : Nat → Option LoopAnn := fun p => Go.Proofs.Ytcbehcpmojnnfaa.Bv.look p [(58, { kp := { hold := [0, 1], slots := [5], boxes := [], rows := [] }, T := (.int .i64), I := fun st y => eqLI a0 a1 y, μ := fun st y => eqLM a0 a1 y })]

theorem laws_eqPartS.pure  (a0 : (List (Int × (List (Int × Int))))) (a1 : (List (Int × (List (Int × Int))))) (h : True) (hw : Wf c_laws_eqPartS.A (a0, a1)) : laws_eqPartS.F a0 a1 := by
  unfold laws_eqPartS.F
  have hw1 : a0.length ≤ 9223372036854775807 := hw.1.1
  simp only [forall_eq, true_and, and_true, caseB_iff, Prod.mk.injEq, decide_eq_true_eq, decide_eq_false_iff_not, Bool.not_eq_true', Bool.not_eq_false', bne_iff_ne, ne_eq, beq_iff_eq, Bool.not_true, Bool.not_false, beq_eq_false_iff_ne, bne_eq_false_iff_eq, List.length_append, List.length_cons, List.length_nil, List.append_nil, Nat.zero_add, decide_true, decide_false, eq_self_iff_true]
  refine ⟨fun h1 => ?_, fun h1 => ?_⟩
  · have : a0 ≠ a1 := fun e => by subst e; simp at h1
    simp [fEq_PartS, this]
  have hl : a0.length = a1.length := by omega
  refine ⟨⟨by omega, by omega, hl, by simp⟩, ?_⟩
  rintro i hI
  have h2 := hI.1
  have h3 := hI.2.1
  refine ⟨fun hi => ⟨h2, hi, h2, by omega, fun hne => ?_, fun he => ?_⟩, fun hi => ?_⟩
  · have : a0 ≠ a1 := fun e => by subst e; simp [fEq_Part] at hne
    simp [fEq_PartS, this]
  · have hg : a0.getD i.toNat ((0 : Int), ([] : (List (Int × Int)))) = a1.getD i.toNat ((0 : Int), ([] : (List (Int × Int)))) := by simpa only [fEq_Part, decide_eq_true_eq] using he
    rw [w64 (x := i + 1) (by omega) (by omega)]
    exact ⟨eqL_step hI hi hg, by unfold eqLM; omega⟩
  · have h6 := eqL_end hI hi
    simp [fEq_PartS, h6]

set_option maxRecDepth 100000 in
theorem laws_eqPartS.eq (i : El c_laws_eqPartS.I) (x : El c_laws_eqPartS.A) : vc tab (gam [(90, c_laws_eqPart)] []) (laws_eqPartS.L x.1 x.2) (match Try.f55.body with | some c => c | none => .skip) 1 (initSt c_laws_eqPartS Try.f55.ntmps i x) (bodyK tab c_laws_eqPartS Try.f55.results.toList [4] i x) = laws_eqPartS.F x.1 x.2 := by kernel_rfl
theorem laws_eqPartS.ok : ConOk Try.prog 55 c_laws_eqPartS :=
  conOk_of_eq (con := c_laws_eqPartS) (tab := tab) (Γ := (gam [(90, c_laws_eqPart)] [])) (fn := Try.f55) (c := (match Try.f55.body with | some c => c | none => .skip)) (fun i x => laws_eqPartS.L x.1 x.2) (fun i x => laws_eqPartS.F x.1 x.2) rfl tabOk (gam_cons ⟨_, Try.func90, rfl, rfl⟩ laws_eqPart.ok (gam_nil _ [])) Try.func55 rfl [4] (by kernel_rfl) laws_eqPartS.eq fun i x h hi hw => laws_eqPartS.pure x.1 x.2 h hw

def c_mPart (x : (Int × (List (Int × Int)))) : Int := 1 + cL c_mPoint x.2
def m_Part (x : (Int × (List (Int × Int)))) (k : Int) : (Int × (List (Int × Int))) := (k, (mL c_mPoint m_Point x.2 (k + 1)))
def o_Part (x : (Int × (List (Int × Int)))) (k : Int) : Bool := (decide (x.1 = k)) && (oL c_mPoint o_Point x.2 (k + 1))
theorem ok_Part : ∀ (x : (Int × (List (Int × Int)))) (k : Int), o_Part (m_Part x k) k = true ∧ c_mPart (m_Part x k) = c_mPart x := fun x k => by
  simp [o_Part, m_Part, c_mPart, (oL_mL ok_Point _ _).1, (oL_mL ok_Point _ _).2]
theorem pos_Part : ∀ x : (Int × (List (Int × Int))), 0 ≤ c_mPart x := fun x => by
  have p0 := fun l => cL_pos pos_Point l
  have q0 := p0 x.2
  unfold c_mPart; omega
def pMk_PartS (l : List (Int × (List (Int × Int)))) (k : Int) : Prop := 0 ≤ k ∧ k + cL c_mPart l ≤ 4611686018427387904
def fMk_PartS (l : List (Int × (List (Int × Int)))) (k : Int) : Int × List (Int × (List (Int × Int))) := (k + cL c_mPart l, mL c_mPart m_Part l k)
def c_laws_markPartS : Con := { io := false, I := .unit, ownI := [], A := (.pair (.list (.pair (.int .i64) (.list (.pair (.int .i64) (.int .i64))))) (.int .i64)), shA := [.one, .one], ownA := [], backA := [(0, 79)], B := (.list (.pair (.int .i64) (.list (.pair (.int .i64) (.int .i64))))), R := (.int .i64), shR := [(false, 1)], fresh := [], newR := false, pre := fun _ a => (pMk_PartS a.1 a.2), f := some fun _ a => ((fMk_PartS a.1 a.2).1, ((), (fMk_PartS a.1 a.2).2)) }
def laws_markPartS.F  (a0 : (List (Int × (List (Int × Int))))) (a1 : Int) : Prop := (([(0, .val false [.own (.pair (.int .i64) (.list (.pair (.int .i64) (.int .i64)))) 2])] : List (Nat × Sv)) = [(0, .val false [.own (.pair (.int .i64) (.list (.pair (.int .i64) (.int .i64)))) 2])] ∧ ((mkI c_mPart m_Part a0 a1 a1 0 a0) ∧ ∀ (y1 : (Int × (Int × (List (Int × (List (Int × Int))))))), (mkI c_mPart m_Part a0 a1 y1.1 y1.2.1 y1.2.2) → (caseB (decide (y1.2.1 < ((List.length y1.2.2 : Nat) : Int))) (0 ≤ y1.2.1 ∧ (y1.2.1 < ((List.length y1.2.2 : Nat) : Int) ∧ (0 ≤ y1.2.1 ∧ (y1.2.1 < ((List.length (List.set y1.2.2 (Int.toNat y1.2.1) (y1.1, (List.getD y1.2.2 (Int.toNat y1.2.1) ((0 : Int), ([] : (List (Int × Int))))).2)) : Nat) : Int) ∧ ((pMk_PointS ((List.getD (List.set y1.2.2 (Int.toNat y1.2.1) (y1.1, (List.getD y1.2.2 (Int.toNat y1.2.1) ((0 : Int), ([] : (List (Int × Int))))).2)) (Int.toNat y1.2.1) ((0 : Int), ([] : (List (Int × Int))))).2) (IntKind.wrap .i64 (y1.1 + (1 : Int)))) ∧ ∀ (r2 : Int × (Unit × (List (Int × Int)))), ((r2 : Int × (Unit × (List (Int × Int)))) = ((fMk_PointS ((List.getD (List.set y1.2.2 (Int.toNat y1.2.1) (y1.1, (List.getD y1.2.2 (Int.toNat y1.2.1) ((0 : Int), ([] : (List (Int × Int))))).2)) (Int.toNat y1.2.1) ((0 : Int), ([] : (List (Int × Int))))).2) (IntKind.wrap .i64 (y1.1 + (1 : Int)))).1, ((), (fMk_PointS ((List.getD (List.set y1.2.2 (Int.toNat y1.2.1) (y1.1, (List.getD y1.2.2 (Int.toNat y1.2.1) ((0 : Int), ([] : (List (Int × Int))))).2)) (Int.toNat y1.2.1) ((0 : Int), ([] : (List (Int × Int))))).2) (IntKind.wrap .i64 (y1.1 + (1 : Int)))).2))) → (([(0, .val false [.own (.pair (.int .i64) (.list (.pair (.int .i64) (.int .i64)))) 2])] : List (Nat × Sv)) = [(0, .val false [.own (.pair (.int .i64) (.list (.pair (.int .i64) (.int .i64)))) 2])] ∧ (mkI c_mPart m_Part a0 a1 r2.1 (IntKind.wrap .i64 (y1.2.1 + (1 : Int))) (List.set (List.set y1.2.2 (Int.toNat y1.2.1) (y1.1, (List.getD y1.2.2 (Int.toNat y1.2.1) ((0 : Int), ([] : (List (Int × Int))))).2)) (Int.toNat y1.2.1) ((List.getD (List.set y1.2.2 (Int.toNat y1.2.1) (y1.1, (List.getD y1.2.2 (Int.toNat y1.2.1) ((0 : Int), ([] : (List (Int × Int))))).2)) (Int.toNat y1.2.1) ((0 : Int), ([] : (List (Int × Int))))).1, r2.2.2))) ∧ (mkM a0 a1 r2.1 (IntKind.wrap .i64 (y1.2.1 + (1 : Int))) (List.set (List.set y1.2.2 (Int.toNat y1.2.1) (y1.1, (List.getD y1.2.2 (Int.toNat y1.2.1) ((0 : Int), ([] : (List (Int × Int))))).2)) (Int.toNat y1.2.1) ((List.getD (List.set y1.2.2 (Int.toNat y1.2.1) (y1.1, (List.getD y1.2.2 (Int.toNat y1.2.1) ((0 : Int), ([] : (List (Int × Int))))).2)) (Int.toNat y1.2.1) ((0 : Int), ([] : (List (Int × Int))))).1, r2.2.2))) < (mkM a0 a1 y1.1 y1.2.1 y1.2.2))))))) (((y1.1, ((), y1.2.2)) : Int × (Unit × (List (Int × (List (Int × Int)))))) = ((fMk_PartS a0 a1).1, ((), (fMk_PartS a0 a1).2))))))
def laws_markPartS.L  (a0 : (List (Int × (List (Int × Int))))) (a1 : Int) : Nat → Option LoopAnn := fun p => Go.Proofs.Ytcbehcpmojnnfaa.Bv.look p [(26, { kp := { hold := [0], slots := [1, 5], boxes := [], rows := [{ bx := false, s := 0, i := 0, k := 2, e := 79, hot := true }] }, T := (.pair (.int .i64) (.pair (.int .i64) (.list (.pair (.int .i64) (.list (.pair (.int .i64) (.int .i64))))))), I := fun st y => mkI c_mPart m_Part a0 a1 y.1 y.2.1 y.2.2, μ := fun st y => mkM a0 a1 y.1 y.2.1 y.2.2 })]

theorem laws_markPartS.pure  (a0 : (List (Int × (List (Int × Int))))) (a1 : Int) (h : (pMk_PartS a0 a1)) (hw : Wf c_laws_markPartS.A (a0, a1)) : laws_markPartS.F a0 a1 := by
  unfold laws_markPartS.F
  obtain ⟨p1, p2⟩ := h
  have hw1 : a0.length ≤ 9223372036854775807 := hw.1.1
  simp only [forall_eq, true_and, and_true, caseB_iff, Prod.mk.injEq, decide_eq_true_eq, decide_eq_false_iff_not, Bool.not_eq_true', Bool.not_eq_false', bne_iff_ne, ne_eq, beq_iff_eq, Bool.not_true, Bool.not_false, beq_eq_false_iff_ne, bne_eq_false_iff_eq, List.length_append, List.length_cons, List.length_nil, List.append_nil, Nat.zero_add, decide_true, decide_false, eq_self_iff_true]
  refine ⟨⟨by omega, by omega, by simp [cL], by simp [mL]⟩, ?_⟩
  rintro ⟨k, i, l⟩ hI
  simp only at hI ⊢
  have hl := mk_len hI
  have h2 := hI.1
  have h3 := hI.2
  refine ⟨fun hi0 => ?_, fun hi0 => ?_⟩
  · have hi : i < (a0.length : Int) := by omega
    have hi' : i.toNat < l.length := by omega
    have hg := mk_at (d := ((0 : Int), ([] : (List (Int × Int))))) hI hi
    have hs := cL_split c_mPart ((0 : Int), ([] : (List (Int × Int)))) (l := a0) (i := i.toNat) (by omega)
    have hk := hI.3
    have c1 := cL_pos pos_Part (a0.take i.toNat)
    have c2 := cL_pos pos_Part (a0.drop (i.toNat + 1))
    have c3 := pos_Part (a0.getD i.toNat ((0 : Int), ([] : (List (Int × Int)))))
    have q0 := cL_pos pos_Point
    have r0 := q0 (a0.getD i.toNat ((0 : Int), ([] : (List (Int × Int))))).2
    have hmod : Int.tmod k 3 = k % 3 := Int.tmod_eq_emod_of_nonneg (by omega)
    have hc : c_mPart (a0.getD i.toNat ((0 : Int), ([] : (List (Int × Int))))) = c_mPart (a0.getD i.toNat ((0 : Int), ([] : (List (Int × Int))))) := rfl
    conv at hc => rhs; unfold c_mPart
    try simp only [hg, getD_set_self hi', List.set_set, List.length_set, fMk_PointS, pMk_PointS]
    try simp (disch := first | omega | simp_all) only [getD_set_self, List.set_set, List.length_set, hg, w64, pMT]
    repeat' (with_reducible (refine And.intro ?_ ?_))
    all_goals (first | omega | exact mk_step (d := ((0 : Int), ([] : (List (Int × Int))))) hI hi (by simp [m_Part, hmod]) (by omega) | (unfold mkM; omega) | skip)
  · obtain ⟨e1, e2⟩ := mk_end hI (by omega)
    exact ⟨e1, e2⟩

set_option maxRecDepth 100000 in
theorem laws_markPartS.eq (i : El c_laws_markPartS.I) (x : El c_laws_markPartS.A) : vc tab (gam [(57, c_laws_markPointS)] []) (laws_markPartS.L x.1 x.2) (match Try.f58.body with | some c => c | none => .skip) 1 (initSt c_laws_markPartS Try.f58.ntmps i x) (bodyK tab c_laws_markPartS Try.f58.results.toList [3] i x) = laws_markPartS.F x.1 x.2 := by kernel_rfl
theorem laws_markPartS.ok : ConOk Try.prog 58 c_laws_markPartS :=
  conOk_of_eq (con := c_laws_markPartS) (tab := tab) (Γ := (gam [(57, c_laws_markPointS)] [])) (fn := Try.f58) (c := (match Try.f58.body with | some c => c | none => .skip)) (fun i x => laws_markPartS.L x.1 x.2) (fun i x => laws_markPartS.F x.1 x.2) rfl tabOk (gam_cons ⟨_, Try.func57, rfl, rfl⟩ laws_markPointS.ok (gam_nil _ [])) Try.func58 rfl [3] (by kernel_rfl) laws_markPartS.eq fun i x h hi hw => laws_markPartS.pure x.1 x.2 h hw

def fHd_PartS (l : List (Int × (List (Int × Int)))) (k : Int) : Int := fHd (cL c_mPart l) (oL c_mPart o_Part l k) k
def c_laws_heldPartS : Con := { io := false, I := .unit, ownI := [], A := (.pair (.list (.pair (.int .i64) (.list (.pair (.int .i64) (.int .i64))))) (.int .i64)), shA := [.one, .one], ownA := [], backA := [], B := .unit, R := (.int .i64), shR := [(false, 1)], fresh := [], newR := false, pre := fun _ a => (pMk_PartS a.1 a.2), f := some fun _ a => ((fHd_PartS a.1 a.2), ((), ())) }
def laws_heldPartS.F  (a0 : (List (Int × (List (Int × Int))))) (a1 : Int) : Prop := (([(0, .val false [.lst (.pair (.int .i64) (.list (.pair (.int .i64) (.int .i64)))) a0 none])] : List (Nat × Sv)) = [(0, .val false [.lst (.pair (.int .i64) (.list (.pair (.int .i64) (.int .i64)))) a0 none])] ∧ ((hdI c_mPart o_Part a0 a1 a1 0) ∧ ∀ (y1 : (Int × Int)), (hdI c_mPart o_Part a0 a1 y1.1 y1.2) → (caseB (decide (y1.2 < ((List.length a0 : Nat) : Int))) (0 ≤ y1.2 ∧ (y1.2 < ((List.length a0 : Nat) : Int) ∧ (caseB (((List.getD a0 (Int.toNat y1.2) ((0 : Int), ([] : (List (Int × Int))))).1) != y1.1) ((((-1), ((), ())) : Int × (Unit × Unit)) = ((fHd_PartS a0 a1), ((), ()))) (0 ≤ y1.2 ∧ (y1.2 < ((List.length a0 : Nat) : Int) ∧ ((pMk_PointS ((List.getD a0 (Int.toNat y1.2) ((0 : Int), ([] : (List (Int × Int))))).2) (IntKind.wrap .i64 (y1.1 + (1 : Int)))) ∧ ∀ (r2 : Int × (Unit × Unit)), ((r2 : Int × (Unit × Unit)) = ((fHd_PointS ((List.getD a0 (Int.toNat y1.2) ((0 : Int), ([] : (List (Int × Int))))).2) (IntKind.wrap .i64 (y1.1 + (1 : Int)))), ((), ()))) → (caseB (decide (r2.1 < (0 : Int))) ((((-1), ((), ())) : Int × (Unit × Unit)) = ((fHd_PartS a0 a1), ((), ()))) (([(0, .val false [.lst (.pair (.int .i64) (.list (.pair (.int .i64) (.int .i64)))) a0 none])] : List (Nat × Sv)) = [(0, .val false [.lst (.pair (.int .i64) (.list (.pair (.int .i64) (.int .i64)))) a0 none])] ∧ (hdI c_mPart o_Part a0 a1 r2.1 (IntKind.wrap .i64 (y1.2 + (1 : Int)))) ∧ (hdM a0 a1 r2.1 (IntKind.wrap .i64 (y1.2 + (1 : Int)))) < (hdM a0 a1 y1.1 y1.2))))))))) (((y1.1, ((), ())) : Int × (Unit × Unit)) = ((fHd_PartS a0 a1), ((), ()))))))
def laws_heldPartS.L  (a0 : (List (Int × (List (Int × Int))))) (a1 : Int) : Nat → Option LoopAnn := fun p => Go.Proofs.Ytcbehcpmojnnfaa.Bv.look p [(26, { kp := { hold := [0], slots := [1, 5], boxes := [], rows := [] }, T := (.pair (.int .i64) (.int .i64)), I := fun st y => hdI c_mPart o_Part a0 a1 y.1 y.2, μ := fun st y => hdM a0 a1 y.1 y.2 })]

theorem laws_heldPartS.pure  (a0 : (List (Int × (List (Int × Int))))) (a1 : Int) (h : (pMk_PartS a0 a1)) (hw : Wf c_laws_heldPartS.A (a0, a1)) : laws_heldPartS.F a0 a1 := by
  unfold laws_heldPartS.F
  obtain ⟨p1, p2⟩ := h
  have hw1 : a0.length ≤ 9223372036854775807 := hw.1.1
  simp only [forall_eq, true_and, and_true, caseB_iff, Prod.mk.injEq, decide_eq_true_eq, decide_eq_false_iff_not, Bool.not_eq_true', Bool.not_eq_false', bne_iff_ne, ne_eq, beq_iff_eq, Bool.not_true, Bool.not_false, beq_eq_false_iff_ne, bne_eq_false_iff_eq, List.length_append, List.length_cons, List.length_nil, List.append_nil, Nat.zero_add, decide_true, decide_false, eq_self_iff_true]
  refine ⟨⟨by omega, by omega, by simp [cL], by simp⟩, ?_⟩
  rintro ⟨k, i⟩ hI
  simp only at hI ⊢
  have h2 := hI.1
  have h3 := hI.2
  refine ⟨fun hi => ?_, fun hi => hd_end hI hi⟩
  · have hs := cL_split c_mPart ((0 : Int), ([] : (List (Int × Int)))) (l := a0) (i := i.toNat) (by omega)
    have hk := hI.3
    have c1 := cL_pos pos_Part (a0.take i.toNat)
    have c2 := cL_pos pos_Part (a0.drop (i.toNat + 1))
    have c3 := pos_Part (a0.getD i.toNat ((0 : Int), ([] : (List (Int × Int)))))
    have q0 := cL_pos pos_Point
    have r0 := q0 (a0.getD i.toNat ((0 : Int), ([] : (List (Int × Int))))).2
    have hmod : Int.tmod k 3 = k % 3 := Int.tmod_eq_emod_of_nonneg (by omega)
    have no : o_Part (a0.getD i.toNat ((0 : Int), ([] : (List (Int × Int))))) k = false → -1 = fHd_PartS a0 a1 := fun ho => hd_no ((0 : Int), ([] : (List (Int × Int)))) hI hi ho
    have yes : o_Part (a0.getD i.toNat ((0 : Int), ([] : (List (Int × Int))))) k = true → hdI c_mPart o_Part a0 a1 (k + c_mPart (a0.getD i.toNat ((0 : Int), ([] : (List (Int × Int)))))) (i + 1) := fun ho => hd_step ((0 : Int), ([] : (List (Int × Int)))) hI hi ho rfl
    generalize a0.getD i.toNat ((0 : Int), ([] : (List (Int × Int)))) = x at *
    have hc : c_mPart x = c_mPart x := rfl
    conv at hc => rhs; unfold c_mPart
    simp only [o_Part] at no yes
    simp (disch := omega) only [w64, pMT, fHd_PointS, pMk_PointS]
    repeat' (with_reducible (first | (refine And.intro ?_ ?_) | intro _))
    all_goals (first | omega | (unfold hdM; omega) | skip)
    all_goals (try simp (disch := first | omega | assumption) only [fHd_neg, fHd_yes, w64, Bool.not_eq_false] at *)
    all_goals (try simp (disch := first | omega | assumption) only [fHd_neg, fHd_yes, w64, Bool.not_eq_false] at *)
    all_goals (first | omega | grind)

set_option maxRecDepth 100000 in
theorem laws_heldPartS.eq (i : El c_laws_heldPartS.I) (x : El c_laws_heldPartS.A) : vc tab (gam [(64, c_laws_heldPointS)] []) (laws_heldPartS.L x.1 x.2) (match Try.f59.body with | some c => c | none => .skip) 1 (initSt c_laws_heldPartS Try.f59.ntmps i x) (bodyK tab c_laws_heldPartS Try.f59.results.toList [3] i x) = laws_heldPartS.F x.1 x.2 := by kernel_rfl
theorem laws_heldPartS.ok : ConOk Try.prog 59 c_laws_heldPartS :=
  conOk_of_eq (con := c_laws_heldPartS) (tab := tab) (Γ := (gam [(64, c_laws_heldPointS)] [])) (fn := Try.f59) (c := (match Try.f59.body with | some c => c | none => .skip)) (fun i x => laws_heldPartS.L x.1 x.2) (fun i x => laws_heldPartS.F x.1 x.2) rfl tabOk (gam_cons ⟨_, Try.func64, rfl, rfl⟩ laws_heldPointS.ok (gam_nil _ [])) Try.func59 rfl [3] (by kernel_rfl) laws_heldPartS.eq fun i x h hi hw => laws_heldPartS.pure x.1 x.2 h hw

def n_Answer (x : (Int × (Int × (Int × (List UInt8))))) : Nat := (x.2.2.2.length)
def pSz_Answer (x : (Int × (Int × (Int × (List UInt8))))) (left : Int) : Prop := WfD (.pair (.int .i64) (.pair (.int .i64) (.pair (.int .i64) .str))) x ∧ 0 ≤ left ∧ left ≤ 1048576
def fSz_Answer (x : (Int × (Int × (Int × (List UInt8))))) (left : Int) : Int := fSz (n_Answer x) left
def c_laws_szAnswer : Con := { io := false, I := .unit, ownI := [], A := (.pair (.pair (.int .i64) (.pair (.int .i64) (.pair (.int .i64) .str))) (.int .i64)), shA := [.agg 4, .one], ownA := [], backA := [], B := .unit, R := (.int .i64), shR := [(false, 1)], fresh := [], newR := false, pre := fun _ a => (pSz_Answer a.1 a.2), f := some fun _ a => ((fSz_Answer a.1 a.2), ((), ())) }
def laws_szAnswer.F  (a0 : (Int × (Int × (Int × (List UInt8))))) (a1 : Int) : Prop := (caseB (decide ((IntKind.wrap .i64 (a1 - ((List.length a0.2.2.2 : Nat) : Int))) < (0 : Int))) ((((-1), ((), ())) : Int × (Unit × Unit)) = ((fSz_Answer a0 a1), ((), ()))) ((((IntKind.wrap .i64 (a1 - ((List.length a0.2.2.2 : Nat) : Int))), ((), ())) : Int × (Unit × Unit)) = ((fSz_Answer a0 a1), ((), ()))))
def laws_szAnswer.L  (a0 : (Int × (Int × (Int × (List UInt8))))) (a1 : Int) : Nat → Option LoopAnn := fun p => Go.Proofs.Ytcbehcpmojnnfaa.Bv.look p []

theorem laws_szAnswer.pure  (a0 : (Int × (Int × (Int × (List UInt8))))) (a1 : Int) (h : (pSz_Answer a0 a1)) (hw : Wf c_laws_szAnswer.A (a0, a1)) : laws_szAnswer.F a0 a1 := by
  unfold laws_szAnswer.F
  obtain ⟨hwf, p1, p2⟩ := h
  have w3 : a0.2.2.2.length ≤ 9223372036854775807 := hwf.2.2.2
  simp only [forall_eq, true_and, and_true, caseB_iff, Prod.mk.injEq, decide_eq_true_eq, decide_eq_false_iff_not, Bool.not_eq_true', Bool.not_eq_false', bne_iff_ne, ne_eq, beq_iff_eq, Bool.not_true, Bool.not_false, beq_eq_false_iff_ne, bne_eq_false_iff_eq, List.length_append, List.length_cons, List.length_nil, List.append_nil, Nat.zero_add, decide_true, decide_false, eq_self_iff_true, n_Answer, fSz_Answer]
  repeat' (with_reducible (first | (refine And.intro ?_ ?_) | intro _))
  all_goals (try simp (disch := omega) only [w64, wu8, tn0, tn1, tm1, tm2, List.length_append, List.length_cons, List.length_nil] at *)
  all_goals (try omega)
  all_goals (try grind [fSz])

set_option maxRecDepth 100000 in
theorem laws_szAnswer.eq (i : El c_laws_szAnswer.I) (x : El c_laws_szAnswer.A) : vc tab (gam [] []) (laws_szAnswer.L x.1 x.2) (match Try.f18.body with | some c => c | none => .skip) 1 (initSt c_laws_szAnswer Try.f18.ntmps i x) (bodyK tab c_laws_szAnswer Try.f18.results.toList [3] i x) = laws_szAnswer.F x.1 x.2 := by kernel_rfl
theorem laws_szAnswer.ok : ConOk Try.prog 18 c_laws_szAnswer :=
  conOk_of_eq (con := c_laws_szAnswer) (tab := tab) (Γ := (gam [] [])) (fn := Try.f18) (c := (match Try.f18.body with | some c => c | none => .skip)) (fun i x => laws_szAnswer.L x.1 x.2) (fun i x => laws_szAnswer.F x.1 x.2) rfl tabOk (gam_nil _ []) Try.func18 rfl [3] (by kernel_rfl) laws_szAnswer.eq fun i x h hi hw => laws_szAnswer.pure x.1 x.2 h hw

def pTo_Answer (x : (Int × (Int × (Int × (List UInt8))))) : Prop := n_Answer x ≤ 1048576
def fTo_Answer (x : (Int × (Int × (Int × (List UInt8))))) : (Int × (Int × (Int × (List UInt8)))) := x
def c_laws_toAnswer : Con := { io := false, I := .unit, ownI := [], A := (.pair (.int .i64) (.pair (.int .i64) (.pair (.int .i64) .str))), shA := [.agg 4], ownA := [], backA := [], B := .unit, R := (.pair (.int .i64) (.pair (.int .i64) (.pair (.int .i64) .str))), shR := [(true, 4)], fresh := [], newR := false, pre := fun _ a => (pTo_Answer a), f := some fun _ a => ((fTo_Answer a), ((), ())) }
def laws_toAnswer.F  (a0 : (Int × (Int × (Int × (List UInt8))))) : Prop := ((((a0.1, (a0.2.1, (a0.2.2.1, a0.2.2.2))), ((), ())) : (Int × (Int × (Int × (List UInt8)))) × (Unit × Unit)) = ((fTo_Answer a0), ((), ())))
def laws_toAnswer.L  (a0 : (Int × (Int × (Int × (List UInt8))))) : Nat → Option LoopAnn := fun p => Go.Proofs.Ytcbehcpmojnnfaa.Bv.look p []

theorem laws_toAnswer.pure  (a0 : (Int × (Int × (Int × (List UInt8))))) (h : (pTo_Answer a0)) (hw : Wf c_laws_toAnswer.A a0) : laws_toAnswer.F a0 := by
  unfold laws_toAnswer.F
  have hp : n_Answer a0 ≤ 1048576 := h
  simp only [n_Answer] at hp
  simp only [forall_eq, true_and, and_true, caseB_iff, Prod.mk.injEq, decide_eq_true_eq, decide_eq_false_iff_not, Bool.not_eq_true', Bool.not_eq_false', bne_iff_ne, ne_eq, beq_iff_eq, Bool.not_true, Bool.not_false, beq_eq_false_iff_ne, bne_eq_false_iff_eq, List.length_append, List.length_cons, List.length_nil, List.append_nil, Nat.zero_add, decide_true, decide_false, eq_self_iff_true, n_Answer, fTo_Answer, pTo_Answer]
  repeat' (with_reducible (first | (refine And.intro ?_ ?_) | intro _))
  all_goals (try simp (disch := omega) only [w64, wu8, tn0, tn1, tm1, tm2, List.length_append, List.length_cons, List.length_nil] at *)
  all_goals (try omega)
  all_goals (try grind [])

set_option maxRecDepth 100000 in
theorem laws_toAnswer.eq (i : El c_laws_toAnswer.I) (x : El c_laws_toAnswer.A) : vc tab (gam [] []) (laws_toAnswer.L x) (match Try.f20.body with | some c => c | none => .skip) 1 (initSt c_laws_toAnswer Try.f20.ntmps i x) (bodyK tab c_laws_toAnswer Try.f20.results.toList [28] i x) = laws_toAnswer.F x := by kernel_rfl
theorem laws_toAnswer.ok : ConOk Try.prog 20 c_laws_toAnswer :=
  conOk_of_eq (con := c_laws_toAnswer) (tab := tab) (Γ := (gam [] [])) (fn := Try.f20) (c := (match Try.f20.body with | some c => c | none => .skip)) (fun i x => laws_toAnswer.L x) (fun i x => laws_toAnswer.F x) rfl tabOk (gam_nil _ []) Try.func20 rfl [28] (by kernel_rfl) laws_toAnswer.eq fun i x h hi hw => laws_toAnswer.pure x h hw

def fEq_Answer (a b : (Int × (Int × (Int × (List UInt8))))) : Bool := decide (a = b)
def c_laws_eqAnswer : Con := { io := false, I := .unit, ownI := [], A := (.pair (.pair (.int .i64) (.pair (.int .i64) (.pair (.int .i64) .str))) (.pair (.int .i64) (.pair (.int .i64) (.pair (.int .i64) .str)))), shA := [.agg 4, .agg 4], ownA := [], backA := [], B := .unit, R := .bool, shR := [(false, 1)], fresh := [], newR := false, pre := fun _ a => True, f := some fun _ a => ((fEq_Answer a.1 a.2), ((), ())) }
def laws_eqAnswer.F  (a0 : (Int × (Int × (Int × (List UInt8))))) (a1 : (Int × (Int × (Int × (List UInt8))))) : Prop := (caseB (a0.1 != a1.1) (((false, ((), ())) : Bool × (Unit × Unit)) = ((fEq_Answer a0 a1), ((), ()))) (caseB (a0.2.1 != a1.2.1) (((false, ((), ())) : Bool × (Unit × Unit)) = ((fEq_Answer a0 a1), ((), ()))) (caseB (a0.2.2.1 != a1.2.2.1) (((false, ((), ())) : Bool × (Unit × Unit)) = ((fEq_Answer a0 a1), ((), ()))) (caseB (!(a0.2.2.2 == a1.2.2.2)) (((false, ((), ())) : Bool × (Unit × Unit)) = ((fEq_Answer a0 a1), ((), ()))) (((true, ((), ())) : Bool × (Unit × Unit)) = ((fEq_Answer a0 a1), ((), ())))))))
def laws_eqAnswer.L  (a0 : (Int × (Int × (Int × (List UInt8))))) (a1 : (Int × (Int × (Int × (List UInt8))))) : Nat → Option LoopAnn := fun p => Go.Proofs.Ytcbehcpmojnnfaa.Bv.look p []

theorem laws_eqAnswer.pure  (a0 : (Int × (Int × (Int × (List UInt8))))) (a1 : (Int × (Int × (Int × (List UInt8))))) (h : True) (hw : Wf c_laws_eqAnswer.A (a0, a1)) : laws_eqAnswer.F a0 a1 := by
  unfold laws_eqAnswer.F
  obtain ⟨x0, x1, x2, x3⟩ := a0
  obtain ⟨y0, y1, y2, y3⟩ := a1
  simp only [forall_eq, true_and, and_true, caseB_iff, Prod.mk.injEq, decide_eq_true_eq, decide_eq_false_iff_not, Bool.not_eq_true', Bool.not_eq_false', bne_iff_ne, ne_eq, beq_iff_eq, Bool.not_true, Bool.not_false, beq_eq_false_iff_ne, bne_eq_false_iff_eq, List.length_append, List.length_cons, List.length_nil, List.append_nil, Nat.zero_add, decide_true, decide_false, eq_self_iff_true, fEq_Answer]
  repeat' (first | (refine And.intro ?_ ?_) | intro _)
  all_goals simp_all

set_option maxRecDepth 100000 in
theorem laws_eqAnswer.eq (i : El c_laws_eqAnswer.I) (x : El c_laws_eqAnswer.A) : vc tab (gam [] []) (laws_eqAnswer.L x.1 x.2) (match Try.f31.body with | some c => c | none => .skip) 1 (initSt c_laws_eqAnswer Try.f31.ntmps i x) (bodyK tab c_laws_eqAnswer Try.f31.results.toList [4] i x) = laws_eqAnswer.F x.1 x.2 := by kernel_rfl
theorem laws_eqAnswer.ok : ConOk Try.prog 31 c_laws_eqAnswer :=
  conOk_of_eq (con := c_laws_eqAnswer) (tab := tab) (Γ := (gam [] [])) (fn := Try.f31) (c := (match Try.f31.body with | some c => c | none => .skip)) (fun i x => laws_eqAnswer.L x.1 x.2) (fun i x => laws_eqAnswer.F x.1 x.2) rfl tabOk (gam_nil _ []) Try.func31 rfl [4] (by kernel_rfl) laws_eqAnswer.eq fun i x h hi hw => laws_eqAnswer.pure x.1 x.2 h hw

def c_mAnswer (x : (Int × (Int × (Int × (List UInt8))))) : Int := 1 + 1 + 1 + 1
def m_Answer (x : (Int × (Int × (Int × (List UInt8))))) (k : Int) : (Int × (Int × (Int × (List UInt8)))) := (k, (k + 1), ((k + 1) + 1), (fMT (((k + 1) + 1) + 1)))
def o_Answer (x : (Int × (Int × (Int × (List UInt8))))) (k : Int) : Bool := (decide (x.1 = k)) && (decide (x.2.1 = (k + 1))) && (decide (x.2.2.1 = ((k + 1) + 1))) && (decide (x.2.2.2 = fMT (((k + 1) + 1) + 1)))
theorem ok_Answer : ∀ (x : (Int × (Int × (Int × (List UInt8))))) (k : Int), o_Answer (m_Answer x k) k = true ∧ c_mAnswer (m_Answer x k) = c_mAnswer x := fun x k => by
  simp [o_Answer, m_Answer, c_mAnswer]
theorem pos_Answer : ∀ x : (Int × (Int × (Int × (List UInt8)))), 0 ≤ c_mAnswer x := fun x => by
  unfold c_mAnswer; omega
def n_Bucket (x : (Int × Int)) : Nat := 0
def fEq_Bucket (a b : (Int × Int)) : Bool := decide (a = b)
def c_laws_eqBucket : Con := { io := false, I := .unit, ownI := [], A := (.pair (.pair (.int .i64) (.int .i64)) (.pair (.int .i64) (.int .i64))), shA := [.agg 2, .agg 2], ownA := [], backA := [], B := .unit, R := .bool, shR := [(false, 1)], fresh := [], newR := false, pre := fun _ a => True, f := some fun _ a => ((fEq_Bucket a.1 a.2), ((), ())) }
def laws_eqBucket.F  (a0 : (Int × Int)) (a1 : (Int × Int)) : Prop := (caseB (a0.1 != a1.1) (((false, ((), ())) : Bool × (Unit × Unit)) = ((fEq_Bucket a0 a1), ((), ()))) (caseB (a0.2 != a1.2) (((false, ((), ())) : Bool × (Unit × Unit)) = ((fEq_Bucket a0 a1), ((), ()))) (((true, ((), ())) : Bool × (Unit × Unit)) = ((fEq_Bucket a0 a1), ((), ())))))
def laws_eqBucket.L  (a0 : (Int × Int)) (a1 : (Int × Int)) : Nat → Option LoopAnn := fun p => Go.Proofs.Ytcbehcpmojnnfaa.Bv.look p []

theorem laws_eqBucket.pure  (a0 : (Int × Int)) (a1 : (Int × Int)) (h : True) (hw : Wf c_laws_eqBucket.A (a0, a1)) : laws_eqBucket.F a0 a1 := by
  unfold laws_eqBucket.F
  obtain ⟨x0, x1⟩ := a0
  obtain ⟨y0, y1⟩ := a1
  simp only [forall_eq, true_and, and_true, caseB_iff, Prod.mk.injEq, decide_eq_true_eq, decide_eq_false_iff_not, Bool.not_eq_true', Bool.not_eq_false', bne_iff_ne, ne_eq, beq_iff_eq, Bool.not_true, Bool.not_false, beq_eq_false_iff_ne, bne_eq_false_iff_eq, List.length_append, List.length_cons, List.length_nil, List.append_nil, Nat.zero_add, decide_true, decide_false, eq_self_iff_true, fEq_Bucket]
  repeat' (first | (refine And.intro ?_ ?_) | intro _)
  all_goals simp_all

set_option maxRecDepth 100000 in
theorem laws_eqBucket.eq (i : El c_laws_eqBucket.I) (x : El c_laws_eqBucket.A) : vc tab (gam [] []) (laws_eqBucket.L x.1 x.2) (match Try.f75.body with | some c => c | none => .skip) 1 (initSt c_laws_eqBucket Try.f75.ntmps i x) (bodyK tab c_laws_eqBucket Try.f75.results.toList [4] i x) = laws_eqBucket.F x.1 x.2 := by kernel_rfl
theorem laws_eqBucket.ok : ConOk Try.prog 75 c_laws_eqBucket :=
  conOk_of_eq (con := c_laws_eqBucket) (tab := tab) (Γ := (gam [] [])) (fn := Try.f75) (c := (match Try.f75.body with | some c => c | none => .skip)) (fun i x => laws_eqBucket.L x.1 x.2) (fun i x => laws_eqBucket.F x.1 x.2) rfl tabOk (gam_nil _ []) Try.func75 rfl [4] (by kernel_rfl) laws_eqBucket.eq fun i x h hi hw => laws_eqBucket.pure x.1 x.2 h hw

def fEq_BucketS (a b : List (Int × Int)) : Bool := decide (a = b)
def c_laws_eqBucketS : Con := { io := false, I := .unit, ownI := [], A := (.pair (.list (.pair (.int .i64) (.int .i64))) (.list (.pair (.int .i64) (.int .i64)))), shA := [.one, .one], ownA := [], backA := [], B := .unit, R := .bool, shR := [(false, 1)], fresh := [], newR := false, pre := fun _ a => True, f := some fun _ a => ((fEq_BucketS a.1 a.2), ((), ())) }
def laws_eqBucketS.F  (a0 : (List (Int × Int))) (a1 : (List (Int × Int))) : Prop := (caseB (((List.length a0 : Nat) : Int) != ((List.length a1 : Nat) : Int)) (((false, ((), ())) : Bool × (Unit × Unit)) = ((fEq_BucketS a0 a1), ((), ()))) (([(0, .val false [.lst (.pair (.int .i64) (.int .i64)) a0 none]), (1, .val false [.lst (.pair (.int .i64) (.int .i64)) a1 none])] : List (Nat × Sv)) = [(0, .val false [.lst (.pair (.int .i64) (.int .i64)) a0 none]), (1, .val false [.lst (.pair (.int .i64) (.int .i64)) a1 none])] ∧ ((eqLI a0 a1 0) ∧ ∀ (y1 : Int), (eqLI a0 a1 y1) → (caseB (decide (y1 < ((List.length a0 : Nat) : Int))) (0 ≤ y1 ∧ (y1 < ((List.length a0 : Nat) : Int) ∧ (0 ≤ y1 ∧ (y1 < ((List.length a1 : Nat) : Int) ∧ (True ∧ ∀ (r2 : Bool × (Unit × Unit)), ((r2 : Bool × (Unit × Unit)) = ((fEq_Bucket ((List.getD a0 (Int.toNat y1) ((0 : Int), (0 : Int))).1, (List.getD a0 (Int.toNat y1) ((0 : Int), (0 : Int))).2) ((List.getD a1 (Int.toNat y1) ((0 : Int), (0 : Int))).1, (List.getD a1 (Int.toNat y1) ((0 : Int), (0 : Int))).2)), ((), ()))) → (caseB (!r2.1) (((false, ((), ())) : Bool × (Unit × Unit)) = ((fEq_BucketS a0 a1), ((), ()))) (([(0, .val false [.lst (.pair (.int .i64) (.int .i64)) a0 none]), (1, .val false [.lst (.pair (.int .i64) (.int .i64)) a1 none])] : List (Nat × Sv)) = [(0, .val false [.lst (.pair (.int .i64) (.int .i64)) a0 none]), (1, .val false [.lst (.pair (.int .i64) (.int .i64)) a1 none])] ∧ (eqLI a0 a1 (IntKind.wrap .i64 (y1 + (1 : Int)))) ∧ (eqLM a0 a1 (IntKind.wrap .i64 (y1 + (1 : Int)))) < (eqLM a0 a1 y1)))))))) (((true, ((), ())) : Bool × (Unit × Unit)) = ((fEq_BucketS a0 a1), ((), ())))))))
def laws_eqBucketS.L  (a0 : (List (Int × Int))) (a1 : (List (Int × Int))) : Nat → Option LoopAnn := fun p => Go.Proofs.Ytcbehcpmojnnfaa.Bv.look p [(58, { kp := { hold := [0, 1], slots := [5], boxes := [], rows := [] }, T := (.int .i64), I := fun st y => eqLI a0 a1 y, μ := fun st y => eqLM a0 a1 y })]

theorem laws_eqBucketS.pure  (a0 : (List (Int × Int))) (a1 : (List (Int × Int))) (h : True) (hw : Wf c_laws_eqBucketS.A (a0, a1)) : laws_eqBucketS.F a0 a1 := by
  unfold laws_eqBucketS.F
  have hw1 : a0.length ≤ 9223372036854775807 := hw.1.1
  simp only [forall_eq, true_and, and_true, caseB_iff, Prod.mk.injEq, decide_eq_true_eq, decide_eq_false_iff_not, Bool.not_eq_true', Bool.not_eq_false', bne_iff_ne, ne_eq, beq_iff_eq, Bool.not_true, Bool.not_false, beq_eq_false_iff_ne, bne_eq_false_iff_eq, List.length_append, List.length_cons, List.length_nil, List.append_nil, Nat.zero_add, decide_true, decide_false, eq_self_iff_true]
  refine ⟨fun h1 => ?_, fun h1 => ?_⟩
  · have : a0 ≠ a1 := fun e => by subst e; simp at h1
    simp [fEq_BucketS, this]
  have hl : a0.length = a1.length := by omega
  refine ⟨⟨by omega, by omega, hl, by simp⟩, ?_⟩
  rintro i hI
  have h2 := hI.1
  have h3 := hI.2.1
  refine ⟨fun hi => ⟨h2, hi, h2, by omega, fun hne => ?_, fun he => ?_⟩, fun hi => ?_⟩
  · have : a0 ≠ a1 := fun e => by subst e; simp [fEq_Bucket] at hne
    simp [fEq_BucketS, this]
  · have hg : a0.getD i.toNat ((0 : Int), (0 : Int)) = a1.getD i.toNat ((0 : Int), (0 : Int)) := by simpa only [fEq_Bucket, decide_eq_true_eq] using he
    rw [w64 (x := i + 1) (by omega) (by omega)]
    exact ⟨eqL_step hI hi hg, by unfold eqLM; omega⟩
  · have h6 := eqL_end hI hi
    simp [fEq_BucketS, h6]

set_option maxRecDepth 100000 in
theorem laws_eqBucketS.eq (i : El c_laws_eqBucketS.I) (x : El c_laws_eqBucketS.A) : vc tab (gam [(75, c_laws_eqBucket)] []) (laws_eqBucketS.L x.1 x.2) (match Try.f34.body with | some c => c | none => .skip) 1 (initSt c_laws_eqBucketS Try.f34.ntmps i x) (bodyK tab c_laws_eqBucketS Try.f34.results.toList [4] i x) = laws_eqBucketS.F x.1 x.2 := by kernel_rfl
theorem laws_eqBucketS.ok : ConOk Try.prog 34 c_laws_eqBucketS :=
  conOk_of_eq (con := c_laws_eqBucketS) (tab := tab) (Γ := (gam [(75, c_laws_eqBucket)] [])) (fn := Try.f34) (c := (match Try.f34.body with | some c => c | none => .skip)) (fun i x => laws_eqBucketS.L x.1 x.2) (fun i x => laws_eqBucketS.F x.1 x.2) rfl tabOk (gam_cons ⟨_, Try.func75, rfl, rfl⟩ laws_eqBucket.ok (gam_nil _ [])) Try.func34 rfl [4] (by kernel_rfl) laws_eqBucketS.eq fun i x h hi hw => laws_eqBucketS.pure x.1 x.2 h hw

def c_mBucket (x : (Int × Int)) : Int := 1 + 1
def m_Bucket (x : (Int × Int)) (k : Int) : (Int × Int) := (k, (k + 1))
def o_Bucket (x : (Int × Int)) (k : Int) : Bool := (decide (x.1 = k)) && (decide (x.2 = (k + 1)))
theorem ok_Bucket : ∀ (x : (Int × Int)) (k : Int), o_Bucket (m_Bucket x k) k = true ∧ c_mBucket (m_Bucket x k) = c_mBucket x := fun x k => by
  simp [o_Bucket, m_Bucket, c_mBucket]
theorem pos_Bucket : ∀ x : (Int × Int), 0 ≤ c_mBucket x := fun x => by
  unfold c_mBucket; omega
def pMk_BucketS (l : List (Int × Int)) (k : Int) : Prop := 0 ≤ k ∧ k + cL c_mBucket l ≤ 4611686018427387904
def fMk_BucketS (l : List (Int × Int)) (k : Int) : Int × List (Int × Int) := (k + cL c_mBucket l, mL c_mBucket m_Bucket l k)
def c_laws_markBucketS : Con := { io := false, I := .unit, ownI := [], A := (.pair (.list (.pair (.int .i64) (.int .i64))) (.int .i64)), shA := [.one, .one], ownA := [], backA := [(0, 94)], B := (.list (.pair (.int .i64) (.int .i64))), R := (.int .i64), shR := [(false, 1)], fresh := [], newR := false, pre := fun _ a => (pMk_BucketS a.1 a.2), f := some fun _ a => ((fMk_BucketS a.1 a.2).1, ((), (fMk_BucketS a.1 a.2).2)) }
def laws_markBucketS.F  (a0 : (List (Int × Int))) (a1 : Int) : Prop := (([(0, .val false [.own (.pair (.int .i64) (.int .i64)) 2])] : List (Nat × Sv)) = [(0, .val false [.own (.pair (.int .i64) (.int .i64)) 2])] ∧ ((mkI c_mBucket m_Bucket a0 a1 a1 0 a0) ∧ ∀ (y1 : (Int × (Int × (List (Int × Int))))), (mkI c_mBucket m_Bucket a0 a1 y1.1 y1.2.1 y1.2.2) → (caseB (decide (y1.2.1 < ((List.length y1.2.2 : Nat) : Int))) (0 ≤ y1.2.1 ∧ (y1.2.1 < ((List.length y1.2.2 : Nat) : Int) ∧ (0 ≤ y1.2.1 ∧ (y1.2.1 < ((List.length (List.set y1.2.2 (Int.toNat y1.2.1) (y1.1, (List.getD y1.2.2 (Int.toNat y1.2.1) ((0 : Int), (0 : Int))).2)) : Nat) : Int) ∧ (([(0, .val false [.own (.pair (.int .i64) (.int .i64)) 2])] : List (Nat × Sv)) = [(0, .val false [.own (.pair (.int .i64) (.int .i64)) 2])] ∧ (mkI c_mBucket m_Bucket a0 a1 (IntKind.wrap .i64 ((IntKind.wrap .i64 (y1.1 + (1 : Int))) + (1 : Int))) (IntKind.wrap .i64 (y1.2.1 + (1 : Int))) (List.set (List.set y1.2.2 (Int.toNat y1.2.1) (y1.1, (List.getD y1.2.2 (Int.toNat y1.2.1) ((0 : Int), (0 : Int))).2)) (Int.toNat y1.2.1) ((List.getD (List.set y1.2.2 (Int.toNat y1.2.1) (y1.1, (List.getD y1.2.2 (Int.toNat y1.2.1) ((0 : Int), (0 : Int))).2)) (Int.toNat y1.2.1) ((0 : Int), (0 : Int))).1, (IntKind.wrap .i64 (y1.1 + (1 : Int)))))) ∧ (mkM a0 a1 (IntKind.wrap .i64 ((IntKind.wrap .i64 (y1.1 + (1 : Int))) + (1 : Int))) (IntKind.wrap .i64 (y1.2.1 + (1 : Int))) (List.set (List.set y1.2.2 (Int.toNat y1.2.1) (y1.1, (List.getD y1.2.2 (Int.toNat y1.2.1) ((0 : Int), (0 : Int))).2)) (Int.toNat y1.2.1) ((List.getD (List.set y1.2.2 (Int.toNat y1.2.1) (y1.1, (List.getD y1.2.2 (Int.toNat y1.2.1) ((0 : Int), (0 : Int))).2)) (Int.toNat y1.2.1) ((0 : Int), (0 : Int))).1, (IntKind.wrap .i64 (y1.1 + (1 : Int)))))) < (mkM a0 a1 y1.1 y1.2.1 y1.2.2)))))) (((y1.1, ((), y1.2.2)) : Int × (Unit × (List (Int × Int)))) = ((fMk_BucketS a0 a1).1, ((), (fMk_BucketS a0 a1).2))))))
def laws_markBucketS.L  (a0 : (List (Int × Int))) (a1 : Int) : Nat → Option LoopAnn := fun p => Go.Proofs.Ytcbehcpmojnnfaa.Bv.look p [(26, { kp := { hold := [0], slots := [1, 5], boxes := [], rows := [{ bx := false, s := 0, i := 0, k := 2, e := 94, hot := true }] }, T := (.pair (.int .i64) (.pair (.int .i64) (.list (.pair (.int .i64) (.int .i64))))), I := fun st y => mkI c_mBucket m_Bucket a0 a1 y.1 y.2.1 y.2.2, μ := fun st y => mkM a0 a1 y.1 y.2.1 y.2.2 })]

theorem laws_markBucketS.pure  (a0 : (List (Int × Int))) (a1 : Int) (h : (pMk_BucketS a0 a1)) (hw : Wf c_laws_markBucketS.A (a0, a1)) : laws_markBucketS.F a0 a1 := by
  unfold laws_markBucketS.F
  obtain ⟨p1, p2⟩ := h
  have hw1 : a0.length ≤ 9223372036854775807 := hw.1.1
  simp only [forall_eq, true_and, and_true, caseB_iff, Prod.mk.injEq, decide_eq_true_eq, decide_eq_false_iff_not, Bool.not_eq_true', Bool.not_eq_false', bne_iff_ne, ne_eq, beq_iff_eq, Bool.not_true, Bool.not_false, beq_eq_false_iff_ne, bne_eq_false_iff_eq, List.length_append, List.length_cons, List.length_nil, List.append_nil, Nat.zero_add, decide_true, decide_false, eq_self_iff_true]
  refine ⟨⟨by omega, by omega, by simp [cL], by simp [mL]⟩, ?_⟩
  rintro ⟨k, i, l⟩ hI
  simp only at hI ⊢
  have hl := mk_len hI
  have h2 := hI.1
  have h3 := hI.2
  refine ⟨fun hi0 => ?_, fun hi0 => ?_⟩
  · have hi : i < (a0.length : Int) := by omega
    have hi' : i.toNat < l.length := by omega
    have hg := mk_at (d := ((0 : Int), (0 : Int))) hI hi
    have hs := cL_split c_mBucket ((0 : Int), (0 : Int)) (l := a0) (i := i.toNat) (by omega)
    have hk := hI.3
    have c1 := cL_pos pos_Bucket (a0.take i.toNat)
    have c2 := cL_pos pos_Bucket (a0.drop (i.toNat + 1))
    have c3 := pos_Bucket (a0.getD i.toNat ((0 : Int), (0 : Int)))
    have hmod : Int.tmod k 3 = k % 3 := Int.tmod_eq_emod_of_nonneg (by omega)
    have hc : c_mBucket (a0.getD i.toNat ((0 : Int), (0 : Int))) = c_mBucket (a0.getD i.toNat ((0 : Int), (0 : Int))) := rfl
    conv at hc => rhs; unfold c_mBucket
    try simp only [hg, getD_set_self hi', List.set_set, List.length_set]
    try simp (disch := first | omega | simp_all) only [getD_set_self, List.set_set, List.length_set, hg, w64, pMT]
    repeat' (with_reducible (refine And.intro ?_ ?_))
    all_goals (first | omega | exact mk_step (d := ((0 : Int), (0 : Int))) hI hi (by simp [m_Bucket, hmod]) (by omega) | (unfold mkM; omega) | skip)
  · obtain ⟨e1, e2⟩ := mk_end hI (by omega)
    exact ⟨e1, e2⟩

set_option maxRecDepth 100000 in
theorem laws_markBucketS.eq (i : El c_laws_markBucketS.I) (x : El c_laws_markBucketS.A) : vc tab (gam [] []) (laws_markBucketS.L x.1 x.2) (match Try.f35.body with | some c => c | none => .skip) 1 (initSt c_laws_markBucketS Try.f35.ntmps i x) (bodyK tab c_laws_markBucketS Try.f35.results.toList [3] i x) = laws_markBucketS.F x.1 x.2 := by kernel_rfl
theorem laws_markBucketS.ok : ConOk Try.prog 35 c_laws_markBucketS :=
  conOk_of_eq (con := c_laws_markBucketS) (tab := tab) (Γ := (gam [] [])) (fn := Try.f35) (c := (match Try.f35.body with | some c => c | none => .skip)) (fun i x => laws_markBucketS.L x.1 x.2) (fun i x => laws_markBucketS.F x.1 x.2) rfl tabOk (gam_nil _ []) Try.func35 rfl [3] (by kernel_rfl) laws_markBucketS.eq fun i x h hi hw => laws_markBucketS.pure x.1 x.2 h hw

def fHd_BucketS (l : List (Int × Int)) (k : Int) : Int := fHd (cL c_mBucket l) (oL c_mBucket o_Bucket l k) k
def c_laws_heldBucketS : Con := { io := false, I := .unit, ownI := [], A := (.pair (.list (.pair (.int .i64) (.int .i64))) (.int .i64)), shA := [.one, .one], ownA := [], backA := [], B := .unit, R := (.int .i64), shR := [(false, 1)], fresh := [], newR := false, pre := fun _ a => (pMk_BucketS a.1 a.2), f := some fun _ a => ((fHd_BucketS a.1 a.2), ((), ())) }
def laws_heldBucketS.F  (a0 : (List (Int × Int))) (a1 : Int) : Prop := (([(0, .val false [.lst (.pair (.int .i64) (.int .i64)) a0 none])] : List (Nat × Sv)) = [(0, .val false [.lst (.pair (.int .i64) (.int .i64)) a0 none])] ∧ ((hdI c_mBucket o_Bucket a0 a1 a1 0) ∧ ∀ (y1 : (Int × Int)), (hdI c_mBucket o_Bucket a0 a1 y1.1 y1.2) → (caseB (decide (y1.2 < ((List.length a0 : Nat) : Int))) (0 ≤ y1.2 ∧ (y1.2 < ((List.length a0 : Nat) : Int) ∧ (caseB (((List.getD a0 (Int.toNat y1.2) ((0 : Int), (0 : Int))).1) != y1.1) ((((-1), ((), ())) : Int × (Unit × Unit)) = ((fHd_BucketS a0 a1), ((), ()))) (0 ≤ y1.2 ∧ (y1.2 < ((List.length a0 : Nat) : Int) ∧ (caseB (((List.getD a0 (Int.toNat y1.2) ((0 : Int), (0 : Int))).2) != (IntKind.wrap .i64 (y1.1 + (1 : Int)))) ((((-1), ((), ())) : Int × (Unit × Unit)) = ((fHd_BucketS a0 a1), ((), ()))) (([(0, .val false [.lst (.pair (.int .i64) (.int .i64)) a0 none])] : List (Nat × Sv)) = [(0, .val false [.lst (.pair (.int .i64) (.int .i64)) a0 none])] ∧ (hdI c_mBucket o_Bucket a0 a1 (IntKind.wrap .i64 ((IntKind.wrap .i64 (y1.1 + (1 : Int))) + (1 : Int))) (IntKind.wrap .i64 (y1.2 + (1 : Int)))) ∧ (hdM a0 a1 (IntKind.wrap .i64 ((IntKind.wrap .i64 (y1.1 + (1 : Int))) + (1 : Int))) (IntKind.wrap .i64 (y1.2 + (1 : Int)))) < (hdM a0 a1 y1.1 y1.2)))))))) (((y1.1, ((), ())) : Int × (Unit × Unit)) = ((fHd_BucketS a0 a1), ((), ()))))))
def laws_heldBucketS.L  (a0 : (List (Int × Int))) (a1 : Int) : Nat → Option LoopAnn := fun p => Go.Proofs.Ytcbehcpmojnnfaa.Bv.look p [(26, { kp := { hold := [0], slots := [1, 5], boxes := [], rows := [] }, T := (.pair (.int .i64) (.int .i64)), I := fun st y => hdI c_mBucket o_Bucket a0 a1 y.1 y.2, μ := fun st y => hdM a0 a1 y.1 y.2 })]

theorem laws_heldBucketS.pure  (a0 : (List (Int × Int))) (a1 : Int) (h : (pMk_BucketS a0 a1)) (hw : Wf c_laws_heldBucketS.A (a0, a1)) : laws_heldBucketS.F a0 a1 := by
  unfold laws_heldBucketS.F
  obtain ⟨p1, p2⟩ := h
  have hw1 : a0.length ≤ 9223372036854775807 := hw.1.1
  simp only [forall_eq, true_and, and_true, caseB_iff, Prod.mk.injEq, decide_eq_true_eq, decide_eq_false_iff_not, Bool.not_eq_true', Bool.not_eq_false', bne_iff_ne, ne_eq, beq_iff_eq, Bool.not_true, Bool.not_false, beq_eq_false_iff_ne, bne_eq_false_iff_eq, List.length_append, List.length_cons, List.length_nil, List.append_nil, Nat.zero_add, decide_true, decide_false, eq_self_iff_true]
  refine ⟨⟨by omega, by omega, by simp [cL], by simp⟩, ?_⟩
  rintro ⟨k, i⟩ hI
  simp only at hI ⊢
  have h2 := hI.1
  have h3 := hI.2
  refine ⟨fun hi => ?_, fun hi => hd_end hI hi⟩
  · have hs := cL_split c_mBucket ((0 : Int), (0 : Int)) (l := a0) (i := i.toNat) (by omega)
    have hk := hI.3
    have c1 := cL_pos pos_Bucket (a0.take i.toNat)
    have c2 := cL_pos pos_Bucket (a0.drop (i.toNat + 1))
    have c3 := pos_Bucket (a0.getD i.toNat ((0 : Int), (0 : Int)))
    have hmod : Int.tmod k 3 = k % 3 := Int.tmod_eq_emod_of_nonneg (by omega)
    have no : o_Bucket (a0.getD i.toNat ((0 : Int), (0 : Int))) k = false → -1 = fHd_BucketS a0 a1 := fun ho => hd_no ((0 : Int), (0 : Int)) hI hi ho
    have yes : o_Bucket (a0.getD i.toNat ((0 : Int), (0 : Int))) k = true → hdI c_mBucket o_Bucket a0 a1 (k + c_mBucket (a0.getD i.toNat ((0 : Int), (0 : Int)))) (i + 1) := fun ho => hd_step ((0 : Int), (0 : Int)) hI hi ho rfl
    generalize a0.getD i.toNat ((0 : Int), (0 : Int)) = x at *
    have hc : c_mBucket x = c_mBucket x := rfl
    conv at hc => rhs; unfold c_mBucket
    simp only [o_Bucket] at no yes
    simp (disch := omega) only [w64, pMT]
    repeat' (with_reducible (first | (refine And.intro ?_ ?_) | intro _))
    all_goals (first | omega | (unfold hdM; omega) | skip)
    all_goals (try simp (disch := first | omega | assumption) only [fHd_neg, fHd_yes, w64, Bool.not_eq_false] at *)
    all_goals (try simp (disch := first | omega | assumption) only [fHd_neg, fHd_yes, w64, Bool.not_eq_false] at *)
    all_goals (first | omega | grind)

set_option maxRecDepth 100000 in
theorem laws_heldBucketS.eq (i : El c_laws_heldBucketS.I) (x : El c_laws_heldBucketS.A) : vc tab (gam [] []) (laws_heldBucketS.L x.1 x.2) (match Try.f36.body with | some c => c | none => .skip) 1 (initSt c_laws_heldBucketS Try.f36.ntmps i x) (bodyK tab c_laws_heldBucketS Try.f36.results.toList [3] i x) = laws_heldBucketS.F x.1 x.2 := by kernel_rfl
theorem laws_heldBucketS.ok : ConOk Try.prog 36 c_laws_heldBucketS :=
  conOk_of_eq (con := c_laws_heldBucketS) (tab := tab) (Γ := (gam [] [])) (fn := Try.f36) (c := (match Try.f36.body with | some c => c | none => .skip)) (fun i x => laws_heldBucketS.L x.1 x.2) (fun i x => laws_heldBucketS.F x.1 x.2) rfl tabOk (gam_nil _ []) Try.func36 rfl [3] (by kernel_rfl) laws_heldBucketS.eq fun i x h hi hw => laws_heldBucketS.pure x.1 x.2 h hw

end Go.Proofs.Ytcbehcpmojnnfaa.B
