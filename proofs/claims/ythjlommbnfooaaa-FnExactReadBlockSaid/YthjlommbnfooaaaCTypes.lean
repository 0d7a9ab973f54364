/- Values of the program's types: how large, the same, marked. -/
import Derived.Test.YthjlommbnfooaaaCCover
namespace Go.Proofs.Ythjlommbnfooaaa.B
set_option linter.unusedVariables false
set_option linter.unusedSimpArgs false
open Go Go.Proofs.Ythjlommbnfooaaa.Bv

def sumT {α : Type} (n : α → Nat) (l : List α) (i : Nat) : Nat := ((l.take i).map n).sum
theorem sumT_zero {α : Type} (n : α → Nat) (l : List α) : sumT n l 0 = 0 := by simp [sumT]
theorem sumT_succ {α : Type} (n : α → Nat) (l : List α) (d : α) {i : Nat} (h : i < l.length) : sumT n l (i + 1) = sumT n l i + n (l.getD i d) := by
  unfold sumT; rw [take_getD d h, List.map_append, List.sum_append]; simp
theorem sumT_le {α : Type} (n : α → Nat) (l : List α) (i : Nat) : sumT n l i ≤ sumT n l l.length := by
  have h : l.take l.length = l.take i ++ l.drop i := by rw [List.take_length, List.take_append_drop]
  unfold sumT; rw [h, List.map_append, List.sum_append]; omega
def nL {α : Type} (n : α → Nat) (l : List α) : Nat := l.length + sumT n l l.length
theorem sum_mem {α : Type} (n : α → Nat) {x : α} : ∀ {l : List α}, x ∈ l → n x ≤ (l.map n).sum
  | y :: l, h => by
    rw [List.map_cons, List.sum_cons]
    rcases List.mem_cons.1 h with rfl | h
    · omega
    · have := sum_mem n h; omega
theorem nL_mem {α : Type} (n : α → Nat) {l : List α} {x : α} (h : x ∈ l) : n x + 1 ≤ nL n l := by
  have h1 := sum_mem n h
  have h2 : 0 < l.length := List.length_pos_of_mem h
  unfold nL sumT; rw [List.take_length]; omega
def fSz (n : Nat) (left : Int) : Int := if left < n then -1 else left - n
theorem fSz_no {n : Nat} {left : Int} (h : left < n) : fSz n left = -1 := if_pos h
theorem fSz_yes {n : Nat} {left : Int} (h : ¬ left < n) : fSz n left = left - n := if_neg h
def szLI {α : Type} (n : α → Nat) (a : List α) (left0 left i : Int) : Prop := 0 ≤ i ∧ i ≤ a.length ∧ 0 ≤ left ∧ left0 = left + a.length + sumT n a i.toNat
def szLM {α : Type} (a : List α) (left0 left i : Int) : Nat := (a.length - i).toNat
def cpI {α : Type} (d : α) (a : List α) (i : Int) (out : List α) : Prop := 0 ≤ i ∧ i ≤ a.length ∧ out = a.take i.toNat ++ List.replicate (a.length - i.toNat) d
def cpM {α : Type} (a : List α) (i : Int) (out : List α) : Nat := (a.length - i).toNat
theorem cp_len {α : Type} {d : α} {a : List α} {i : Int} {out : List α} (h : cpI d a i out) : out.length = a.length := by
  obtain ⟨h1, h2, h3⟩ := h
  rw [h3, List.length_append, List.length_take, List.length_replicate]; omega
theorem cp_step {α : Type} {d : α} {a : List α} {i : Int} {out : List α} (h : cpI d a i out) (hi : i < a.length) : cpI d a (i + 1) (out.set i.toNat (a.getD i.toNat d)) := by
  obtain ⟨h1, h2, h3⟩ := h
  refine ⟨by omega, by omega, ?_⟩
  rw [tn1 h1, h3, take_getD d (by omega : i.toNat < a.length)]
  have e : a.length - i.toNat = (a.length - (i.toNat + 1)) + 1 := by omega
  have hl : (a.take i.toNat).length = i.toNat := by rw [List.length_take]; omega
  rw [e, List.replicate_succ, List.set_append_right _ _ (by omega), hl, Nat.sub_self, List.set_cons_zero, List.append_assoc]
  rfl
theorem cp_end {α : Type} {d : α} {a : List α} {i : Int} {out : List α} (h : cpI d a i out) (hi : ¬ i < a.length) : out = a := by
  obtain ⟨h1, h2, h3⟩ := h
  have e : i.toNat = a.length := by omega
  rw [h3, e, List.take_length, Nat.sub_self]; simp
def eqLI {α : Type} (a b : List α) (i : Int) : Prop := 0 ≤ i ∧ i ≤ a.length ∧ a.length = b.length ∧ a.take i.toNat = b.take i.toNat
def eqLM {α : Type} (a b : List α) (i : Int) : Nat := (a.length - i).toNat
theorem eqL_step {α : Type} {d : α} {a b : List α} {i : Int} (h : eqLI a b i) (hi : i < a.length) (he : a.getD i.toNat d = b.getD i.toNat d) : eqLI a b (i + 1) := by
  obtain ⟨h1, h2, h3, h4⟩ := h
  refine ⟨by omega, by omega, h3, ?_⟩
  rw [tn1 h1, take_getD d (by omega), take_getD d (by omega), h4, he]
theorem eqL_end {α : Type} {a b : List α} {i : Int} (h : eqLI a b i) (hi : ¬ i < a.length) : a = b := by
  obtain ⟨h1, h2, h3, h4⟩ := h
  have e : i.toNat = a.length := by omega
  rw [e, List.take_length, h3, List.take_length] at h4
  exact h4
/-! Marks: c tells how many, m marks, o looks whether they are there. -/
def cL {α : Type} (c : α → Int) (l : List α) : Int := (l.map c).sum
def mL {α : Type} (c : α → Int) (m : α → Int → α) : List α → Int → List α
  | [], _ => []
  | x :: l, k => m x k :: mL c m l (k + c x)
def oL {α : Type} (c : α → Int) (o : α → Int → Bool) : List α → Int → Bool
  | [], _ => true
  | x :: l, k => o x k && oL c o l (k + c x)
def fHd (c : Int) (o : Bool) (k : Int) : Int := if o = true then k + c else -1
theorem fHd_neg {c k : Int} {o : Bool} (h0 : 0 ≤ c) (h1 : 0 ≤ k) : fHd c o k < 0 ↔ o = false := by
  unfold fHd; cases o <;> simp; omega
theorem fHd_yes {c k : Int} {o : Bool} (h : o = true) : fHd c o k = k + c := if_pos h
theorem cL_nil {α : Type} (c : α → Int) : cL c [] = 0 := rfl
theorem cL_cons {α : Type} (c : α → Int) (x : α) (l : List α) : cL c (x :: l) = c x + cL c l := by simp [cL]
theorem cL_append {α : Type} (c : α → Int) (l r : List α) : cL c (l ++ r) = cL c l + cL c r := by simp [cL]
theorem cL_pos {α : Type} {c : α → Int} (h : ∀ x, 0 ≤ c x) : ∀ l, 0 ≤ cL c l
  | [] => by simp [cL]
  | x :: l => by have := cL_pos h l; have := h x; rw [cL_cons]; omega
theorem cL_split {α : Type} (c : α → Int) (d : α) {l : List α} {i : Nat} (h : i < l.length) : cL c (l.take (i + 1)) = cL c (l.take i) + c (l.getD i d) ∧ cL c l = cL c (l.take i) + (c (l.getD i d) + cL c (l.drop (i + 1))) := by
  constructor
  · rw [take_getD d h, cL_append]; simp [cL]
  · conv => lhs; rw [← List.take_append_drop i l, cL_append, drop_getD d h, cL_cons]
theorem cL_le {α : Type} {c : α → Int} (h : ∀ x, 0 ≤ c x ∧ c x ≤ 64) : ∀ l, cL c l ≤ 64 * l.length
  | [] => by simp [cL]
  | x :: l => by have := cL_le h l; have := h x; rw [cL_cons, List.length_cons]; omega
theorem mL_length {α : Type} (c : α → Int) (m : α → Int → α) : ∀ l k, (mL c m l k).length = l.length
  | [], _ => rfl
  | x :: l, k => by simp [mL, mL_length c m l]
theorem mL_append {α : Type} (c : α → Int) (m : α → Int → α) : ∀ l r k, mL c m (l ++ r) k = mL c m l k ++ mL c m r (k + cL c l)
  | [], r, k => by simp [mL, cL]
  | x :: l, r, k => by simp only [List.cons_append, mL, mL_append c m l r, cL_cons]; rw [Int.add_assoc]
theorem oL_mL {α : Type} {c : α → Int} {m : α → Int → α} {o : α → Int → Bool} (h : ∀ x k, o (m x k) k = true ∧ c (m x k) = c x) : ∀ l k, oL c o (mL c m l k) k = true ∧ cL c (mL c m l k) = cL c l
  | [], k => ⟨rfl, rfl⟩
  | x :: l, k => by
    obtain ⟨h1, h2⟩ := h x k
    obtain ⟨h3, h4⟩ := oL_mL h l (k + c x)
    simp only [mL, oL, cL_cons, h1, h2, h3, h4, Bool.and_self, and_self]
structure mkI {α : Type} (c : α → Int) (m : α → Int → α) (a : List α) (k0 k i : Int) (l : List α) : Prop where
  h1 : 0 ≤ i
  h2 : i ≤ a.length
  h3 : k = k0 + cL c (a.take i.toNat)
  h4 : l = mL c m (a.take i.toNat) k0 ++ a.drop i.toNat
def mkM {α : Type} (a : List α) (k0 k i : Int) (l : List α) : Nat := (a.length - i).toNat
theorem mk_len {α : Type} {c : α → Int} {m : α → Int → α} {a : List α} {k0 k i : Int} {l : List α} (h : mkI c m a k0 k i l) : l.length = a.length := by
  obtain ⟨h1, h2, h3, h4⟩ := h
  rw [h4, List.length_append, mL_length, List.length_take, List.length_drop]; omega
theorem mk_at {α : Type} {c : α → Int} {m : α → Int → α} {a : List α} {k0 k i : Int} {l : List α} {d : α} (h : mkI c m a k0 k i l) (hi : i < a.length) : l.getD i.toNat d = a.getD i.toNat d := by
  obtain ⟨h1, h2, h3, h4⟩ := h
  have hl : (mL c m (a.take i.toNat) k0).length = i.toNat := by rw [mL_length, List.length_take]; omega
  rw [h4, List.getD_eq_getElem?_getD, List.getElem?_append_right (by omega), hl, Nat.sub_self, drop_getD d (by omega)]
  rfl
theorem mk_step {α : Type} {c : α → Int} {m : α → Int → α} {a : List α} {k0 k i : Int} {l : List α} {d x' : α} {k' : Int} (h : mkI c m a k0 k i l) (hi : i < a.length) (hx : x' = m (a.getD i.toNat d) k) (hk : k' = k + c (a.getD i.toNat d)) : mkI c m a k0 k' (i + 1) (l.set i.toNat x') := by
  obtain ⟨h1, h2, h3, h4⟩ := h
  have hi' : i.toNat < a.length := by omega
  have hl : (mL c m (a.take i.toNat) k0).length = i.toNat := by rw [mL_length, List.length_take]; omega
  refine ⟨by omega, by omega, ?_, ?_⟩
  · rw [tn1 h1, (cL_split c d hi').1, hk, h3]; omega
  · rw [tn1 h1, h4, take_getD d hi', mL_append, List.set_append_right _ _ (by omega), hl, Nat.sub_self, drop_getD d hi', List.set_cons_zero, List.append_assoc, hx, h3]
    rfl
theorem mk_end {α : Type} {c : α → Int} {m : α → Int → α} {a : List α} {k0 k i : Int} {l : List α} (h : mkI c m a k0 k i l) (hi : ¬ i < a.length) : k = k0 + cL c a ∧ l = mL c m a k0 := by
  obtain ⟨h1, h2, h3, h4⟩ := h
  have e : i.toNat = a.length := by omega
  rw [e, List.take_length] at h3 h4
  exact ⟨h3, by rw [h4, List.drop_length, List.append_nil]⟩
structure hdI {α : Type} (c : α → Int) (o : α → Int → Bool) (a : List α) (k0 k i : Int) : Prop where
  h1 : 0 ≤ i
  h2 : i ≤ a.length
  h3 : k = k0 + cL c (a.take i.toNat)
  h4 : oL c o a k0 = oL c o (a.drop i.toNat) k
def hdM {α : Type} (a : List α) (k0 k i : Int) : Nat := (a.length - i).toNat
theorem hd_step {α : Type} {c : α → Int} {o : α → Int → Bool} {a : List α} {k0 k i k' : Int} (d : α) (h : hdI c o a k0 k i) (hi : i < a.length) (ho : o (a.getD i.toNat d) k = true) (hk : k' = k + c (a.getD i.toNat d)) : hdI c o a k0 k' (i + 1) := by
  obtain ⟨h1, h2, h3, h4⟩ := h
  have hi' : i.toNat < a.length := by omega
  refine ⟨by omega, by omega, ?_, ?_⟩
  · rw [tn1 h1, (cL_split c d hi').1, hk, h3]; omega
  · rw [tn1 h1, h4, drop_getD d hi']; simp only [oL, ho, Bool.true_and, hk]
theorem hd_no {α : Type} {c : α → Int} {o : α → Int → Bool} {a : List α} {k0 k i : Int} (d : α) (h : hdI c o a k0 k i) (hi : i < a.length) (ho : o (a.getD i.toNat d) k = false) : -1 = fHd (cL c a) (oL c o a k0) k0 := by
  obtain ⟨h1, h2, h3, h4⟩ := h
  rw [h4, drop_getD d (by omega)]
  show -1 = fHd _ (o (a.getD i.toNat d) k && oL c o _ _) _
  rw [ho, Bool.false_and]; rfl
theorem hd_end {α : Type} {c : α → Int} {o : α → Int → Bool} {a : List α} {k0 k i : Int} (h : hdI c o a k0 k i) (hi : ¬ i < a.length) : k = fHd (cL c a) (oL c o a k0) k0 := by
  obtain ⟨h1, h2, h3, h4⟩ := h
  have e : i.toNat = a.length := by omega
  rw [e, List.take_length] at h3
  rw [e, List.drop_length] at h4
  rw [h4]
  show k = fHd (cL c a) true k0
  rw [fHd_yes rfl, h3]
theorem getD_set_self {α : Type} {l : List α} {i : Nat} {v d : α} (h : i < l.length) : List.getD (List.set l i v) i d = v := by
  rw [List.getD_eq_getElem?_getD, List.getElem?_set_self h]; rfl
/-- The text of a mark. -/
def mtGo (n : Nat) (out : List UInt8) : List UInt8 := if n = 0 then out else mtGo (n / 10) (UInt8.ofNat (48 + n % 10) :: out)
termination_by n
decreasing_by omega
def pMT (k : Int) : Prop := k ≤ 4611686018427387904
def fMT (k : Int) : List UInt8 := if k ≤ 0 then [109, 48] else 109 :: mtGo k.toNat []
def mtI (k0 k : Int) (out : List UInt8) : Prop := 0 ≤ k ∧ 0 < k0 ∧ out.length + k ≤ k0 ∧ k0 ≤ 4611686018427387904 ∧ mtGo k.toNat out = mtGo k0.toNat []
def mtM (k0 k : Int) (out : List UInt8) : Nat := k.toNat
def c_laws_markText : Con := { io := false, I := .unit, ownI := [], A := (.int .i64), shA := [.one], ownA := [], backA := [], B := .unit, R := .str, shR := [(false, 1)], fresh := [], newR := false, pre := fun _ a => (pMT a), f := some fun _ a => ((fMT a), ((), ())) }
def laws_markText.F  (a0 : Int) : Prop := (caseB (decide (a0 ≤ (0 : Int))) ((([109, 48], ((), ())) : (List UInt8) × (Unit × Unit)) = ((fMT a0), ((), ()))) (([] : List (Nat × Sv)) = [] ∧ ((mtI a0 a0 []) ∧ ∀ (y1 : (Int × (List UInt8))), (mtI a0 y1.1 y1.2) → (caseB (decide (y1.1 > (0 : Int))) ((10 : Int) ≠ 0 ∧ (List.length (List.map (fun n => UInt8.ofNat (Int.toNat n)) [(IntKind.wrap .u8 (IntKind.wrap .i64 ((48 : Int) + (Int.tmod y1.1 (10 : Int)))))]) + List.length y1.2 ≤ 9223372036854775807 ∧ ((10 : Int) ≠ 0 ∧ (([] : List (Nat × Sv)) = [] ∧ (mtI a0 (IntKind.wrap .i64 (Int.tdiv y1.1 (10 : Int))) ((List.map (fun n => UInt8.ofNat (Int.toNat n)) [(IntKind.wrap .u8 (IntKind.wrap .i64 ((48 : Int) + (Int.tmod y1.1 (10 : Int)))))]) ++ y1.2)) ∧ (mtM a0 (IntKind.wrap .i64 (Int.tdiv y1.1 (10 : Int))) ((List.map (fun n => UInt8.ofNat (Int.toNat n)) [(IntKind.wrap .u8 (IntKind.wrap .i64 ((48 : Int) + (Int.tmod y1.1 (10 : Int)))))]) ++ y1.2)) < (mtM a0 y1.1 y1.2))))) (List.length [109] + List.length y1.2 ≤ 9223372036854775807 ∧ (((([109] ++ y1.2), ((), ())) : (List UInt8) × (Unit × Unit)) = ((fMT a0), ((), ()))))))))
def laws_markText.L  (a0 : Int) : Nat → Option LoopAnn := fun p => Go.Proofs.Ythjlommbnfooaaa.Bv.look p [(60, { kp := { hold := [], slots := [0, 3], boxes := [], rows := [] }, T := (.pair (.int .i64) .str), I := fun st y => mtI a0 y.1 y.2, μ := fun st y => mtM a0 y.1 y.2 })]

theorem laws_markText.pure  (a0 : Int) (h : (pMT a0)) (hw : Wf c_laws_markText.A a0) : laws_markText.F a0 := by
  unfold laws_markText.F
  simp only [forall_eq, true_and, and_true, caseB_iff, Prod.mk.injEq, decide_eq_true_eq, decide_eq_false_iff_not, Bool.not_eq_true', Bool.not_eq_false', bne_iff_ne, ne_eq, beq_iff_eq, Bool.not_true, Bool.not_false, beq_eq_false_iff_ne, bne_eq_false_iff_eq, List.length_append, List.length_cons, List.length_nil, List.append_nil, Nat.zero_add, decide_true, decide_false, eq_self_iff_true]
  have hp : a0 ≤ 4611686018427387904 := h
  refine ⟨fun h1 => by simp [fMT, h1], fun h1 => ⟨⟨by omega, by omega, by simp, hp, rfl⟩, ?_⟩⟩
  rintro ⟨k, out⟩ ⟨h2, h3, h4, h5, h6⟩
  simp only at h2 h3 h4 h5 h6 ⊢
  refine ⟨fun hk => ?_, fun hk => ?_⟩
  · have e1 : Int.tmod k 10 = k % 10 := Int.tmod_eq_emod_of_nonneg h2
    have e2 : Int.tdiv k 10 = k / 10 := Int.tdiv_eq_ediv_of_nonneg h2
    rw [e1, e2, w64 (x := 48 + k % 10) (by omega) (by omega), wu8 (by omega) (by omega), w64 (x := k / 10) (by omega) (by omega)]
    rw [mtGo, if_neg (by omega)] at h6
    refine ⟨by omega, by simp; omega, by omega, ⟨by omega, h3, by simp; omega, h5, ?_⟩, by unfold mtM; omega⟩
    have e3 : (k / 10).toNat = k.toNat / 10 := by omega
    have e4 : (48 + k % 10).toNat = 48 + k.toNat % 10 := by omega
    rw [← h6, e3]
    show mtGo _ (UInt8.ofNat (48 + k % 10).toNat :: out) = _
    rw [e4]
  · have e : k = 0 := by omega
    subst e
    rw [show Int.toNat 0 = 0 from rfl, mtGo, if_pos rfl] at h6
    refine ⟨by omega, ?_⟩
    unfold fMT
    rw [if_neg h1, ← h6]
    rfl

set_option maxRecDepth 100000 in
theorem laws_markText.eq (i : El c_laws_markText.I) (x : El c_laws_markText.A) : vc tab (gam [] [] eqs) (laws_markText.L x) (match Try.f120.body with | some c => c | none => .skip) 1 (initSt c_laws_markText Try.f120.ntmps i x) (bodyK tab c_laws_markText Try.f120.results.toList [9] i x) = laws_markText.F x := by kernel_rfl
theorem laws_markText.ok : ConOk Try.prog 120 c_laws_markText :=
  conOk_of_eq (con := c_laws_markText) (tab := tab) (Γ := (gam [] [] eqs)) (fn := Try.f120) (c := (match Try.f120.body with | some c => c | none => .skip)) (fun i x => laws_markText.L x) (fun i x => laws_markText.F x) rfl tabOk (gam_nil _ [] eqsOk) Try.func120 rfl [9] (by kernel_rfl) laws_markText.eq fun i x h hi hw => laws_markText.pure x h hw

def c_1 (x : Int) : Int := 1
def m_Int (x k : Int) : Int := k
def o_Int (x k : Int) : Bool := decide (x = k)
def c_1s (x : List UInt8) : Int := 1
def m_String (x : List UInt8) (k : Int) : List UInt8 := fMT k
def o_String (x : List UInt8) (k : Int) : Bool := decide (x = fMT k)
theorem ok_Int : ∀ (x k : Int), o_Int (m_Int x k) k = true ∧ c_1 (m_Int x k) = c_1 x := fun x k => ⟨by simp [o_Int, m_Int], rfl⟩
theorem ok_String : ∀ (x : List UInt8) (k : Int), o_String (m_String x k) k = true ∧ c_1s (m_String x k) = c_1s x := fun x k => ⟨by simp [o_String, m_String], rfl⟩
theorem pos_Int : ∀ x : Int, 0 ≤ c_1 x := fun x => by simp [c_1]
theorem pos_String : ∀ x : List UInt8, 0 ≤ c_1s x := fun x => by simp [c_1s]
def pSz_IntS (x : List Int) (left : Int) : Prop := WfD (.list (.int .i64)) x ∧ 0 ≤ left ∧ left ≤ 1048576
def fSz_IntS (x : List Int) (left : Int) : Int := fSz (List.length x) left
def c_laws_szIntS : Con := { io := false, I := .unit, ownI := [], A := (.pair (.list (.int .i64)) (.int .i64)), shA := [.one, .one], ownA := [], backA := [], B := .unit, R := (.int .i64), shR := [(false, 1)], fresh := [], newR := false, pre := fun _ a => (pSz_IntS a.1 a.2), f := some fun _ a => ((fSz_IntS a.1 a.2), ((), ())) }
def laws_szIntS.F  (a0 : (List Int)) (a1 : Int) : Prop := (caseB (decide ((IntKind.wrap .i64 (a1 - ((List.length a0 : Nat) : Int))) < (0 : Int))) ((((-1), ((), ())) : Int × (Unit × Unit)) = ((fSz_IntS a0 a1), ((), ()))) ((((IntKind.wrap .i64 (a1 - ((List.length a0 : Nat) : Int))), ((), ())) : Int × (Unit × Unit)) = ((fSz_IntS a0 a1), ((), ()))))
def laws_szIntS.L  (a0 : (List Int)) (a1 : Int) : Nat → Option LoopAnn := fun p => Go.Proofs.Ythjlommbnfooaaa.Bv.look p []

theorem laws_szIntS.pure  (a0 : (List Int)) (a1 : Int) (h : (pSz_IntS a0 a1)) (hw : Wf c_laws_szIntS.A (a0, a1)) : laws_szIntS.F a0 a1 := by
  unfold laws_szIntS.F
  obtain ⟨hwf, p1, p2⟩ := h
  have hw1 : a0.length ≤ 9223372036854775807 := hwf.1
  simp only [forall_eq, true_and, and_true, caseB_iff, Prod.mk.injEq, decide_eq_true_eq, decide_eq_false_iff_not, Bool.not_eq_true', Bool.not_eq_false', bne_iff_ne, ne_eq, beq_iff_eq, Bool.not_true, Bool.not_false, beq_eq_false_iff_ne, bne_eq_false_iff_eq, List.length_append, List.length_cons, List.length_nil, List.append_nil, Nat.zero_add, decide_true, decide_false, eq_self_iff_true, fSz_IntS]
  rw [w64 (x := a1 - (a0.length : Int)) (by omega) (by omega)]
  exact ⟨fun h1 => (fSz_no (by omega)).symm, fun h1 => (fSz_yes (by omega)).symm⟩

set_option maxRecDepth 100000 in
theorem laws_szIntS.eq (i : El c_laws_szIntS.I) (x : El c_laws_szIntS.A) : vc tab (gam [] [] eqs) (laws_szIntS.L x.1 x.2) (match Try.f60.body with | some c => c | none => .skip) 1 (initSt c_laws_szIntS Try.f60.ntmps i x) (bodyK tab c_laws_szIntS Try.f60.results.toList [3] i x) = laws_szIntS.F x.1 x.2 := by kernel_rfl
theorem laws_szIntS.ok : ConOk Try.prog 60 c_laws_szIntS :=
  conOk_of_eq (con := c_laws_szIntS) (tab := tab) (Γ := (gam [] [] eqs)) (fn := Try.f60) (c := (match Try.f60.body with | some c => c | none => .skip)) (fun i x => laws_szIntS.L x.1 x.2) (fun i x => laws_szIntS.F x.1 x.2) rfl tabOk (gam_nil _ [] eqsOk) Try.func60 rfl [3] (by kernel_rfl) laws_szIntS.eq fun i x h hi hw => laws_szIntS.pure x.1 x.2 h hw

def pTo_IntS (x : List Int) : Prop := List.length x ≤ 1048576
def fTo_IntS (x : List Int) : List Int := x
def c_laws_toIntS : Con := { io := false, I := .unit, ownI := [], A := (.list (.int .i64)), shA := [.one], ownA := [], backA := [], B := .unit, R := (.list (.int .i64)), shR := [(false, 1)], fresh := [(0, 3)], newR := false, pre := fun _ a => (pTo_IntS a), f := some fun _ a => ((fTo_IntS a), ((), ())) }
def laws_toIntS.F  (a0 : (List Int)) : Prop := (0 ≤ ((List.length a0 : Nat) : Int) ∧ (((List.length a0 : Nat) : Int) ≤ ((List.length a0 : Nat) : Int) ∧ (((List.length a0 : Nat) : Int) ≤ 9223372036854775807 ∧ (((8 : Nat) : Int) * ((List.length a0 : Nat) : Int) ≤ 140737488355328 ∧ (([(0, .val false [.lst (.int .i64) a0 none]), (3, .val false [.own (.int .i64) 1000387])] : List (Nat × Sv)) = [(0, .val false [.lst (.int .i64) a0 none]), (3, .val false [.own (.int .i64) 1000387])] ∧ ((cpI (0 : Int) a0 0 (List.replicate (Int.toNat ((List.length a0 : Nat) : Int)) (0 : Int))) ∧ ∀ (y1 : (Int × (List Int))), (cpI (0 : Int) a0 y1.1 y1.2) → (caseB (decide (y1.1 < ((List.length a0 : Nat) : Int))) (0 ≤ y1.1 ∧ (y1.1 < ((List.length a0 : Nat) : Int) ∧ (0 ≤ y1.1 ∧ (y1.1 < ((List.length y1.2 : Nat) : Int) ∧ (([(0, .val false [.lst (.int .i64) a0 none]), (3, .val false [.own (.int .i64) 1000387])] : List (Nat × Sv)) = [(0, .val false [.lst (.int .i64) a0 none]), (3, .val false [.own (.int .i64) 1000387])] ∧ (cpI (0 : Int) a0 (IntKind.wrap .i64 (y1.1 + (1 : Int))) (List.set y1.2 (Int.toNat y1.1) (List.getD a0 (Int.toNat y1.1) (0 : Int)))) ∧ (cpM a0 (IntKind.wrap .i64 (y1.1 + (1 : Int))) (List.set y1.2 (Int.toNat y1.1) (List.getD a0 (Int.toNat y1.1) (0 : Int)))) < (cpM a0 y1.1 y1.2)))))) (((y1.2, ((), ())) : (List Int) × (Unit × Unit)) = ((fTo_IntS a0), ((), ()))))))))))
def laws_toIntS.L  (a0 : (List Int)) : Nat → Option LoopAnn := fun p => Go.Proofs.Ythjlommbnfooaaa.Bv.look p [(58, { kp := { hold := [0, 3], slots := [4], boxes := [], rows := [{ bx := false, s := 3, i := 0, k := 1000387, e := 3, hot := true }] }, T := (.pair (.int .i64) (.list (.int .i64))), I := fun st y => cpI (0 : Int) a0 y.1 y.2, μ := fun st y => cpM a0 y.1 y.2 })]

theorem laws_toIntS.pure  (a0 : (List Int)) (h : (pTo_IntS a0)) (hw : Wf c_laws_toIntS.A a0) : laws_toIntS.F a0 := by
  unfold laws_toIntS.F
  have hb : a0.length ≤ 1048576 := by have h1 : List.length a0 ≤ 1048576 := h; exact h1
  simp only [forall_eq, true_and, and_true, caseB_iff, Prod.mk.injEq, decide_eq_true_eq, decide_eq_false_iff_not, Bool.not_eq_true', Bool.not_eq_false', bne_iff_ne, ne_eq, beq_iff_eq, Bool.not_true, Bool.not_false, beq_eq_false_iff_ne, bne_eq_false_iff_eq, List.length_append, List.length_cons, List.length_nil, List.append_nil, Nat.zero_add, decide_true, decide_false, eq_self_iff_true, fTo_IntS]
  refine ⟨by omega, by omega, by omega, by omega, ⟨by omega, by omega, by simp⟩, ?_⟩
  rintro ⟨i, out⟩ hI
  simp only at hI ⊢
  refine ⟨fun hi => ?_, fun hi => cp_end hI hi⟩
  have hl := cp_len hI
  have h3 := hI.2.1
  have h2 := hI.1
  rw [w64 (x := i + 1) (by omega) (by omega)]
  simp only [hl]
  exact ⟨h2, hi, h2, hi, cp_step hI hi, by unfold cpM; omega⟩

set_option maxRecDepth 100000 in
theorem laws_toIntS.eq (i : El c_laws_toIntS.I) (x : El c_laws_toIntS.A) : vc tab (gam [] [] eqs) (laws_toIntS.L x) (match Try.f67.body with | some c => c | none => .skip) 1 (initSt c_laws_toIntS Try.f67.ntmps i x) (bodyK tab c_laws_toIntS Try.f67.results.toList [23] i x) = laws_toIntS.F x := by kernel_rfl
theorem laws_toIntS.ok : ConOk Try.prog 67 c_laws_toIntS :=
  conOk_of_eq (con := c_laws_toIntS) (tab := tab) (Γ := (gam [] [] eqs)) (fn := Try.f67) (c := (match Try.f67.body with | some c => c | none => .skip)) (fun i x => laws_toIntS.L x) (fun i x => laws_toIntS.F x) rfl tabOk (gam_nil _ [] eqsOk) Try.func67 rfl [23] (by kernel_rfl) laws_toIntS.eq fun i x h hi hw => laws_toIntS.pure x h hw

def fEq_IntS (a b : List Int) : Bool := decide (a = b)
def c_laws_eqIntS : Con := { io := false, I := .unit, ownI := [], A := (.pair (.list (.int .i64)) (.list (.int .i64))), shA := [.one, .one], ownA := [], backA := [], B := .unit, R := .bool, shR := [(false, 1)], fresh := [], newR := false, pre := fun _ a => True, f := some fun _ a => ((fEq_IntS a.1 a.2), ((), ())) }
def laws_eqIntS.F  (a0 : (List Int)) (a1 : (List Int)) : Prop := (caseB (((List.length a0 : Nat) : Int) != ((List.length a1 : Nat) : Int)) (((false, ((), ())) : Bool × (Unit × Unit)) = ((fEq_IntS a0 a1), ((), ()))) (([(0, .val false [.lst (.int .i64) a0 none]), (1, .val false [.lst (.int .i64) a1 none])] : List (Nat × Sv)) = [(0, .val false [.lst (.int .i64) a0 none]), (1, .val false [.lst (.int .i64) a1 none])] ∧ ((eqLI a0 a1 0) ∧ ∀ (y1 : Int), (eqLI a0 a1 y1) → (caseB (decide (y1 < ((List.length a0 : Nat) : Int))) (0 ≤ y1 ∧ (y1 < ((List.length a0 : Nat) : Int) ∧ (0 ≤ y1 ∧ (y1 < ((List.length a1 : Nat) : Int) ∧ (caseB ((List.getD a0 (Int.toNat y1) (0 : Int)) != (List.getD a1 (Int.toNat y1) (0 : Int))) (((false, ((), ())) : Bool × (Unit × Unit)) = ((fEq_IntS a0 a1), ((), ()))) (([(0, .val false [.lst (.int .i64) a0 none]), (1, .val false [.lst (.int .i64) a1 none])] : List (Nat × Sv)) = [(0, .val false [.lst (.int .i64) a0 none]), (1, .val false [.lst (.int .i64) a1 none])] ∧ (eqLI a0 a1 (IntKind.wrap .i64 (y1 + (1 : Int)))) ∧ (eqLM a0 a1 (IntKind.wrap .i64 (y1 + (1 : Int)))) < (eqLM a0 a1 y1))))))) (((true, ((), ())) : Bool × (Unit × Unit)) = ((fEq_IntS a0 a1), ((), ())))))))
def laws_eqIntS.L  (a0 : (List Int)) (a1 : (List Int)) : Nat → Option LoopAnn := fun p => Go.Proofs.Ythjlommbnfooaaa.Bv.look p [(58, { kp := { hold := [0, 1], slots := [5], boxes := [], rows := [] }, T := (.int .i64), I := fun st y => eqLI a0 a1 y, μ := fun st y => eqLM a0 a1 y })]

theorem laws_eqIntS.pure  (a0 : (List Int)) (a1 : (List Int)) (h : True) (hw : Wf c_laws_eqIntS.A (a0, a1)) : laws_eqIntS.F a0 a1 := by
  unfold laws_eqIntS.F
  have hw1 : a0.length ≤ 9223372036854775807 := hw.1.1
  simp only [forall_eq, true_and, and_true, caseB_iff, Prod.mk.injEq, decide_eq_true_eq, decide_eq_false_iff_not, Bool.not_eq_true', Bool.not_eq_false', bne_iff_ne, ne_eq, beq_iff_eq, Bool.not_true, Bool.not_false, beq_eq_false_iff_ne, bne_eq_false_iff_eq, List.length_append, List.length_cons, List.length_nil, List.append_nil, Nat.zero_add, decide_true, decide_false, eq_self_iff_true]
  refine ⟨fun h1 => ?_, fun h1 => ?_⟩
  · have : a0 ≠ a1 := fun e => by subst e; simp at h1
    simp [fEq_IntS, this]
  have hl : a0.length = a1.length := by omega
  refine ⟨⟨by omega, by omega, hl, by simp⟩, ?_⟩
  rintro i hI
  have h2 := hI.1
  have h3 := hI.2.1
  refine ⟨fun hi => ⟨h2, hi, h2, by omega, fun hne => ?_, fun he => ?_⟩, fun hi => ?_⟩
  · have : a0 ≠ a1 := fun e => by subst e; simp at hne
    simp [fEq_IntS, this]
  · have hg : a0.getD i.toNat (0 : Int) = a1.getD i.toNat (0 : Int) := by simpa using he
    rw [w64 (x := i + 1) (by omega) (by omega)]
    exact ⟨eqL_step hI hi hg, by unfold eqLM; omega⟩
  · have h6 := eqL_end hI hi
    simp [fEq_IntS, h6]

set_option maxRecDepth 100000 in
theorem laws_eqIntS.eq (i : El c_laws_eqIntS.I) (x : El c_laws_eqIntS.A) : vc tab (gam [] [] eqs) (laws_eqIntS.L x.1 x.2) (match Try.f76.body with | some c => c | none => .skip) 1 (initSt c_laws_eqIntS Try.f76.ntmps i x) (bodyK tab c_laws_eqIntS Try.f76.results.toList [4] i x) = laws_eqIntS.F x.1 x.2 := by kernel_rfl
theorem laws_eqIntS.ok : ConOk Try.prog 76 c_laws_eqIntS :=
  conOk_of_eq (con := c_laws_eqIntS) (tab := tab) (Γ := (gam [] [] eqs)) (fn := Try.f76) (c := (match Try.f76.body with | some c => c | none => .skip)) (fun i x => laws_eqIntS.L x.1 x.2) (fun i x => laws_eqIntS.F x.1 x.2) rfl tabOk (gam_nil _ [] eqsOk) Try.func76 rfl [4] (by kernel_rfl) laws_eqIntS.eq fun i x h hi hw => laws_eqIntS.pure x.1 x.2 h hw

def fEq_StringS (a b : List (List UInt8)) : Bool := decide (a = b)
def c_laws_eqStringS : Con := { io := false, I := .unit, ownI := [], A := (.pair (.list .str) (.list .str)), shA := [.one, .one], ownA := [], backA := [], B := .unit, R := .bool, shR := [(false, 1)], fresh := [], newR := false, pre := fun _ a => True, f := some fun _ a => ((fEq_StringS a.1 a.2), ((), ())) }
def laws_eqStringS.F  (a0 : (List (List UInt8))) (a1 : (List (List UInt8))) : Prop := (caseB (((List.length a0 : Nat) : Int) != ((List.length a1 : Nat) : Int)) (((false, ((), ())) : Bool × (Unit × Unit)) = ((fEq_StringS a0 a1), ((), ()))) (([(0, .val false [.lst .str a0 none]), (1, .val false [.lst .str a1 none])] : List (Nat × Sv)) = [(0, .val false [.lst .str a0 none]), (1, .val false [.lst .str a1 none])] ∧ ((eqLI a0 a1 0) ∧ ∀ (y1 : Int), (eqLI a0 a1 y1) → (caseB (decide (y1 < ((List.length a0 : Nat) : Int))) (0 ≤ y1 ∧ (y1 < ((List.length a0 : Nat) : Int) ∧ (0 ≤ y1 ∧ (y1 < ((List.length a1 : Nat) : Int) ∧ (caseB (!((List.getD a0 (Int.toNat y1) ([] : (List UInt8))) == (List.getD a1 (Int.toNat y1) ([] : (List UInt8))))) (((false, ((), ())) : Bool × (Unit × Unit)) = ((fEq_StringS a0 a1), ((), ()))) (([(0, .val false [.lst .str a0 none]), (1, .val false [.lst .str a1 none])] : List (Nat × Sv)) = [(0, .val false [.lst .str a0 none]), (1, .val false [.lst .str a1 none])] ∧ (eqLI a0 a1 (IntKind.wrap .i64 (y1 + (1 : Int)))) ∧ (eqLM a0 a1 (IntKind.wrap .i64 (y1 + (1 : Int)))) < (eqLM a0 a1 y1))))))) (((true, ((), ())) : Bool × (Unit × Unit)) = ((fEq_StringS a0 a1), ((), ())))))))
def laws_eqStringS.L  (a0 : (List (List UInt8))) (a1 : (List (List UInt8))) : Nat → Option LoopAnn := fun p => Go.Proofs.Ythjlommbnfooaaa.Bv.look p [(58, { kp := { hold := [0, 1], slots := [5], boxes := [], rows := [] }, T := (.int .i64), I := fun st y => eqLI a0 a1 y, μ := fun st y => eqLM a0 a1 y })]

theorem laws_eqStringS.pure  (a0 : (List (List UInt8))) (a1 : (List (List UInt8))) (h : True) (hw : Wf c_laws_eqStringS.A (a0, a1)) : laws_eqStringS.F a0 a1 := by
  unfold laws_eqStringS.F
  have hw1 : a0.length ≤ 9223372036854775807 := hw.1.1
  simp only [forall_eq, true_and, and_true, caseB_iff, Prod.mk.injEq, decide_eq_true_eq, decide_eq_false_iff_not, Bool.not_eq_true', Bool.not_eq_false', bne_iff_ne, ne_eq, beq_iff_eq, Bool.not_true, Bool.not_false, beq_eq_false_iff_ne, bne_eq_false_iff_eq, List.length_append, List.length_cons, List.length_nil, List.append_nil, Nat.zero_add, decide_true, decide_false, eq_self_iff_true]
  refine ⟨fun h1 => ?_, fun h1 => ?_⟩
  · have : a0 ≠ a1 := fun e => by subst e; simp at h1
    simp [fEq_StringS, this]
  have hl : a0.length = a1.length := by omega
  refine ⟨⟨by omega, by omega, hl, by simp⟩, ?_⟩
  rintro i hI
  have h2 := hI.1
  have h3 := hI.2.1
  refine ⟨fun hi => ⟨h2, hi, h2, by omega, fun hne => ?_, fun he => ?_⟩, fun hi => ?_⟩
  · have : a0 ≠ a1 := fun e => by subst e; simp at hne
    simp [fEq_StringS, this]
  · have hg : a0.getD i.toNat ([] : (List UInt8)) = a1.getD i.toNat ([] : (List UInt8)) := by simpa using he
    rw [w64 (x := i + 1) (by omega) (by omega)]
    exact ⟨eqL_step hI hi hg, by unfold eqLM; omega⟩
  · have h6 := eqL_end hI hi
    simp [fEq_StringS, h6]

set_option maxRecDepth 100000 in
theorem laws_eqStringS.eq (i : El c_laws_eqStringS.I) (x : El c_laws_eqStringS.A) : vc tab (gam [] [] eqs) (laws_eqStringS.L x.1 x.2) (match Try.f132.body with | some c => c | none => .skip) 1 (initSt c_laws_eqStringS Try.f132.ntmps i x) (bodyK tab c_laws_eqStringS Try.f132.results.toList [4] i x) = laws_eqStringS.F x.1 x.2 := by kernel_rfl
theorem laws_eqStringS.ok : ConOk Try.prog 132 c_laws_eqStringS :=
  conOk_of_eq (con := c_laws_eqStringS) (tab := tab) (Γ := (gam [] [] eqs)) (fn := Try.f132) (c := (match Try.f132.body with | some c => c | none => .skip)) (fun i x => laws_eqStringS.L x.1 x.2) (fun i x => laws_eqStringS.F x.1 x.2) rfl tabOk (gam_nil _ [] eqsOk) Try.func132 rfl [4] (by kernel_rfl) laws_eqStringS.eq fun i x h hi hw => laws_eqStringS.pure x.1 x.2 h hw

def pMk_StringS (l : List (List UInt8)) (k : Int) : Prop := 0 ≤ k ∧ k + cL c_1s l ≤ 4611686018427387904
def fMk_StringS (l : List (List UInt8)) (k : Int) : Int × List (List UInt8) := (k + cL c_1s l, mL c_1s m_String l k)
def c_laws_markStringS : Con := { io := false, I := .unit, ownI := [], A := (.pair (.list .str) (.int .i64)), shA := [.one, .one], ownA := [], backA := [(0, 9)], B := (.list .str), R := (.int .i64), shR := [(false, 1)], fresh := [], newR := false, pre := fun _ a => (pMk_StringS a.1 a.2), f := some fun _ a => ((fMk_StringS a.1 a.2).1, ((), (fMk_StringS a.1 a.2).2)) }
def laws_markStringS.F  (a0 : (List (List UInt8))) (a1 : Int) : Prop := (([(0, .val false [.own .str 2])] : List (Nat × Sv)) = [(0, .val false [.own .str 2])] ∧ ((mkI c_1s m_String a0 a1 a1 0 a0) ∧ ∀ (y1 : (Int × (Int × (List (List UInt8))))), (mkI c_1s m_String a0 a1 y1.1 y1.2.1 y1.2.2) → (caseB (decide (y1.2.1 < ((List.length y1.2.2 : Nat) : Int))) ((pMT y1.1) ∧ ∀ (r2 : (List UInt8) × (Unit × Unit)), ((r2 : (List UInt8) × (Unit × Unit)) = ((fMT y1.1), ((), ()))) → (0 ≤ y1.2.1 ∧ (y1.2.1 < ((List.length y1.2.2 : Nat) : Int) ∧ (([(0, .val false [.own .str 2])] : List (Nat × Sv)) = [(0, .val false [.own .str 2])] ∧ (mkI c_1s m_String a0 a1 (IntKind.wrap .i64 (y1.1 + (1 : Int))) (IntKind.wrap .i64 (y1.2.1 + (1 : Int))) (List.set y1.2.2 (Int.toNat y1.2.1) r2.1)) ∧ (mkM a0 a1 (IntKind.wrap .i64 (y1.1 + (1 : Int))) (IntKind.wrap .i64 (y1.2.1 + (1 : Int))) (List.set y1.2.2 (Int.toNat y1.2.1) r2.1)) < (mkM a0 a1 y1.1 y1.2.1 y1.2.2))))) (((y1.1, ((), y1.2.2)) : Int × (Unit × (List (List UInt8)))) = ((fMk_StringS a0 a1).1, ((), (fMk_StringS a0 a1).2))))))
def laws_markStringS.L  (a0 : (List (List UInt8))) (a1 : Int) : Nat → Option LoopAnn := fun p => Go.Proofs.Ythjlommbnfooaaa.Bv.look p [(26, { kp := { hold := [0], slots := [1, 5], boxes := [], rows := [{ bx := false, s := 0, i := 0, k := 2, e := 9, hot := true }] }, T := (.pair (.int .i64) (.pair (.int .i64) (.list .str))), I := fun st y => mkI c_1s m_String a0 a1 y.1 y.2.1 y.2.2, μ := fun st y => mkM a0 a1 y.1 y.2.1 y.2.2 })]

theorem laws_markStringS.pure  (a0 : (List (List UInt8))) (a1 : Int) (h : (pMk_StringS a0 a1)) (hw : Wf c_laws_markStringS.A (a0, a1)) : laws_markStringS.F a0 a1 := by
  unfold laws_markStringS.F
  obtain ⟨p1, p2⟩ := h
  have hw1 : a0.length ≤ 9223372036854775807 := hw.1.1
  simp only [forall_eq, true_and, and_true, caseB_iff, Prod.mk.injEq, decide_eq_true_eq, decide_eq_false_iff_not, Bool.not_eq_true', Bool.not_eq_false', bne_iff_ne, ne_eq, beq_iff_eq, Bool.not_true, Bool.not_false, beq_eq_false_iff_ne, bne_eq_false_iff_eq, List.length_append, List.length_cons, List.length_nil, List.append_nil, Nat.zero_add, decide_true, decide_false, eq_self_iff_true]
  refine ⟨⟨by omega, by omega, by simp [cL], by simp [mL]⟩, ?_⟩
  rintro ⟨k, i, l⟩ hI
  simp only at hI ⊢
  have hl := mk_len hI
  have h2 := hI.1
  have h3 := hI.2
  refine ⟨fun hi0 => ?_, fun hi0 => ?_⟩
  · have hi : i < (a0.length : Int) := by omega
    have hi' : i.toNat < l.length := by omega
    have hg := mk_at (d := ([] : (List UInt8))) hI hi
    have hs := cL_split c_1s ([] : (List UInt8)) (l := a0) (i := i.toNat) (by omega)
    have hk := hI.3
    have c1 := cL_pos pos_String (a0.take i.toNat)
    have c2 := cL_pos pos_String (a0.drop (i.toNat + 1))
    have c3 := pos_String (a0.getD i.toNat ([] : (List UInt8)))
    have hmod : Int.tmod k 3 = k % 3 := Int.tmod_eq_emod_of_nonneg (by omega)
    have hc : c_1s (a0.getD i.toNat ([] : (List UInt8))) = c_1s (a0.getD i.toNat ([] : (List UInt8))) := rfl
    conv at hc => rhs; unfold c_1s
    try simp only [hg, getD_set_self hi', List.set_set, List.length_set]
    try simp (disch := first | omega | simp_all) only [getD_set_self, List.set_set, List.length_set, hg, w64, pMT]
    repeat' (with_reducible (first | (refine And.intro ?_ ?_) | intro _))
    all_goals (try simp +zetaDelta (disch := first | omega | simp_all) only [hg, getD_set_self, List.set_set, List.length_set, w64, pMT])
    all_goals (first | omega | exact mk_step (d := ([] : (List UInt8))) hI hi (by simp [m_String, hmod]) (by omega) | (unfold mkM; omega) | skip)
  · obtain ⟨e1, e2⟩ := mk_end hI (by omega)
    exact ⟨e1, e2⟩

set_option maxRecDepth 100000 in
theorem laws_markStringS.eq (i : El c_laws_markStringS.I) (x : El c_laws_markStringS.A) : vc tab (gam [(120, c_laws_markText)] [] eqs) (laws_markStringS.L x.1 x.2) (match Try.f134.body with | some c => c | none => .skip) 1 (initSt c_laws_markStringS Try.f134.ntmps i x) (bodyK tab c_laws_markStringS Try.f134.results.toList [3] i x) = laws_markStringS.F x.1 x.2 := by kernel_rfl
theorem laws_markStringS.ok : ConOk Try.prog 134 c_laws_markStringS :=
  conOk_of_eq (con := c_laws_markStringS) (tab := tab) (Γ := (gam [(120, c_laws_markText)] [] eqs)) (fn := Try.f134) (c := (match Try.f134.body with | some c => c | none => .skip)) (fun i x => laws_markStringS.L x.1 x.2) (fun i x => laws_markStringS.F x.1 x.2) rfl tabOk (gam_cons ⟨_, Try.func120, rfl, rfl⟩ laws_markText.ok (gam_nil _ [] eqsOk)) Try.func134 rfl [3] (by kernel_rfl) laws_markStringS.eq fun i x h hi hw => laws_markStringS.pure x.1 x.2 h hw

def fHd_StringS (l : List (List UInt8)) (k : Int) : Int := fHd (cL c_1s l) (oL c_1s o_String l k) k
def c_laws_heldStringS : Con := { io := false, I := .unit, ownI := [], A := (.pair (.list .str) (.int .i64)), shA := [.one, .one], ownA := [], backA := [], B := .unit, R := (.int .i64), shR := [(false, 1)], fresh := [], newR := false, pre := fun _ a => (pMk_StringS a.1 a.2), f := some fun _ a => ((fHd_StringS a.1 a.2), ((), ())) }
def laws_heldStringS.F  (a0 : (List (List UInt8))) (a1 : Int) : Prop := (([(0, .val false [.lst .str a0 none])] : List (Nat × Sv)) = [(0, .val false [.lst .str a0 none])] ∧ ((hdI c_1s o_String a0 a1 a1 0) ∧ ∀ (y1 : (Int × Int)), (hdI c_1s o_String a0 a1 y1.1 y1.2) → (caseB (decide (y1.2 < ((List.length a0 : Nat) : Int))) (0 ≤ y1.2 ∧ (y1.2 < ((List.length a0 : Nat) : Int) ∧ ((pMT y1.1) ∧ ∀ (r2 : (List UInt8) × (Unit × Unit)), ((r2 : (List UInt8) × (Unit × Unit)) = ((fMT y1.1), ((), ()))) → (caseB (!((List.getD a0 (Int.toNat y1.2) ([] : (List UInt8))) == r2.1)) ((((-1), ((), ())) : Int × (Unit × Unit)) = ((fHd_StringS a0 a1), ((), ()))) (([(0, .val false [.lst .str a0 none])] : List (Nat × Sv)) = [(0, .val false [.lst .str a0 none])] ∧ (hdI c_1s o_String a0 a1 (IntKind.wrap .i64 (y1.1 + (1 : Int))) (IntKind.wrap .i64 (y1.2 + (1 : Int)))) ∧ (hdM a0 a1 (IntKind.wrap .i64 (y1.1 + (1 : Int))) (IntKind.wrap .i64 (y1.2 + (1 : Int)))) < (hdM a0 a1 y1.1 y1.2)))))) (((y1.1, ((), ())) : Int × (Unit × Unit)) = ((fHd_StringS a0 a1), ((), ()))))))
def laws_heldStringS.L  (a0 : (List (List UInt8))) (a1 : Int) : Nat → Option LoopAnn := fun p => Go.Proofs.Ythjlommbnfooaaa.Bv.look p [(26, { kp := { hold := [0], slots := [1, 5], boxes := [], rows := [] }, T := (.pair (.int .i64) (.int .i64)), I := fun st y => hdI c_1s o_String a0 a1 y.1 y.2, μ := fun st y => hdM a0 a1 y.1 y.2 })]

theorem laws_heldStringS.pure  (a0 : (List (List UInt8))) (a1 : Int) (h : (pMk_StringS a0 a1)) (hw : Wf c_laws_heldStringS.A (a0, a1)) : laws_heldStringS.F a0 a1 := by
  unfold laws_heldStringS.F
  obtain ⟨p1, p2⟩ := h
  have hw1 : a0.length ≤ 9223372036854775807 := hw.1.1
  simp only [forall_eq, true_and, and_true, caseB_iff, Prod.mk.injEq, decide_eq_true_eq, decide_eq_false_iff_not, Bool.not_eq_true', Bool.not_eq_false', bne_iff_ne, ne_eq, beq_iff_eq, Bool.not_true, Bool.not_false, beq_eq_false_iff_ne, bne_eq_false_iff_eq, List.length_append, List.length_cons, List.length_nil, List.append_nil, Nat.zero_add, decide_true, decide_false, eq_self_iff_true]
  refine ⟨⟨by omega, by omega, by simp [cL], by simp⟩, ?_⟩
  rintro ⟨k, i⟩ hI
  simp only at hI ⊢
  have h2 := hI.1
  have h3 := hI.2
  refine ⟨fun hi => ?_, fun hi => hd_end hI hi⟩
  · have hs := cL_split c_1s ([] : (List UInt8)) (l := a0) (i := i.toNat) (by omega)
    have hk := hI.3
    have c1 := cL_pos pos_String (a0.take i.toNat)
    have c2 := cL_pos pos_String (a0.drop (i.toNat + 1))
    have c3 := pos_String (a0.getD i.toNat ([] : (List UInt8)))
    have hmod : Int.tmod k 3 = k % 3 := Int.tmod_eq_emod_of_nonneg (by omega)
    have no : o_String (a0.getD i.toNat ([] : (List UInt8))) k = false → -1 = fHd_StringS a0 a1 := fun ho => hd_no ([] : (List UInt8)) hI hi ho
    have yes : o_String (a0.getD i.toNat ([] : (List UInt8))) k = true → hdI c_1s o_String a0 a1 (k + c_1s (a0.getD i.toNat ([] : (List UInt8)))) (i + 1) := fun ho => hd_step ([] : (List UInt8)) hI hi ho rfl
    generalize a0.getD i.toNat ([] : (List UInt8)) = x at *
    have hc : c_1s x = c_1s x := rfl
    conv at hc => rhs; unfold c_1s
    simp only [o_String] at no yes
    simp (disch := omega) only [w64, pMT]
    repeat' (with_reducible (first | (refine And.intro ?_ ?_) | intro _))
    all_goals (first | omega | (unfold hdM; omega) | skip)
    all_goals (try simp (disch := first | omega | assumption) only [fHd_neg, fHd_yes, w64, Bool.not_eq_false] at *)
    all_goals (try simp (disch := first | omega | assumption) only [fHd_neg, fHd_yes, w64, Bool.not_eq_false] at *)
    all_goals (first | omega | grind)

set_option maxRecDepth 100000 in
theorem laws_heldStringS.eq (i : El c_laws_heldStringS.I) (x : El c_laws_heldStringS.A) : vc tab (gam [(120, c_laws_markText)] [] eqs) (laws_heldStringS.L x.1 x.2) (match Try.f135.body with | some c => c | none => .skip) 1 (initSt c_laws_heldStringS Try.f135.ntmps i x) (bodyK tab c_laws_heldStringS Try.f135.results.toList [3] i x) = laws_heldStringS.F x.1 x.2 := by kernel_rfl
theorem laws_heldStringS.ok : ConOk Try.prog 135 c_laws_heldStringS :=
  conOk_of_eq (con := c_laws_heldStringS) (tab := tab) (Γ := (gam [(120, c_laws_markText)] [] eqs)) (fn := Try.f135) (c := (match Try.f135.body with | some c => c | none => .skip)) (fun i x => laws_heldStringS.L x.1 x.2) (fun i x => laws_heldStringS.F x.1 x.2) rfl tabOk (gam_cons ⟨_, Try.func120, rfl, rfl⟩ laws_markText.ok (gam_nil _ [] eqsOk)) Try.func135 rfl [3] (by kernel_rfl) laws_heldStringS.eq fun i x h hi hw => laws_heldStringS.pure x.1 x.2 h hw

def n_Entry (x : (Int × (List UInt8))) : Nat := (x.2.length)
def pSz_Entry (x : (Int × (List UInt8))) (left : Int) : Prop := WfD (.pair (.int .i64) .str) x ∧ 0 ≤ left ∧ left ≤ 1048576
def fSz_Entry (x : (Int × (List UInt8))) (left : Int) : Int := fSz (n_Entry x) left
def c_laws_szEntry : Con := { io := false, I := .unit, ownI := [], A := (.pair (.pair (.int .i64) .str) (.int .i64)), shA := [.agg 2, .one], ownA := [], backA := [], B := .unit, R := (.int .i64), shR := [(false, 1)], fresh := [], newR := false, pre := fun _ a => (pSz_Entry a.1 a.2), f := some fun _ a => ((fSz_Entry a.1 a.2), ((), ())) }
def laws_szEntry.F  (a0 : (Int × (List UInt8))) (a1 : Int) : Prop := (caseB (decide ((IntKind.wrap .i64 (a1 - ((List.length a0.2 : Nat) : Int))) < (0 : Int))) ((((-1), ((), ())) : Int × (Unit × Unit)) = ((fSz_Entry a0 a1), ((), ()))) ((((IntKind.wrap .i64 (a1 - ((List.length a0.2 : Nat) : Int))), ((), ())) : Int × (Unit × Unit)) = ((fSz_Entry a0 a1), ((), ()))))
def laws_szEntry.L  (a0 : (Int × (List UInt8))) (a1 : Int) : Nat → Option LoopAnn := fun p => Go.Proofs.Ythjlommbnfooaaa.Bv.look p []

theorem laws_szEntry.pure  (a0 : (Int × (List UInt8))) (a1 : Int) (h : (pSz_Entry a0 a1)) (hw : Wf c_laws_szEntry.A (a0, a1)) : laws_szEntry.F a0 a1 := by
  unfold laws_szEntry.F
  obtain ⟨hwf, p1, p2⟩ := h
  have w1 : a0.2.length ≤ 9223372036854775807 := hwf.2
  simp only [forall_eq, true_and, and_true, caseB_iff, Prod.mk.injEq, decide_eq_true_eq, decide_eq_false_iff_not, Bool.not_eq_true', Bool.not_eq_false', bne_iff_ne, ne_eq, beq_iff_eq, Bool.not_true, Bool.not_false, beq_eq_false_iff_ne, bne_eq_false_iff_eq, List.length_append, List.length_cons, List.length_nil, List.append_nil, Nat.zero_add, decide_true, decide_false, eq_self_iff_true, n_Entry, fSz_Entry]
  repeat' (with_reducible (first | (refine And.intro ?_ ?_) | intro _))
  all_goals (try simp (disch := omega) only [w64, wu8, tn0, tn1, tm1, tm2, List.length_append, List.length_cons, List.length_nil] at *)
  all_goals (try simp (disch := omega) only [w64, wu8, tn0, tn1, tm1, tm2, List.length_append, List.length_cons, List.length_nil] at *)
  all_goals (try omega)
  all_goals (try grind [fSz])

set_option maxRecDepth 100000 in
theorem laws_szEntry.eq (i : El c_laws_szEntry.I) (x : El c_laws_szEntry.A) : vc tab (gam [] [] eqs) (laws_szEntry.L x.1 x.2) (match Try.f121.body with | some c => c | none => .skip) 1 (initSt c_laws_szEntry Try.f121.ntmps i x) (bodyK tab c_laws_szEntry Try.f121.results.toList [3] i x) = laws_szEntry.F x.1 x.2 := by kernel_rfl
theorem laws_szEntry.ok : ConOk Try.prog 121 c_laws_szEntry :=
  conOk_of_eq (con := c_laws_szEntry) (tab := tab) (Γ := (gam [] [] eqs)) (fn := Try.f121) (c := (match Try.f121.body with | some c => c | none => .skip)) (fun i x => laws_szEntry.L x.1 x.2) (fun i x => laws_szEntry.F x.1 x.2) rfl tabOk (gam_nil _ [] eqsOk) Try.func121 rfl [3] (by kernel_rfl) laws_szEntry.eq fun i x h hi hw => laws_szEntry.pure x.1 x.2 h hw

def pSz_EntryS (x : List (Int × (List UInt8))) (left : Int) : Prop := WfD (.list (.pair (.int .i64) .str)) x ∧ 0 ≤ left ∧ left ≤ 1048576
def fSz_EntryS (x : List (Int × (List UInt8))) (left : Int) : Int := fSz (nL n_Entry x) left
def c_laws_szEntryS : Con := { io := false, I := .unit, ownI := [], A := (.pair (.list (.pair (.int .i64) .str)) (.int .i64)), shA := [.one, .one], ownA := [], backA := [], B := .unit, R := (.int .i64), shR := [(false, 1)], fresh := [], newR := false, pre := fun _ a => (pSz_EntryS a.1 a.2), f := some fun _ a => ((fSz_EntryS a.1 a.2), ((), ())) }
def laws_szEntryS.F  (a0 : (List (Int × (List UInt8)))) (a1 : Int) : Prop := (caseB (decide ((IntKind.wrap .i64 (a1 - ((List.length a0 : Nat) : Int))) < (0 : Int))) ((((-1), ((), ())) : Int × (Unit × Unit)) = ((fSz_EntryS a0 a1), ((), ()))) (([(0, .val false [.lst (.pair (.int .i64) .str) a0 none])] : List (Nat × Sv)) = [(0, .val false [.lst (.pair (.int .i64) .str) a0 none])] ∧ ((szLI n_Entry a0 a1 (IntKind.wrap .i64 (a1 - ((List.length a0 : Nat) : Int))) 0) ∧ ∀ (y1 : (Int × Int)), (szLI n_Entry a0 a1 y1.1 y1.2) → (caseB (decide (y1.2 < ((List.length a0 : Nat) : Int))) (0 ≤ y1.2 ∧ (y1.2 < ((List.length a0 : Nat) : Int) ∧ ((pSz_Entry ((List.getD a0 (Int.toNat y1.2) ((0 : Int), ([] : (List UInt8)))).1, (List.getD a0 (Int.toNat y1.2) ((0 : Int), ([] : (List UInt8)))).2) y1.1) ∧ ∀ (r2 : Int × (Unit × Unit)), ((r2 : Int × (Unit × Unit)) = ((fSz_Entry ((List.getD a0 (Int.toNat y1.2) ((0 : Int), ([] : (List UInt8)))).1, (List.getD a0 (Int.toNat y1.2) ((0 : Int), ([] : (List UInt8)))).2) y1.1), ((), ()))) → (caseB (decide (r2.1 < (0 : Int))) ((((-1), ((), ())) : Int × (Unit × Unit)) = ((fSz_EntryS a0 a1), ((), ()))) (([(0, .val false [.lst (.pair (.int .i64) .str) a0 none])] : List (Nat × Sv)) = [(0, .val false [.lst (.pair (.int .i64) .str) a0 none])] ∧ (szLI n_Entry a0 a1 r2.1 (IntKind.wrap .i64 (y1.2 + (1 : Int)))) ∧ (szLM a0 a1 r2.1 (IntKind.wrap .i64 (y1.2 + (1 : Int)))) < (szLM a0 a1 y1.1 y1.2)))))) (((y1.1, ((), ())) : Int × (Unit × Unit)) = ((fSz_EntryS a0 a1), ((), ())))))))
def laws_szEntryS.L  (a0 : (List (Int × (List UInt8)))) (a1 : Int) : Nat → Option LoopAnn := fun p => Go.Proofs.Ythjlommbnfooaaa.Bv.look p [(122, { kp := { hold := [0], slots := [1, 5], boxes := [], rows := [] }, T := (.pair (.int .i64) (.int .i64)), I := fun st y => szLI n_Entry a0 a1 y.1 y.2, μ := fun st y => szLM a0 a1 y.1 y.2 })]

theorem laws_szEntryS.pure  (a0 : (List (Int × (List UInt8)))) (a1 : Int) (h : (pSz_EntryS a0 a1)) (hw : Wf c_laws_szEntryS.A (a0, a1)) : laws_szEntryS.F a0 a1 := by
  unfold laws_szEntryS.F
  obtain ⟨hwf, p1, p2⟩ := h
  have hw1 : a0.length ≤ 9223372036854775807 := hwf.1
  simp only [forall_eq, true_and, and_true, caseB_iff, Prod.mk.injEq, decide_eq_true_eq, decide_eq_false_iff_not, Bool.not_eq_true', Bool.not_eq_false', bne_iff_ne, ne_eq, beq_iff_eq, Bool.not_true, Bool.not_false, beq_eq_false_iff_ne, bne_eq_false_iff_eq, List.length_append, List.length_cons, List.length_nil, List.append_nil, Nat.zero_add, decide_true, decide_false, eq_self_iff_true, fSz_EntryS]
  rw [w64 (x := a1 - (a0.length : Int)) (by omega) (by omega)]
  refine ⟨fun h1 => (fSz_no (by unfold nL; omega)).symm, fun h1 => ⟨⟨by omega, by omega, by omega, by rw [show Int.toNat 0 = 0 from rfl, sumT_zero]; omega⟩, ?_⟩⟩
  rintro ⟨left, i⟩ ⟨h2, h3, h4, h5⟩
  simp only at h2 h3 h4 h5 ⊢
  refine ⟨fun hi => ?_, fun hi => ?_⟩
  · have hm : a0.getD i.toNat ((0 : Int), ([] : (List UInt8))) ∈ a0 := getD_mem (by omega)
    have s1 := sumT_succ n_Entry a0 ((0 : Int), ([] : (List UInt8))) (i := i.toNat) (by omega)
    have s2 := sumT_le n_Entry a0 (i.toNat + 1)
    have hwx : WfD (.pair (.int .i64) .str) (a0.getD i.toNat ((0 : Int), ([] : (List UInt8)))) := hwf.2 _ hm
    rw [w64 (x := i + 1) (by omega) (by omega)]
    simp only [fSz_Entry]
    by_cases hc : left < (n_Entry (a0.getD i.toNat ((0 : Int), ([] : (List UInt8)))) : Int)
    · rw [fSz_no hc]
      exact ⟨h2, hi, ⟨hwx, h4, by omega⟩, fun h6 => (fSz_no (by unfold nL; omega)).symm, fun h6 => absurd (by decide) h6⟩
    · rw [fSz_yes hc]
      exact ⟨h2, hi, ⟨hwx, h4, by omega⟩, fun h6 => by omega, fun h6 => ⟨⟨by omega, by omega, by omega, by rw [tn1 h2]; omega⟩, by unfold szLM; omega⟩⟩
  · have e : i.toNat = a0.length := by omega
    rw [e] at h5
    rw [fSz_yes (by unfold nL; omega)]
    unfold nL; omega

set_option maxRecDepth 100000 in
theorem laws_szEntryS.eq (i : El c_laws_szEntryS.I) (x : El c_laws_szEntryS.A) : vc tab (gam [(121, c_laws_szEntry)] [] eqs) (laws_szEntryS.L x.1 x.2) (match Try.f59.body with | some c => c | none => .skip) 1 (initSt c_laws_szEntryS Try.f59.ntmps i x) (bodyK tab c_laws_szEntryS Try.f59.results.toList [3] i x) = laws_szEntryS.F x.1 x.2 := by kernel_rfl
theorem laws_szEntryS.ok : ConOk Try.prog 59 c_laws_szEntryS :=
  conOk_of_eq (con := c_laws_szEntryS) (tab := tab) (Γ := (gam [(121, c_laws_szEntry)] [] eqs)) (fn := Try.f59) (c := (match Try.f59.body with | some c => c | none => .skip)) (fun i x => laws_szEntryS.L x.1 x.2) (fun i x => laws_szEntryS.F x.1 x.2) rfl tabOk (gam_cons ⟨_, Try.func121, rfl, rfl⟩ laws_szEntry.ok (gam_nil _ [] eqsOk)) Try.func59 rfl [3] (by kernel_rfl) laws_szEntryS.eq fun i x h hi hw => laws_szEntryS.pure x.1 x.2 h hw

def pTo_Entry (x : (Int × (List UInt8))) : Prop := n_Entry x ≤ 1048576
def fTo_Entry (x : (Int × (List UInt8))) : (Int × (List UInt8)) := x
def c_laws_toEntry : Con := { io := false, I := .unit, ownI := [], A := (.pair (.int .i64) .str), shA := [.agg 2], ownA := [], backA := [], B := .unit, R := (.pair (.int .i64) .str), shR := [(true, 2)], fresh := [], newR := false, pre := fun _ a => (pTo_Entry a), f := some fun _ a => ((fTo_Entry a), ((), ())) }
def laws_toEntry.F  (a0 : (Int × (List UInt8))) : Prop := ((((a0.1, a0.2), ((), ())) : (Int × (List UInt8)) × (Unit × Unit)) = ((fTo_Entry a0), ((), ())))
def laws_toEntry.L  (a0 : (Int × (List UInt8))) : Nat → Option LoopAnn := fun p => Go.Proofs.Ythjlommbnfooaaa.Bv.look p []

theorem laws_toEntry.pure  (a0 : (Int × (List UInt8))) (h : (pTo_Entry a0)) (hw : Wf c_laws_toEntry.A a0) : laws_toEntry.F a0 := by
  unfold laws_toEntry.F
  have hp : n_Entry a0 ≤ 1048576 := h
  simp only [n_Entry] at hp
  simp only [forall_eq, true_and, and_true, caseB_iff, Prod.mk.injEq, decide_eq_true_eq, decide_eq_false_iff_not, Bool.not_eq_true', Bool.not_eq_false', bne_iff_ne, ne_eq, beq_iff_eq, Bool.not_true, Bool.not_false, beq_eq_false_iff_ne, bne_eq_false_iff_eq, List.length_append, List.length_cons, List.length_nil, List.append_nil, Nat.zero_add, decide_true, decide_false, eq_self_iff_true, n_Entry, fTo_Entry, pTo_Entry]
  repeat' (with_reducible (first | (refine And.intro ?_ ?_) | intro _))
  all_goals (try simp (disch := omega) only [w64, wu8, tn0, tn1, tm1, tm2, List.length_append, List.length_cons, List.length_nil] at *)
  all_goals (try simp (disch := omega) only [w64, wu8, tn0, tn1, tm1, tm2, List.length_append, List.length_cons, List.length_nil] at *)
  all_goals (try omega)
  all_goals (try grind [])

set_option maxRecDepth 100000 in
theorem laws_toEntry.eq (i : El c_laws_toEntry.I) (x : El c_laws_toEntry.A) : vc tab (gam [] [] eqs) (laws_toEntry.L x) (match Try.f123.body with | some c => c | none => .skip) 1 (initSt c_laws_toEntry Try.f123.ntmps i x) (bodyK tab c_laws_toEntry Try.f123.results.toList [144] i x) = laws_toEntry.F x := by kernel_rfl
theorem laws_toEntry.ok : ConOk Try.prog 123 c_laws_toEntry :=
  conOk_of_eq (con := c_laws_toEntry) (tab := tab) (Γ := (gam [] [] eqs)) (fn := Try.f123) (c := (match Try.f123.body with | some c => c | none => .skip)) (fun i x => laws_toEntry.L x) (fun i x => laws_toEntry.F x) rfl tabOk (gam_nil _ [] eqsOk) Try.func123 rfl [144] (by kernel_rfl) laws_toEntry.eq fun i x h hi hw => laws_toEntry.pure x h hw

def pTo_EntryS (x : List (Int × (List UInt8))) : Prop := nL n_Entry x ≤ 1048576
def fTo_EntryS (x : List (Int × (List UInt8))) : List (Int × (List UInt8)) := x
def c_laws_toEntryS : Con := { io := false, I := .unit, ownI := [], A := (.list (.pair (.int .i64) .str)), shA := [.one], ownA := [], backA := [], B := .unit, R := (.list (.pair (.int .i64) .str)), shR := [(false, 1)], fresh := [(0, 144)], newR := false, pre := fun _ a => (pTo_EntryS a), f := some fun _ a => ((fTo_EntryS a), ((), ())) }
def laws_toEntryS.F  (a0 : (List (Int × (List UInt8)))) : Prop := (0 ≤ ((List.length a0 : Nat) : Int) ∧ (((List.length a0 : Nat) : Int) ≤ ((List.length a0 : Nat) : Int) ∧ (((List.length a0 : Nat) : Int) ≤ 9223372036854775807 ∧ (((24 : Nat) : Int) * ((List.length a0 : Nat) : Int) ≤ 140737488355328 ∧ (([(0, .val false [.lst (.pair (.int .i64) .str) a0 none]), (3, .val false [.own (.pair (.int .i64) .str) 1000387])] : List (Nat × Sv)) = [(0, .val false [.lst (.pair (.int .i64) .str) a0 none]), (3, .val false [.own (.pair (.int .i64) .str) 1000387])] ∧ ((cpI ((0 : Int), ([] : (List UInt8))) a0 0 (List.replicate (Int.toNat ((List.length a0 : Nat) : Int)) ((0 : Int), ([] : (List UInt8))))) ∧ ∀ (y1 : (Int × (List (Int × (List UInt8))))), (cpI ((0 : Int), ([] : (List UInt8))) a0 y1.1 y1.2) → (caseB (decide (y1.1 < ((List.length a0 : Nat) : Int))) (0 ≤ y1.1 ∧ (y1.1 < ((List.length a0 : Nat) : Int) ∧ ((pTo_Entry ((List.getD a0 (Int.toNat y1.1) ((0 : Int), ([] : (List UInt8)))).1, (List.getD a0 (Int.toNat y1.1) ((0 : Int), ([] : (List UInt8)))).2)) ∧ ∀ (r2 : (Int × (List UInt8)) × (Unit × Unit)), ((r2 : (Int × (List UInt8)) × (Unit × Unit)) = ((fTo_Entry ((List.getD a0 (Int.toNat y1.1) ((0 : Int), ([] : (List UInt8)))).1, (List.getD a0 (Int.toNat y1.1) ((0 : Int), ([] : (List UInt8)))).2)), ((), ()))) → (0 ≤ y1.1 ∧ (y1.1 < ((List.length y1.2 : Nat) : Int) ∧ (([(0, .val false [.lst (.pair (.int .i64) .str) a0 none]), (3, .val false [.own (.pair (.int .i64) .str) 1000387])] : List (Nat × Sv)) = [(0, .val false [.lst (.pair (.int .i64) .str) a0 none]), (3, .val false [.own (.pair (.int .i64) .str) 1000387])] ∧ (cpI ((0 : Int), ([] : (List UInt8))) a0 (IntKind.wrap .i64 (y1.1 + (1 : Int))) (List.set y1.2 (Int.toNat y1.1) (r2.1.1, r2.1.2))) ∧ (cpM a0 (IntKind.wrap .i64 (y1.1 + (1 : Int))) (List.set y1.2 (Int.toNat y1.1) (r2.1.1, r2.1.2))) < (cpM a0 y1.1 y1.2))))))) (((y1.2, ((), ())) : (List (Int × (List UInt8))) × (Unit × Unit)) = ((fTo_EntryS a0), ((), ()))))))))))
def laws_toEntryS.L  (a0 : (List (Int × (List UInt8)))) : Nat → Option LoopAnn := fun p => Go.Proofs.Ythjlommbnfooaaa.Bv.look p [(58, { kp := { hold := [0, 3], slots := [4], boxes := [], rows := [{ bx := false, s := 3, i := 0, k := 1000387, e := 144, hot := true }] }, T := (.pair (.int .i64) (.list (.pair (.int .i64) .str))), I := fun st y => cpI ((0 : Int), ([] : (List UInt8))) a0 y.1 y.2, μ := fun st y => cpM a0 y.1 y.2 })]

theorem laws_toEntryS.pure  (a0 : (List (Int × (List UInt8)))) (h : (pTo_EntryS a0)) (hw : Wf c_laws_toEntryS.A a0) : laws_toEntryS.F a0 := by
  unfold laws_toEntryS.F
  have hb : a0.length ≤ 1048576 := by have h1 : nL n_Entry a0 ≤ 1048576 := h; unfold nL at h1; omega
  simp only [forall_eq, true_and, and_true, caseB_iff, Prod.mk.injEq, decide_eq_true_eq, decide_eq_false_iff_not, Bool.not_eq_true', Bool.not_eq_false', bne_iff_ne, ne_eq, beq_iff_eq, Bool.not_true, Bool.not_false, beq_eq_false_iff_ne, bne_eq_false_iff_eq, List.length_append, List.length_cons, List.length_nil, List.append_nil, Nat.zero_add, decide_true, decide_false, eq_self_iff_true, fTo_EntryS]
  refine ⟨by omega, by omega, by omega, by omega, ⟨by omega, by omega, by simp⟩, ?_⟩
  rintro ⟨i, out⟩ hI
  simp only at hI ⊢
  refine ⟨fun hi => ?_, fun hi => cp_end hI hi⟩
  have hl := cp_len hI
  have h3 := hI.2.1
  have h2 := hI.1
  have hp : pTo_Entry (a0.getD i.toNat ((0 : Int), ([] : (List UInt8)))) := by
    have h1 : nL n_Entry a0 ≤ 1048576 := h
    have hm : a0.getD i.toNat ((0 : Int), ([] : (List UInt8))) ∈ a0 := getD_mem (by omega)
    show n_Entry _ ≤ 1048576
    have := nL_mem n_Entry hm; omega
  rw [w64 (x := i + 1) (by omega) (by omega)]
  simp only [fTo_Entry, hl]
  exact ⟨h2, hi, hp, h2, hi, cp_step hI hi, by unfold cpM; omega⟩

set_option maxRecDepth 100000 in
theorem laws_toEntryS.eq (i : El c_laws_toEntryS.I) (x : El c_laws_toEntryS.A) : vc tab (gam [(123, c_laws_toEntry)] [] eqs) (laws_toEntryS.L x) (match Try.f66.body with | some c => c | none => .skip) 1 (initSt c_laws_toEntryS Try.f66.ntmps i x) (bodyK tab c_laws_toEntryS Try.f66.results.toList [28] i x) = laws_toEntryS.F x := by kernel_rfl
theorem laws_toEntryS.ok : ConOk Try.prog 66 c_laws_toEntryS :=
  conOk_of_eq (con := c_laws_toEntryS) (tab := tab) (Γ := (gam [(123, c_laws_toEntry)] [] eqs)) (fn := Try.f66) (c := (match Try.f66.body with | some c => c | none => .skip)) (fun i x => laws_toEntryS.L x) (fun i x => laws_toEntryS.F x) rfl tabOk (gam_cons ⟨_, Try.func123, rfl, rfl⟩ laws_toEntry.ok (gam_nil _ [] eqsOk)) Try.func66 rfl [28] (by kernel_rfl) laws_toEntryS.eq fun i x h hi hw => laws_toEntryS.pure x h hw

instance dec_Entry : DecidableEq (Int × (List UInt8)) := by (iterate 20 (all_goals (first | infer_instance | refine @instDecidableEqProd _ _ ?_ ?_)))
def fEq_Entry (a b : (Int × (List UInt8))) : Bool := decide (a = b)
def c_laws_eqEntry : Con := { io := false, I := .unit, ownI := [], A := (.pair (.pair (.int .i64) .str) (.pair (.int .i64) .str)), shA := [.agg 2, .agg 2], ownA := [], backA := [], B := .unit, R := .bool, shR := [(false, 1)], fresh := [], newR := false, pre := fun _ a => True, f := some fun _ a => ((fEq_Entry a.1 a.2), ((), ())) }
def laws_eqEntry.F  (a0 : (Int × (List UInt8))) (a1 : (Int × (List UInt8))) : Prop := (caseB (a0.1 != a1.1) (((false, ((), ())) : Bool × (Unit × Unit)) = ((fEq_Entry a0 a1), ((), ()))) (caseB (!(a0.2 == a1.2)) (((false, ((), ())) : Bool × (Unit × Unit)) = ((fEq_Entry a0 a1), ((), ()))) (((true, ((), ())) : Bool × (Unit × Unit)) = ((fEq_Entry a0 a1), ((), ())))))
def laws_eqEntry.L  (a0 : (Int × (List UInt8))) (a1 : (Int × (List UInt8))) : Nat → Option LoopAnn := fun p => Go.Proofs.Ythjlommbnfooaaa.Bv.look p []

theorem laws_eqEntry.pure  (a0 : (Int × (List UInt8))) (a1 : (Int × (List UInt8))) (h : True) (hw : Wf c_laws_eqEntry.A (a0, a1)) : laws_eqEntry.F a0 a1 := by
  unfold laws_eqEntry.F
  obtain ⟨x1, x2⟩ := a0
  obtain ⟨y1, y2⟩ := a1
  simp only [forall_eq, true_and, and_true, caseB_iff, Prod.mk.injEq, decide_eq_true_eq, decide_eq_false_iff_not, Bool.not_eq_true', Bool.not_eq_false', bne_iff_ne, ne_eq, beq_iff_eq, Bool.not_true, Bool.not_false, beq_eq_false_iff_ne, bne_eq_false_iff_eq, List.length_append, List.length_cons, List.length_nil, List.append_nil, Nat.zero_add, decide_true, decide_false, eq_self_iff_true, fEq_Entry]
  repeat' (first | (refine And.intro ?_ ?_) | intro _)
  all_goals simp_all

set_option maxRecDepth 100000 in
theorem laws_eqEntry.eq (i : El c_laws_eqEntry.I) (x : El c_laws_eqEntry.A) : vc tab (gam [] [] eqs) (laws_eqEntry.L x.1 x.2) (match Try.f130.body with | some c => c | none => .skip) 1 (initSt c_laws_eqEntry Try.f130.ntmps i x) (bodyK tab c_laws_eqEntry Try.f130.results.toList [4] i x) = laws_eqEntry.F x.1 x.2 := by kernel_rfl
theorem laws_eqEntry.ok : ConOk Try.prog 130 c_laws_eqEntry :=
  conOk_of_eq (con := c_laws_eqEntry) (tab := tab) (Γ := (gam [] [] eqs)) (fn := Try.f130) (c := (match Try.f130.body with | some c => c | none => .skip)) (fun i x => laws_eqEntry.L x.1 x.2) (fun i x => laws_eqEntry.F x.1 x.2) rfl tabOk (gam_nil _ [] eqsOk) Try.func130 rfl [4] (by kernel_rfl) laws_eqEntry.eq fun i x h hi hw => laws_eqEntry.pure x.1 x.2 h hw

def fEq_EntryS (a b : List (Int × (List UInt8))) : Bool := decide (a = b)
def c_laws_eqEntryS : Con := { io := false, I := .unit, ownI := [], A := (.pair (.list (.pair (.int .i64) .str)) (.list (.pair (.int .i64) .str))), shA := [.one, .one], ownA := [], backA := [], B := .unit, R := .bool, shR := [(false, 1)], fresh := [], newR := false, pre := fun _ a => True, f := some fun _ a => ((fEq_EntryS a.1 a.2), ((), ())) }
def laws_eqEntryS.F  (a0 : (List (Int × (List UInt8)))) (a1 : (List (Int × (List UInt8)))) : Prop := (caseB (((List.length a0 : Nat) : Int) != ((List.length a1 : Nat) : Int)) (((false, ((), ())) : Bool × (Unit × Unit)) = ((fEq_EntryS a0 a1), ((), ()))) (([(0, .val false [.lst (.pair (.int .i64) .str) a0 none]), (1, .val false [.lst (.pair (.int .i64) .str) a1 none])] : List (Nat × Sv)) = [(0, .val false [.lst (.pair (.int .i64) .str) a0 none]), (1, .val false [.lst (.pair (.int .i64) .str) a1 none])] ∧ ((eqLI a0 a1 0) ∧ ∀ (y1 : Int), (eqLI a0 a1 y1) → (caseB (decide (y1 < ((List.length a0 : Nat) : Int))) (0 ≤ y1 ∧ (y1 < ((List.length a0 : Nat) : Int) ∧ (0 ≤ y1 ∧ (y1 < ((List.length a1 : Nat) : Int) ∧ (True ∧ ∀ (r2 : Bool × (Unit × Unit)), ((r2 : Bool × (Unit × Unit)) = ((fEq_Entry ((List.getD a0 (Int.toNat y1) ((0 : Int), ([] : (List UInt8)))).1, (List.getD a0 (Int.toNat y1) ((0 : Int), ([] : (List UInt8)))).2) ((List.getD a1 (Int.toNat y1) ((0 : Int), ([] : (List UInt8)))).1, (List.getD a1 (Int.toNat y1) ((0 : Int), ([] : (List UInt8)))).2)), ((), ()))) → (caseB (!r2.1) (((false, ((), ())) : Bool × (Unit × Unit)) = ((fEq_EntryS a0 a1), ((), ()))) (([(0, .val false [.lst (.pair (.int .i64) .str) a0 none]), (1, .val false [.lst (.pair (.int .i64) .str) a1 none])] : List (Nat × Sv)) = [(0, .val false [.lst (.pair (.int .i64) .str) a0 none]), (1, .val false [.lst (.pair (.int .i64) .str) a1 none])] ∧ (eqLI a0 a1 (IntKind.wrap .i64 (y1 + (1 : Int)))) ∧ (eqLM a0 a1 (IntKind.wrap .i64 (y1 + (1 : Int)))) < (eqLM a0 a1 y1)))))))) (((true, ((), ())) : Bool × (Unit × Unit)) = ((fEq_EntryS a0 a1), ((), ())))))))
def laws_eqEntryS.L  (a0 : (List (Int × (List UInt8)))) (a1 : (List (Int × (List UInt8)))) : Nat → Option LoopAnn := fun p => Go.Proofs.Ythjlommbnfooaaa.Bv.look p [(58, { kp := { hold := [0, 1], slots := [5], boxes := [], rows := [] }, T := (.int .i64), I := fun st y => eqLI a0 a1 y, μ := fun st y => eqLM a0 a1 y })]

theorem laws_eqEntryS.pure  (a0 : (List (Int × (List UInt8)))) (a1 : (List (Int × (List UInt8)))) (h : True) (hw : Wf c_laws_eqEntryS.A (a0, a1)) : laws_eqEntryS.F a0 a1 := by
  unfold laws_eqEntryS.F
  have hw1 : a0.length ≤ 9223372036854775807 := hw.1.1
  simp only [forall_eq, true_and, and_true, caseB_iff, Prod.mk.injEq, decide_eq_true_eq, decide_eq_false_iff_not, Bool.not_eq_true', Bool.not_eq_false', bne_iff_ne, ne_eq, beq_iff_eq, Bool.not_true, Bool.not_false, beq_eq_false_iff_ne, bne_eq_false_iff_eq, List.length_append, List.length_cons, List.length_nil, List.append_nil, Nat.zero_add, decide_true, decide_false, eq_self_iff_true]
  refine ⟨fun h1 => ?_, fun h1 => ?_⟩
  · have : a0 ≠ a1 := fun e => by subst e; simp at h1
    simp [fEq_EntryS, this]
  have hl : a0.length = a1.length := by omega
  refine ⟨⟨by omega, by omega, hl, by simp⟩, ?_⟩
  rintro i hI
  have h2 := hI.1
  have h3 := hI.2.1
  refine ⟨fun hi => ⟨h2, hi, h2, by omega, fun hne => ?_, fun he => ?_⟩, fun hi => ?_⟩
  · have : a0 ≠ a1 := fun e => by subst e; simp [fEq_Entry] at hne
    simp [fEq_EntryS, this]
  · have hg : a0.getD i.toNat ((0 : Int), ([] : (List UInt8))) = a1.getD i.toNat ((0 : Int), ([] : (List UInt8))) := by simpa only [fEq_Entry, decide_eq_true_eq] using he
    rw [w64 (x := i + 1) (by omega) (by omega)]
    exact ⟨eqL_step hI hi hg, by unfold eqLM; omega⟩
  · have h6 := eqL_end hI hi
    simp [fEq_EntryS, h6]

set_option maxRecDepth 100000 in
theorem laws_eqEntryS.eq (i : El c_laws_eqEntryS.I) (x : El c_laws_eqEntryS.A) : vc tab (gam [(130, c_laws_eqEntry)] [] eqs) (laws_eqEntryS.L x.1 x.2) (match Try.f75.body with | some c => c | none => .skip) 1 (initSt c_laws_eqEntryS Try.f75.ntmps i x) (bodyK tab c_laws_eqEntryS Try.f75.results.toList [4] i x) = laws_eqEntryS.F x.1 x.2 := by kernel_rfl
theorem laws_eqEntryS.ok : ConOk Try.prog 75 c_laws_eqEntryS :=
  conOk_of_eq (con := c_laws_eqEntryS) (tab := tab) (Γ := (gam [(130, c_laws_eqEntry)] [] eqs)) (fn := Try.f75) (c := (match Try.f75.body with | some c => c | none => .skip)) (fun i x => laws_eqEntryS.L x.1 x.2) (fun i x => laws_eqEntryS.F x.1 x.2) rfl tabOk (gam_cons ⟨_, Try.func130, rfl, rfl⟩ laws_eqEntry.ok (gam_nil _ [] eqsOk)) Try.func75 rfl [4] (by kernel_rfl) laws_eqEntryS.eq fun i x h hi hw => laws_eqEntryS.pure x.1 x.2 h hw

def c_mEntry (x : (Int × (List UInt8))) : Int := 1 + 1
def m_Entry (x : (Int × (List UInt8))) (k : Int) : (Int × (List UInt8)) := (k, (fMT (k + 1)))
def o_Entry (x : (Int × (List UInt8))) (k : Int) : Bool := (decide (x.1 = k)) && (decide (x.2 = fMT (k + 1)))
theorem ok_Entry : ∀ (x : (Int × (List UInt8))) (k : Int), o_Entry (m_Entry x k) k = true ∧ c_mEntry (m_Entry x k) = c_mEntry x := fun x k => by
  simp [o_Entry, m_Entry, c_mEntry]
theorem pos_Entry : ∀ x : (Int × (List UInt8)), 0 ≤ c_mEntry x := fun x => by
  unfold c_mEntry; omega
def n_Point (x : (Int × Int)) : Nat := 0
def pSz_PointS (x : List (Int × Int)) (left : Int) : Prop := WfD (.list (.pair (.int .i64) (.int .i64))) x ∧ 0 ≤ left ∧ left ≤ 1048576
def fSz_PointS (x : List (Int × Int)) (left : Int) : Int := fSz (List.length x) left
def c_laws_szPointS : Con := { io := false, I := .unit, ownI := [], A := (.pair (.list (.pair (.int .i64) (.int .i64))) (.int .i64)), shA := [.one, .one], ownA := [], backA := [], B := .unit, R := (.int .i64), shR := [(false, 1)], fresh := [], newR := false, pre := fun _ a => (pSz_PointS a.1 a.2), f := some fun _ a => ((fSz_PointS a.1 a.2), ((), ())) }
def laws_szPointS.F  (a0 : (List (Int × Int))) (a1 : Int) : Prop := (caseB (decide ((IntKind.wrap .i64 (a1 - ((List.length a0 : Nat) : Int))) < (0 : Int))) ((((-1), ((), ())) : Int × (Unit × Unit)) = ((fSz_PointS a0 a1), ((), ()))) ((((IntKind.wrap .i64 (a1 - ((List.length a0 : Nat) : Int))), ((), ())) : Int × (Unit × Unit)) = ((fSz_PointS a0 a1), ((), ()))))
def laws_szPointS.L  (a0 : (List (Int × Int))) (a1 : Int) : Nat → Option LoopAnn := fun p => Go.Proofs.Ythjlommbnfooaaa.Bv.look p []

theorem laws_szPointS.pure  (a0 : (List (Int × Int))) (a1 : Int) (h : (pSz_PointS a0 a1)) (hw : Wf c_laws_szPointS.A (a0, a1)) : laws_szPointS.F a0 a1 := by
  unfold laws_szPointS.F
  obtain ⟨hwf, p1, p2⟩ := h
  have hw1 : a0.length ≤ 9223372036854775807 := hwf.1
  simp only [forall_eq, true_and, and_true, caseB_iff, Prod.mk.injEq, decide_eq_true_eq, decide_eq_false_iff_not, Bool.not_eq_true', Bool.not_eq_false', bne_iff_ne, ne_eq, beq_iff_eq, Bool.not_true, Bool.not_false, beq_eq_false_iff_ne, bne_eq_false_iff_eq, List.length_append, List.length_cons, List.length_nil, List.append_nil, Nat.zero_add, decide_true, decide_false, eq_self_iff_true, fSz_PointS]
  rw [w64 (x := a1 - (a0.length : Int)) (by omega) (by omega)]
  exact ⟨fun h1 => (fSz_no (by omega)).symm, fun h1 => (fSz_yes (by omega)).symm⟩

set_option maxRecDepth 100000 in
theorem laws_szPointS.eq (i : El c_laws_szPointS.I) (x : El c_laws_szPointS.A) : vc tab (gam [] [] eqs) (laws_szPointS.L x.1 x.2) (match Try.f136.body with | some c => c | none => .skip) 1 (initSt c_laws_szPointS Try.f136.ntmps i x) (bodyK tab c_laws_szPointS Try.f136.results.toList [3] i x) = laws_szPointS.F x.1 x.2 := by kernel_rfl
theorem laws_szPointS.ok : ConOk Try.prog 136 c_laws_szPointS :=
  conOk_of_eq (con := c_laws_szPointS) (tab := tab) (Γ := (gam [] [] eqs)) (fn := Try.f136) (c := (match Try.f136.body with | some c => c | none => .skip)) (fun i x => laws_szPointS.L x.1 x.2) (fun i x => laws_szPointS.F x.1 x.2) rfl tabOk (gam_nil _ [] eqsOk) Try.func136 rfl [3] (by kernel_rfl) laws_szPointS.eq fun i x h hi hw => laws_szPointS.pure x.1 x.2 h hw

def pTo_Point (x : (Int × Int)) : Prop := n_Point x ≤ 1048576
def fTo_Point (x : (Int × Int)) : (Int × Int) := x
def c_laws_toPoint : Con := { io := false, I := .unit, ownI := [], A := (.pair (.int .i64) (.int .i64)), shA := [.agg 2], ownA := [], backA := [], B := .unit, R := (.pair (.int .i64) (.int .i64)), shR := [(true, 2)], fresh := [], newR := false, pre := fun _ a => (pTo_Point a), f := some fun _ a => ((fTo_Point a), ((), ())) }
def laws_toPoint.F  (a0 : (Int × Int)) : Prop := ((((a0.1, a0.2), ((), ())) : (Int × Int) × (Unit × Unit)) = ((fTo_Point a0), ((), ())))
def laws_toPoint.L  (a0 : (Int × Int)) : Nat → Option LoopAnn := fun p => Go.Proofs.Ythjlommbnfooaaa.Bv.look p []

theorem laws_toPoint.pure  (a0 : (Int × Int)) (h : (pTo_Point a0)) (hw : Wf c_laws_toPoint.A a0) : laws_toPoint.F a0 := by
  unfold laws_toPoint.F
  have hp : n_Point a0 ≤ 1048576 := h
  simp only [n_Point] at hp
  simp only [forall_eq, true_and, and_true, caseB_iff, Prod.mk.injEq, decide_eq_true_eq, decide_eq_false_iff_not, Bool.not_eq_true', Bool.not_eq_false', bne_iff_ne, ne_eq, beq_iff_eq, Bool.not_true, Bool.not_false, beq_eq_false_iff_ne, bne_eq_false_iff_eq, List.length_append, List.length_cons, List.length_nil, List.append_nil, Nat.zero_add, decide_true, decide_false, eq_self_iff_true, n_Point, fTo_Point, pTo_Point]
  repeat' (with_reducible (first | (refine And.intro ?_ ?_) | intro _))
  all_goals (try simp (disch := omega) only [w64, wu8, tn0, tn1, tm1, tm2, List.length_append, List.length_cons, List.length_nil] at *)
  all_goals (try simp (disch := omega) only [w64, wu8, tn0, tn1, tm1, tm2, List.length_append, List.length_cons, List.length_nil] at *)
  all_goals (try omega)
  all_goals (try grind [])

set_option maxRecDepth 100000 in
theorem laws_toPoint.eq (i : El c_laws_toPoint.I) (x : El c_laws_toPoint.A) : vc tab (gam [] [] eqs) (laws_toPoint.L x) (match Try.f159.body with | some c => c | none => .skip) 1 (initSt c_laws_toPoint Try.f159.ntmps i x) (bodyK tab c_laws_toPoint Try.f159.results.toList [119] i x) = laws_toPoint.F x := by kernel_rfl
theorem laws_toPoint.ok : ConOk Try.prog 159 c_laws_toPoint :=
  conOk_of_eq (con := c_laws_toPoint) (tab := tab) (Γ := (gam [] [] eqs)) (fn := Try.f159) (c := (match Try.f159.body with | some c => c | none => .skip)) (fun i x => laws_toPoint.L x) (fun i x => laws_toPoint.F x) rfl tabOk (gam_nil _ [] eqsOk) Try.func159 rfl [119] (by kernel_rfl) laws_toPoint.eq fun i x h hi hw => laws_toPoint.pure x h hw

def pTo_PointS (x : List (Int × Int)) : Prop := List.length x ≤ 1048576
def fTo_PointS (x : List (Int × Int)) : List (Int × Int) := x
def c_laws_toPointS : Con := { io := false, I := .unit, ownI := [], A := (.list (.pair (.int .i64) (.int .i64))), shA := [.one], ownA := [], backA := [], B := .unit, R := (.list (.pair (.int .i64) (.int .i64))), shR := [(false, 1)], fresh := [(0, 119)], newR := false, pre := fun _ a => (pTo_PointS a), f := some fun _ a => ((fTo_PointS a), ((), ())) }
def laws_toPointS.F  (a0 : (List (Int × Int))) : Prop := (0 ≤ ((List.length a0 : Nat) : Int) ∧ (((List.length a0 : Nat) : Int) ≤ ((List.length a0 : Nat) : Int) ∧ (((List.length a0 : Nat) : Int) ≤ 9223372036854775807 ∧ (((16 : Nat) : Int) * ((List.length a0 : Nat) : Int) ≤ 140737488355328 ∧ (([(0, .val false [.lst (.pair (.int .i64) (.int .i64)) a0 none]), (3, .val false [.own (.pair (.int .i64) (.int .i64)) 1000387])] : List (Nat × Sv)) = [(0, .val false [.lst (.pair (.int .i64) (.int .i64)) a0 none]), (3, .val false [.own (.pair (.int .i64) (.int .i64)) 1000387])] ∧ ((cpI ((0 : Int), (0 : Int)) a0 0 (List.replicate (Int.toNat ((List.length a0 : Nat) : Int)) ((0 : Int), (0 : Int)))) ∧ ∀ (y1 : (Int × (List (Int × Int)))), (cpI ((0 : Int), (0 : Int)) a0 y1.1 y1.2) → (caseB (decide (y1.1 < ((List.length a0 : Nat) : Int))) (0 ≤ y1.1 ∧ (y1.1 < ((List.length a0 : Nat) : Int) ∧ ((pTo_Point ((List.getD a0 (Int.toNat y1.1) ((0 : Int), (0 : Int))).1, (List.getD a0 (Int.toNat y1.1) ((0 : Int), (0 : Int))).2)) ∧ ∀ (r2 : (Int × Int) × (Unit × Unit)), ((r2 : (Int × Int) × (Unit × Unit)) = ((fTo_Point ((List.getD a0 (Int.toNat y1.1) ((0 : Int), (0 : Int))).1, (List.getD a0 (Int.toNat y1.1) ((0 : Int), (0 : Int))).2)), ((), ()))) → (0 ≤ y1.1 ∧ (y1.1 < ((List.length y1.2 : Nat) : Int) ∧ (([(0, .val false [.lst (.pair (.int .i64) (.int .i64)) a0 none]), (3, .val false [.own (.pair (.int .i64) (.int .i64)) 1000387])] : List (Nat × Sv)) = [(0, .val false [.lst (.pair (.int .i64) (.int .i64)) a0 none]), (3, .val false [.own (.pair (.int .i64) (.int .i64)) 1000387])] ∧ (cpI ((0 : Int), (0 : Int)) a0 (IntKind.wrap .i64 (y1.1 + (1 : Int))) (List.set y1.2 (Int.toNat y1.1) (r2.1.1, r2.1.2))) ∧ (cpM a0 (IntKind.wrap .i64 (y1.1 + (1 : Int))) (List.set y1.2 (Int.toNat y1.1) (r2.1.1, r2.1.2))) < (cpM a0 y1.1 y1.2))))))) (((y1.2, ((), ())) : (List (Int × Int)) × (Unit × Unit)) = ((fTo_PointS a0), ((), ()))))))))))
def laws_toPointS.L  (a0 : (List (Int × Int))) : Nat → Option LoopAnn := fun p => Go.Proofs.Ythjlommbnfooaaa.Bv.look p [(58, { kp := { hold := [0, 3], slots := [4], boxes := [], rows := [{ bx := false, s := 3, i := 0, k := 1000387, e := 119, hot := true }] }, T := (.pair (.int .i64) (.list (.pair (.int .i64) (.int .i64)))), I := fun st y => cpI ((0 : Int), (0 : Int)) a0 y.1 y.2, μ := fun st y => cpM a0 y.1 y.2 })]

theorem laws_toPointS.pure  (a0 : (List (Int × Int))) (h : (pTo_PointS a0)) (hw : Wf c_laws_toPointS.A a0) : laws_toPointS.F a0 := by
  unfold laws_toPointS.F
  have hb : a0.length ≤ 1048576 := by have h1 : List.length a0 ≤ 1048576 := h; exact h1
  simp only [forall_eq, true_and, and_true, caseB_iff, Prod.mk.injEq, decide_eq_true_eq, decide_eq_false_iff_not, Bool.not_eq_true', Bool.not_eq_false', bne_iff_ne, ne_eq, beq_iff_eq, Bool.not_true, Bool.not_false, beq_eq_false_iff_ne, bne_eq_false_iff_eq, List.length_append, List.length_cons, List.length_nil, List.append_nil, Nat.zero_add, decide_true, decide_false, eq_self_iff_true, fTo_PointS]
  refine ⟨by omega, by omega, by omega, by omega, ⟨by omega, by omega, by simp⟩, ?_⟩
  rintro ⟨i, out⟩ hI
  simp only at hI ⊢
  refine ⟨fun hi => ?_, fun hi => cp_end hI hi⟩
  have hl := cp_len hI
  have h3 := hI.2.1
  have h2 := hI.1
  have hp : pTo_Point (a0.getD i.toNat ((0 : Int), (0 : Int))) := by
    have h1 : List.length a0 ≤ 1048576 := h
    have hm : a0.getD i.toNat ((0 : Int), (0 : Int)) ∈ a0 := getD_mem (by omega)
    show n_Point _ ≤ 1048576
    simp [n_Point]
  rw [w64 (x := i + 1) (by omega) (by omega)]
  simp only [fTo_Point, hl]
  exact ⟨h2, hi, hp, h2, hi, cp_step hI hi, by unfold cpM; omega⟩

set_option maxRecDepth 100000 in
theorem laws_toPointS.eq (i : El c_laws_toPointS.I) (x : El c_laws_toPointS.A) : vc tab (gam [(159, c_laws_toPoint)] [] eqs) (laws_toPointS.L x) (match Try.f141.body with | some c => c | none => .skip) 1 (initSt c_laws_toPointS Try.f141.ntmps i x) (bodyK tab c_laws_toPointS Try.f141.results.toList [53] i x) = laws_toPointS.F x := by kernel_rfl
theorem laws_toPointS.ok : ConOk Try.prog 141 c_laws_toPointS :=
  conOk_of_eq (con := c_laws_toPointS) (tab := tab) (Γ := (gam [(159, c_laws_toPoint)] [] eqs)) (fn := Try.f141) (c := (match Try.f141.body with | some c => c | none => .skip)) (fun i x => laws_toPointS.L x) (fun i x => laws_toPointS.F x) rfl tabOk (gam_cons ⟨_, Try.func159, rfl, rfl⟩ laws_toPoint.ok (gam_nil _ [] eqsOk)) Try.func141 rfl [53] (by kernel_rfl) laws_toPointS.eq fun i x h hi hw => laws_toPointS.pure x h hw

instance dec_Point : DecidableEq (Int × Int) := by (iterate 20 (all_goals (first | infer_instance | refine @instDecidableEqProd _ _ ?_ ?_)))
def fEq_Point (a b : (Int × Int)) : Bool := decide (a = b)
def c_laws_eqPoint : Con := { io := false, I := .unit, ownI := [], A := (.pair (.pair (.int .i64) (.int .i64)) (.pair (.int .i64) (.int .i64))), shA := [.agg 2, .agg 2], ownA := [], backA := [], B := .unit, R := .bool, shR := [(false, 1)], fresh := [], newR := false, pre := fun _ a => True, f := some fun _ a => ((fEq_Point a.1 a.2), ((), ())) }
def laws_eqPoint.F  (a0 : (Int × Int)) (a1 : (Int × Int)) : Prop := (caseB (a0.1 != a1.1) (((false, ((), ())) : Bool × (Unit × Unit)) = ((fEq_Point a0 a1), ((), ()))) (caseB (a0.2 != a1.2) (((false, ((), ())) : Bool × (Unit × Unit)) = ((fEq_Point a0 a1), ((), ()))) (((true, ((), ())) : Bool × (Unit × Unit)) = ((fEq_Point a0 a1), ((), ())))))
def laws_eqPoint.L  (a0 : (Int × Int)) (a1 : (Int × Int)) : Nat → Option LoopAnn := fun p => Go.Proofs.Ythjlommbnfooaaa.Bv.look p []

theorem laws_eqPoint.pure  (a0 : (Int × Int)) (a1 : (Int × Int)) (h : True) (hw : Wf c_laws_eqPoint.A (a0, a1)) : laws_eqPoint.F a0 a1 := by
  unfold laws_eqPoint.F
  obtain ⟨x1, x2⟩ := a0
  obtain ⟨y1, y2⟩ := a1
  simp only [forall_eq, true_and, and_true, caseB_iff, Prod.mk.injEq, decide_eq_true_eq, decide_eq_false_iff_not, Bool.not_eq_true', Bool.not_eq_false', bne_iff_ne, ne_eq, beq_iff_eq, Bool.not_true, Bool.not_false, beq_eq_false_iff_ne, bne_eq_false_iff_eq, List.length_append, List.length_cons, List.length_nil, List.append_nil, Nat.zero_add, decide_true, decide_false, eq_self_iff_true, fEq_Point]
  repeat' (first | (refine And.intro ?_ ?_) | intro _)
  all_goals simp_all

set_option maxRecDepth 100000 in
theorem laws_eqPoint.eq (i : El c_laws_eqPoint.I) (x : El c_laws_eqPoint.A) : vc tab (gam [] [] eqs) (laws_eqPoint.L x.1 x.2) (match Try.f107.body with | some c => c | none => .skip) 1 (initSt c_laws_eqPoint Try.f107.ntmps i x) (bodyK tab c_laws_eqPoint Try.f107.results.toList [4] i x) = laws_eqPoint.F x.1 x.2 := by kernel_rfl
theorem laws_eqPoint.ok : ConOk Try.prog 107 c_laws_eqPoint :=
  conOk_of_eq (con := c_laws_eqPoint) (tab := tab) (Γ := (gam [] [] eqs)) (fn := Try.f107) (c := (match Try.f107.body with | some c => c | none => .skip)) (fun i x => laws_eqPoint.L x.1 x.2) (fun i x => laws_eqPoint.F x.1 x.2) rfl tabOk (gam_nil _ [] eqsOk) Try.func107 rfl [4] (by kernel_rfl) laws_eqPoint.eq fun i x h hi hw => laws_eqPoint.pure x.1 x.2 h hw

def fEq_PointS (a b : List (Int × Int)) : Bool := decide (a = b)
def c_laws_eqPointS : Con := { io := false, I := .unit, ownI := [], A := (.pair (.list (.pair (.int .i64) (.int .i64))) (.list (.pair (.int .i64) (.int .i64)))), shA := [.one, .one], ownA := [], backA := [], B := .unit, R := .bool, shR := [(false, 1)], fresh := [], newR := false, pre := fun _ a => True, f := some fun _ a => ((fEq_PointS a.1 a.2), ((), ())) }
def laws_eqPointS.F  (a0 : (List (Int × Int))) (a1 : (List (Int × Int))) : Prop := (caseB (((List.length a0 : Nat) : Int) != ((List.length a1 : Nat) : Int)) (((false, ((), ())) : Bool × (Unit × Unit)) = ((fEq_PointS a0 a1), ((), ()))) (([(0, .val false [.lst (.pair (.int .i64) (.int .i64)) a0 none]), (1, .val false [.lst (.pair (.int .i64) (.int .i64)) a1 none])] : List (Nat × Sv)) = [(0, .val false [.lst (.pair (.int .i64) (.int .i64)) a0 none]), (1, .val false [.lst (.pair (.int .i64) (.int .i64)) a1 none])] ∧ ((eqLI a0 a1 0) ∧ ∀ (y1 : Int), (eqLI a0 a1 y1) → (caseB (decide (y1 < ((List.length a0 : Nat) : Int))) (0 ≤ y1 ∧ (y1 < ((List.length a0 : Nat) : Int) ∧ (0 ≤ y1 ∧ (y1 < ((List.length a1 : Nat) : Int) ∧ (True ∧ ∀ (r2 : Bool × (Unit × Unit)), ((r2 : Bool × (Unit × Unit)) = ((fEq_Point ((List.getD a0 (Int.toNat y1) ((0 : Int), (0 : Int))).1, (List.getD a0 (Int.toNat y1) ((0 : Int), (0 : Int))).2) ((List.getD a1 (Int.toNat y1) ((0 : Int), (0 : Int))).1, (List.getD a1 (Int.toNat y1) ((0 : Int), (0 : Int))).2)), ((), ()))) → (caseB (!r2.1) (((false, ((), ())) : Bool × (Unit × Unit)) = ((fEq_PointS a0 a1), ((), ()))) (([(0, .val false [.lst (.pair (.int .i64) (.int .i64)) a0 none]), (1, .val false [.lst (.pair (.int .i64) (.int .i64)) a1 none])] : List (Nat × Sv)) = [(0, .val false [.lst (.pair (.int .i64) (.int .i64)) a0 none]), (1, .val false [.lst (.pair (.int .i64) (.int .i64)) a1 none])] ∧ (eqLI a0 a1 (IntKind.wrap .i64 (y1 + (1 : Int)))) ∧ (eqLM a0 a1 (IntKind.wrap .i64 (y1 + (1 : Int)))) < (eqLM a0 a1 y1)))))))) (((true, ((), ())) : Bool × (Unit × Unit)) = ((fEq_PointS a0 a1), ((), ())))))))
def laws_eqPointS.L  (a0 : (List (Int × Int))) (a1 : (List (Int × Int))) : Nat → Option LoopAnn := fun p => Go.Proofs.Ythjlommbnfooaaa.Bv.look p [(58, { kp := { hold := [0, 1], slots := [5], boxes := [], rows := [] }, T := (.int .i64), I := fun st y => eqLI a0 a1 y, μ := fun st y => eqLM a0 a1 y })]

theorem laws_eqPointS.pure  (a0 : (List (Int × Int))) (a1 : (List (Int × Int))) (h : True) (hw : Wf c_laws_eqPointS.A (a0, a1)) : laws_eqPointS.F a0 a1 := by
  unfold laws_eqPointS.F
  have hw1 : a0.length ≤ 9223372036854775807 := hw.1.1
  simp only [forall_eq, true_and, and_true, caseB_iff, Prod.mk.injEq, decide_eq_true_eq, decide_eq_false_iff_not, Bool.not_eq_true', Bool.not_eq_false', bne_iff_ne, ne_eq, beq_iff_eq, Bool.not_true, Bool.not_false, beq_eq_false_iff_ne, bne_eq_false_iff_eq, List.length_append, List.length_cons, List.length_nil, List.append_nil, Nat.zero_add, decide_true, decide_false, eq_self_iff_true]
  refine ⟨fun h1 => ?_, fun h1 => ?_⟩
  · have : a0 ≠ a1 := fun e => by subst e; simp at h1
    simp [fEq_PointS, this]
  have hl : a0.length = a1.length := by omega
  refine ⟨⟨by omega, by omega, hl, by simp⟩, ?_⟩
  rintro i hI
  have h2 := hI.1
  have h3 := hI.2.1
  refine ⟨fun hi => ⟨h2, hi, h2, by omega, fun hne => ?_, fun he => ?_⟩, fun hi => ?_⟩
  · have : a0 ≠ a1 := fun e => by subst e; simp [fEq_Point] at hne
    simp [fEq_PointS, this]
  · have hg : a0.getD i.toNat ((0 : Int), (0 : Int)) = a1.getD i.toNat ((0 : Int), (0 : Int)) := by simpa only [fEq_Point, decide_eq_true_eq] using he
    rw [w64 (x := i + 1) (by omega) (by omega)]
    exact ⟨eqL_step hI hi hg, by unfold eqLM; omega⟩
  · have h6 := eqL_end hI hi
    simp [fEq_PointS, h6]

set_option maxRecDepth 100000 in
theorem laws_eqPointS.eq (i : El c_laws_eqPointS.I) (x : El c_laws_eqPointS.A) : vc tab (gam [(107, c_laws_eqPoint)] [] eqs) (laws_eqPointS.L x.1 x.2) (match Try.f32.body with | some c => c | none => .skip) 1 (initSt c_laws_eqPointS Try.f32.ntmps i x) (bodyK tab c_laws_eqPointS Try.f32.results.toList [4] i x) = laws_eqPointS.F x.1 x.2 := by kernel_rfl
theorem laws_eqPointS.ok : ConOk Try.prog 32 c_laws_eqPointS :=
  conOk_of_eq (con := c_laws_eqPointS) (tab := tab) (Γ := (gam [(107, c_laws_eqPoint)] [] eqs)) (fn := Try.f32) (c := (match Try.f32.body with | some c => c | none => .skip)) (fun i x => laws_eqPointS.L x.1 x.2) (fun i x => laws_eqPointS.F x.1 x.2) rfl tabOk (gam_cons ⟨_, Try.func107, rfl, rfl⟩ laws_eqPoint.ok (gam_nil _ [] eqsOk)) Try.func32 rfl [4] (by kernel_rfl) laws_eqPointS.eq fun i x h hi hw => laws_eqPointS.pure x.1 x.2 h hw

def c_mPoint (x : (Int × Int)) : Int := 1 + 1
def m_Point (x : (Int × Int)) (k : Int) : (Int × Int) := (k, (k + 1))
def o_Point (x : (Int × Int)) (k : Int) : Bool := (decide (x.1 = k)) && (decide (x.2 = (k + 1)))
theorem ok_Point : ∀ (x : (Int × Int)) (k : Int), o_Point (m_Point x k) k = true ∧ c_mPoint (m_Point x k) = c_mPoint x := fun x k => by
  simp [o_Point, m_Point, c_mPoint]
theorem pos_Point : ∀ x : (Int × Int), 0 ≤ c_mPoint x := fun x => by
  unfold c_mPoint; omega
def pMk_PointS (l : List (Int × Int)) (k : Int) : Prop := 0 ≤ k ∧ k + cL c_mPoint l ≤ 4611686018427387904
def fMk_PointS (l : List (Int × Int)) (k : Int) : Int × List (Int × Int) := (k + cL c_mPoint l, mL c_mPoint m_Point l k)
def c_laws_markPointS : Con := { io := false, I := .unit, ownI := [], A := (.pair (.list (.pair (.int .i64) (.int .i64))) (.int .i64)), shA := [.one, .one], ownA := [], backA := [(0, 119)], B := (.list (.pair (.int .i64) (.int .i64))), R := (.int .i64), shR := [(false, 1)], fresh := [], newR := false, pre := fun _ a => (pMk_PointS a.1 a.2), f := some fun _ a => ((fMk_PointS a.1 a.2).1, ((), (fMk_PointS a.1 a.2).2)) }
def laws_markPointS.F  (a0 : (List (Int × Int))) (a1 : Int) : Prop := (([(0, .val false [.own (.pair (.int .i64) (.int .i64)) 2])] : List (Nat × Sv)) = [(0, .val false [.own (.pair (.int .i64) (.int .i64)) 2])] ∧ ((mkI c_mPoint m_Point a0 a1 a1 0 a0) ∧ ∀ (y1 : (Int × (Int × (List (Int × Int))))), (mkI c_mPoint m_Point a0 a1 y1.1 y1.2.1 y1.2.2) → (caseB (decide (y1.2.1 < ((List.length y1.2.2 : Nat) : Int))) (0 ≤ y1.2.1 ∧ (y1.2.1 < ((List.length y1.2.2 : Nat) : Int) ∧ (0 ≤ y1.2.1 ∧ (y1.2.1 < ((List.length (List.set y1.2.2 (Int.toNat y1.2.1) (y1.1, (List.getD y1.2.2 (Int.toNat y1.2.1) ((0 : Int), (0 : Int))).2)) : Nat) : Int) ∧ (let l2 : List (Int × Int) := (List.set (List.set y1.2.2 (Int.toNat y1.2.1) (y1.1, (List.getD y1.2.2 (Int.toNat y1.2.1) ((0 : Int), (0 : Int))).2)) (Int.toNat y1.2.1) ((List.getD (List.set y1.2.2 (Int.toNat y1.2.1) (y1.1, (List.getD y1.2.2 (Int.toNat y1.2.1) ((0 : Int), (0 : Int))).2)) (Int.toNat y1.2.1) ((0 : Int), (0 : Int))).1, (IntKind.wrap .i64 (y1.1 + (1 : Int))))); (([(0, .val false [.own (.pair (.int .i64) (.int .i64)) 2])] : List (Nat × Sv)) = [(0, .val false [.own (.pair (.int .i64) (.int .i64)) 2])] ∧ (mkI c_mPoint m_Point a0 a1 (IntKind.wrap .i64 ((IntKind.wrap .i64 (y1.1 + (1 : Int))) + (1 : Int))) (IntKind.wrap .i64 (y1.2.1 + (1 : Int))) l2) ∧ (mkM a0 a1 (IntKind.wrap .i64 ((IntKind.wrap .i64 (y1.1 + (1 : Int))) + (1 : Int))) (IntKind.wrap .i64 (y1.2.1 + (1 : Int))) l2) < (mkM a0 a1 y1.1 y1.2.1 y1.2.2))))))) (((y1.1, ((), y1.2.2)) : Int × (Unit × (List (Int × Int)))) = ((fMk_PointS a0 a1).1, ((), (fMk_PointS a0 a1).2))))))
def laws_markPointS.L  (a0 : (List (Int × Int))) (a1 : Int) : Nat → Option LoopAnn := fun p => Go.Proofs.Ythjlommbnfooaaa.Bv.look p [(26, { kp := { hold := [0], slots := [1, 5], boxes := [], rows := [{ bx := false, s := 0, i := 0, k := 2, e := 119, hot := true }] }, T := (.pair (.int .i64) (.pair (.int .i64) (.list (.pair (.int .i64) (.int .i64))))), I := fun st y => mkI c_mPoint m_Point a0 a1 y.1 y.2.1 y.2.2, μ := fun st y => mkM a0 a1 y.1 y.2.1 y.2.2 })]

theorem laws_markPointS.pure  (a0 : (List (Int × Int))) (a1 : Int) (h : (pMk_PointS a0 a1)) (hw : Wf c_laws_markPointS.A (a0, a1)) : laws_markPointS.F a0 a1 := by
  unfold laws_markPointS.F
  obtain ⟨p1, p2⟩ := h
  have hw1 : a0.length ≤ 9223372036854775807 := hw.1.1
  simp only [forall_eq, true_and, and_true, caseB_iff, Prod.mk.injEq, decide_eq_true_eq, decide_eq_false_iff_not, Bool.not_eq_true', Bool.not_eq_false', bne_iff_ne, ne_eq, beq_iff_eq, Bool.not_true, Bool.not_false, beq_eq_false_iff_ne, bne_eq_false_iff_eq, List.length_append, List.length_cons, List.length_nil, List.append_nil, Nat.zero_add, decide_true, decide_false, eq_self_iff_true]
  refine ⟨⟨by omega, by omega, by simp [cL], by simp [mL]⟩, ?_⟩
  rintro ⟨k, i, l⟩ hI
  simp only at hI ⊢
  have hl := mk_len hI
  have h2 := hI.1
  have h3 := hI.2
  refine ⟨fun hi0 => ?_, fun hi0 => ?_⟩
  · have hi : i < (a0.length : Int) := by omega
    have hi' : i.toNat < l.length := by omega
    have hg := mk_at (d := ((0 : Int), (0 : Int))) hI hi
    have hs := cL_split c_mPoint ((0 : Int), (0 : Int)) (l := a0) (i := i.toNat) (by omega)
    have hk := hI.3
    have c1 := cL_pos pos_Point (a0.take i.toNat)
    have c2 := cL_pos pos_Point (a0.drop (i.toNat + 1))
    have c3 := pos_Point (a0.getD i.toNat ((0 : Int), (0 : Int)))
    have hmod : Int.tmod k 3 = k % 3 := Int.tmod_eq_emod_of_nonneg (by omega)
    have hc : c_mPoint (a0.getD i.toNat ((0 : Int), (0 : Int))) = c_mPoint (a0.getD i.toNat ((0 : Int), (0 : Int))) := rfl
    conv at hc => rhs; unfold c_mPoint
    try simp only [hg, getD_set_self hi', List.set_set, List.length_set]
    try simp (disch := first | omega | simp_all) only [getD_set_self, List.set_set, List.length_set, hg, w64, pMT]
    repeat' (with_reducible (first | (refine And.intro ?_ ?_) | intro _))
    all_goals (try simp +zetaDelta (disch := first | omega | simp_all) only [hg, getD_set_self, List.set_set, List.length_set, w64, pMT])
    all_goals (first | omega | exact mk_step (d := ((0 : Int), (0 : Int))) hI hi (by simp [m_Point, hmod]) (by omega) | (unfold mkM; omega) | skip)
  · obtain ⟨e1, e2⟩ := mk_end hI (by omega)
    exact ⟨e1, e2⟩

set_option maxRecDepth 100000 in
theorem laws_markPointS.eq (i : El c_laws_markPointS.I) (x : El c_laws_markPointS.A) : vc tab (gam [] [] eqs) (laws_markPointS.L x.1 x.2) (match Try.f33.body with | some c => c | none => .skip) 1 (initSt c_laws_markPointS Try.f33.ntmps i x) (bodyK tab c_laws_markPointS Try.f33.results.toList [3] i x) = laws_markPointS.F x.1 x.2 := by kernel_rfl
theorem laws_markPointS.ok : ConOk Try.prog 33 c_laws_markPointS :=
  conOk_of_eq (con := c_laws_markPointS) (tab := tab) (Γ := (gam [] [] eqs)) (fn := Try.f33) (c := (match Try.f33.body with | some c => c | none => .skip)) (fun i x => laws_markPointS.L x.1 x.2) (fun i x => laws_markPointS.F x.1 x.2) rfl tabOk (gam_nil _ [] eqsOk) Try.func33 rfl [3] (by kernel_rfl) laws_markPointS.eq fun i x h hi hw => laws_markPointS.pure x.1 x.2 h hw

def fHd_PointS (l : List (Int × Int)) (k : Int) : Int := fHd (cL c_mPoint l) (oL c_mPoint o_Point l k) k
def c_laws_heldPointS : Con := { io := false, I := .unit, ownI := [], A := (.pair (.list (.pair (.int .i64) (.int .i64))) (.int .i64)), shA := [.one, .one], ownA := [], backA := [], B := .unit, R := (.int .i64), shR := [(false, 1)], fresh := [], newR := false, pre := fun _ a => (pMk_PointS a.1 a.2), f := some fun _ a => ((fHd_PointS a.1 a.2), ((), ())) }
def laws_heldPointS.F  (a0 : (List (Int × Int))) (a1 : Int) : Prop := (([(0, .val false [.lst (.pair (.int .i64) (.int .i64)) a0 none])] : List (Nat × Sv)) = [(0, .val false [.lst (.pair (.int .i64) (.int .i64)) a0 none])] ∧ ((hdI c_mPoint o_Point a0 a1 a1 0) ∧ ∀ (y1 : (Int × Int)), (hdI c_mPoint o_Point a0 a1 y1.1 y1.2) → (caseB (decide (y1.2 < ((List.length a0 : Nat) : Int))) (0 ≤ y1.2 ∧ (y1.2 < ((List.length a0 : Nat) : Int) ∧ (caseB (((List.getD a0 (Int.toNat y1.2) ((0 : Int), (0 : Int))).1) != y1.1) ((((-1), ((), ())) : Int × (Unit × Unit)) = ((fHd_PointS a0 a1), ((), ()))) (0 ≤ y1.2 ∧ (y1.2 < ((List.length a0 : Nat) : Int) ∧ (caseB (((List.getD a0 (Int.toNat y1.2) ((0 : Int), (0 : Int))).2) != (IntKind.wrap .i64 (y1.1 + (1 : Int)))) ((((-1), ((), ())) : Int × (Unit × Unit)) = ((fHd_PointS a0 a1), ((), ()))) (([(0, .val false [.lst (.pair (.int .i64) (.int .i64)) a0 none])] : List (Nat × Sv)) = [(0, .val false [.lst (.pair (.int .i64) (.int .i64)) a0 none])] ∧ (hdI c_mPoint o_Point a0 a1 (IntKind.wrap .i64 ((IntKind.wrap .i64 (y1.1 + (1 : Int))) + (1 : Int))) (IntKind.wrap .i64 (y1.2 + (1 : Int)))) ∧ (hdM a0 a1 (IntKind.wrap .i64 ((IntKind.wrap .i64 (y1.1 + (1 : Int))) + (1 : Int))) (IntKind.wrap .i64 (y1.2 + (1 : Int)))) < (hdM a0 a1 y1.1 y1.2)))))))) (((y1.1, ((), ())) : Int × (Unit × Unit)) = ((fHd_PointS a0 a1), ((), ()))))))
def laws_heldPointS.L  (a0 : (List (Int × Int))) (a1 : Int) : Nat → Option LoopAnn := fun p => Go.Proofs.Ythjlommbnfooaaa.Bv.look p [(26, { kp := { hold := [0], slots := [1, 5], boxes := [], rows := [] }, T := (.pair (.int .i64) (.int .i64)), I := fun st y => hdI c_mPoint o_Point a0 a1 y.1 y.2, μ := fun st y => hdM a0 a1 y.1 y.2 })]

theorem laws_heldPointS.pure  (a0 : (List (Int × Int))) (a1 : Int) (h : (pMk_PointS a0 a1)) (hw : Wf c_laws_heldPointS.A (a0, a1)) : laws_heldPointS.F a0 a1 := by
  unfold laws_heldPointS.F
  obtain ⟨p1, p2⟩ := h
  have hw1 : a0.length ≤ 9223372036854775807 := hw.1.1
  simp only [forall_eq, true_and, and_true, caseB_iff, Prod.mk.injEq, decide_eq_true_eq, decide_eq_false_iff_not, Bool.not_eq_true', Bool.not_eq_false', bne_iff_ne, ne_eq, beq_iff_eq, Bool.not_true, Bool.not_false, beq_eq_false_iff_ne, bne_eq_false_iff_eq, List.length_append, List.length_cons, List.length_nil, List.append_nil, Nat.zero_add, decide_true, decide_false, eq_self_iff_true]
  refine ⟨⟨by omega, by omega, by simp [cL], by simp⟩, ?_⟩
  rintro ⟨k, i⟩ hI
  simp only at hI ⊢
  have h2 := hI.1
  have h3 := hI.2
  refine ⟨fun hi => ?_, fun hi => hd_end hI hi⟩
  · have hs := cL_split c_mPoint ((0 : Int), (0 : Int)) (l := a0) (i := i.toNat) (by omega)
    have hk := hI.3
    have c1 := cL_pos pos_Point (a0.take i.toNat)
    have c2 := cL_pos pos_Point (a0.drop (i.toNat + 1))
    have c3 := pos_Point (a0.getD i.toNat ((0 : Int), (0 : Int)))
    have hmod : Int.tmod k 3 = k % 3 := Int.tmod_eq_emod_of_nonneg (by omega)
    have no : o_Point (a0.getD i.toNat ((0 : Int), (0 : Int))) k = false → -1 = fHd_PointS a0 a1 := fun ho => hd_no ((0 : Int), (0 : Int)) hI hi ho
    have yes : o_Point (a0.getD i.toNat ((0 : Int), (0 : Int))) k = true → hdI c_mPoint o_Point a0 a1 (k + c_mPoint (a0.getD i.toNat ((0 : Int), (0 : Int)))) (i + 1) := fun ho => hd_step ((0 : Int), (0 : Int)) hI hi ho rfl
    generalize a0.getD i.toNat ((0 : Int), (0 : Int)) = x at *
    have hc : c_mPoint x = c_mPoint x := rfl
    conv at hc => rhs; unfold c_mPoint
    simp only [o_Point] at no yes
    simp (disch := omega) only [w64, pMT]
    repeat' (with_reducible (first | (refine And.intro ?_ ?_) | intro _))
    all_goals (first | omega | (unfold hdM; omega) | skip)
    all_goals (try simp (disch := first | omega | assumption) only [fHd_neg, fHd_yes, w64, Bool.not_eq_false] at *)
    all_goals (try simp (disch := first | omega | assumption) only [fHd_neg, fHd_yes, w64, Bool.not_eq_false] at *)
    all_goals (first | omega | grind)

set_option maxRecDepth 100000 in
theorem laws_heldPointS.eq (i : El c_laws_heldPointS.I) (x : El c_laws_heldPointS.A) : vc tab (gam [] [] eqs) (laws_heldPointS.L x.1 x.2) (match Try.f34.body with | some c => c | none => .skip) 1 (initSt c_laws_heldPointS Try.f34.ntmps i x) (bodyK tab c_laws_heldPointS Try.f34.results.toList [3] i x) = laws_heldPointS.F x.1 x.2 := by kernel_rfl
theorem laws_heldPointS.ok : ConOk Try.prog 34 c_laws_heldPointS :=
  conOk_of_eq (con := c_laws_heldPointS) (tab := tab) (Γ := (gam [] [] eqs)) (fn := Try.f34) (c := (match Try.f34.body with | some c => c | none => .skip)) (fun i x => laws_heldPointS.L x.1 x.2) (fun i x => laws_heldPointS.F x.1 x.2) rfl tabOk (gam_nil _ [] eqsOk) Try.func34 rfl [3] (by kernel_rfl) laws_heldPointS.eq fun i x h hi hw => laws_heldPointS.pure x.1 x.2 h hw

def n_Series (x : ((List UInt8) × (List (Int × Int)))) : Nat := (x.1.length) + (List.length x.2)
def pSz_Series (x : ((List UInt8) × (List (Int × Int)))) (left : Int) : Prop := WfD (.pair .str (.list (.pair (.int .i64) (.int .i64)))) x ∧ 0 ≤ left ∧ left ≤ 1048576
def fSz_Series (x : ((List UInt8) × (List (Int × Int)))) (left : Int) : Int := fSz (n_Series x) left
def c_laws_szSeries : Con := { io := false, I := .unit, ownI := [], A := (.pair (.pair .str (.list (.pair (.int .i64) (.int .i64)))) (.int .i64)), shA := [.agg 2, .one], ownA := [], backA := [], B := .unit, R := (.int .i64), shR := [(false, 1)], fresh := [], newR := false, pre := fun _ a => (pSz_Series a.1 a.2), f := some fun _ a => ((fSz_Series a.1 a.2), ((), ())) }
def laws_szSeries.F  (a0 : ((List UInt8) × (List (Int × Int)))) (a1 : Int) : Prop := (caseB (decide ((IntKind.wrap .i64 (a1 - ((List.length a0.1 : Nat) : Int))) < (0 : Int))) ((((-1), ((), ())) : Int × (Unit × Unit)) = ((fSz_Series a0 a1), ((), ()))) ((pSz_PointS a0.2 (IntKind.wrap .i64 (a1 - ((List.length a0.1 : Nat) : Int)))) ∧ ∀ (r1 : Int × (Unit × Unit)), ((r1 : Int × (Unit × Unit)) = ((fSz_PointS a0.2 (IntKind.wrap .i64 (a1 - ((List.length a0.1 : Nat) : Int)))), ((), ()))) → (caseB (decide (r1.1 < (0 : Int))) ((((-1), ((), ())) : Int × (Unit × Unit)) = ((fSz_Series a0 a1), ((), ()))) (((r1.1, ((), ())) : Int × (Unit × Unit)) = ((fSz_Series a0 a1), ((), ()))))))
def laws_szSeries.L  (a0 : ((List UInt8) × (List (Int × Int)))) (a1 : Int) : Nat → Option LoopAnn := fun p => Go.Proofs.Ythjlommbnfooaaa.Bv.look p []

theorem laws_szSeries.pure  (a0 : ((List UInt8) × (List (Int × Int)))) (a1 : Int) (h : (pSz_Series a0 a1)) (hw : Wf c_laws_szSeries.A (a0, a1)) : laws_szSeries.F a0 a1 := by
  unfold laws_szSeries.F
  obtain ⟨hwf, p1, p2⟩ := h
  have w0 : a0.1.length ≤ 9223372036854775807 := hwf.1
  have w1 : WfD (.list (.pair (.int .i64) (.int .i64))) a0.2 := hwf.2
  simp only [forall_eq, true_and, and_true, caseB_iff, Prod.mk.injEq, decide_eq_true_eq, decide_eq_false_iff_not, Bool.not_eq_true', Bool.not_eq_false', bne_iff_ne, ne_eq, beq_iff_eq, Bool.not_true, Bool.not_false, beq_eq_false_iff_ne, bne_eq_false_iff_eq, List.length_append, List.length_cons, List.length_nil, List.append_nil, Nat.zero_add, decide_true, decide_false, eq_self_iff_true, n_Series, fSz_Series, pSz_PointS, fSz_PointS]
  repeat' (with_reducible (first | (refine And.intro ?_ ?_) | intro _))
  all_goals (try simp (disch := omega) only [w64, wu8, tn0, tn1, tm1, tm2, List.length_append, List.length_cons, List.length_nil] at *)
  all_goals (try simp (disch := omega) only [w64, wu8, tn0, tn1, tm1, tm2, List.length_append, List.length_cons, List.length_nil] at *)
  all_goals (try omega)
  all_goals (try grind [fSz])

set_option maxRecDepth 100000 in
theorem laws_szSeries.eq (i : El c_laws_szSeries.I) (x : El c_laws_szSeries.A) : vc tab (gam [(136, c_laws_szPointS)] [] eqs) (laws_szSeries.L x.1 x.2) (match Try.f86.body with | some c => c | none => .skip) 1 (initSt c_laws_szSeries Try.f86.ntmps i x) (bodyK tab c_laws_szSeries Try.f86.results.toList [3] i x) = laws_szSeries.F x.1 x.2 := by kernel_rfl
theorem laws_szSeries.ok : ConOk Try.prog 86 c_laws_szSeries :=
  conOk_of_eq (con := c_laws_szSeries) (tab := tab) (Γ := (gam [(136, c_laws_szPointS)] [] eqs)) (fn := Try.f86) (c := (match Try.f86.body with | some c => c | none => .skip)) (fun i x => laws_szSeries.L x.1 x.2) (fun i x => laws_szSeries.F x.1 x.2) rfl tabOk (gam_cons ⟨_, Try.func136, rfl, rfl⟩ laws_szPointS.ok (gam_nil _ [] eqsOk)) Try.func86 rfl [3] (by kernel_rfl) laws_szSeries.eq fun i x h hi hw => laws_szSeries.pure x.1 x.2 h hw

def pSz_SeriesS (x : List ((List UInt8) × (List (Int × Int)))) (left : Int) : Prop := WfD (.list (.pair .str (.list (.pair (.int .i64) (.int .i64))))) x ∧ 0 ≤ left ∧ left ≤ 1048576
def fSz_SeriesS (x : List ((List UInt8) × (List (Int × Int)))) (left : Int) : Int := fSz (nL n_Series x) left
def c_laws_szSeriesS : Con := { io := false, I := .unit, ownI := [], A := (.pair (.list (.pair .str (.list (.pair (.int .i64) (.int .i64))))) (.int .i64)), shA := [.one, .one], ownA := [], backA := [], B := .unit, R := (.int .i64), shR := [(false, 1)], fresh := [], newR := false, pre := fun _ a => (pSz_SeriesS a.1 a.2), f := some fun _ a => ((fSz_SeriesS a.1 a.2), ((), ())) }
def laws_szSeriesS.F  (a0 : (List ((List UInt8) × (List (Int × Int))))) (a1 : Int) : Prop := (caseB (decide ((IntKind.wrap .i64 (a1 - ((List.length a0 : Nat) : Int))) < (0 : Int))) ((((-1), ((), ())) : Int × (Unit × Unit)) = ((fSz_SeriesS a0 a1), ((), ()))) (([(0, .val false [.lst (.pair .str (.list (.pair (.int .i64) (.int .i64)))) a0 none])] : List (Nat × Sv)) = [(0, .val false [.lst (.pair .str (.list (.pair (.int .i64) (.int .i64)))) a0 none])] ∧ ((szLI n_Series a0 a1 (IntKind.wrap .i64 (a1 - ((List.length a0 : Nat) : Int))) 0) ∧ ∀ (y1 : (Int × Int)), (szLI n_Series a0 a1 y1.1 y1.2) → (caseB (decide (y1.2 < ((List.length a0 : Nat) : Int))) (0 ≤ y1.2 ∧ (y1.2 < ((List.length a0 : Nat) : Int) ∧ ((pSz_Series ((List.getD a0 (Int.toNat y1.2) (([] : (List UInt8)), ([] : (List (Int × Int))))).1, (List.getD a0 (Int.toNat y1.2) (([] : (List UInt8)), ([] : (List (Int × Int))))).2) y1.1) ∧ ∀ (r2 : Int × (Unit × Unit)), ((r2 : Int × (Unit × Unit)) = ((fSz_Series ((List.getD a0 (Int.toNat y1.2) (([] : (List UInt8)), ([] : (List (Int × Int))))).1, (List.getD a0 (Int.toNat y1.2) (([] : (List UInt8)), ([] : (List (Int × Int))))).2) y1.1), ((), ()))) → (caseB (decide (r2.1 < (0 : Int))) ((((-1), ((), ())) : Int × (Unit × Unit)) = ((fSz_SeriesS a0 a1), ((), ()))) (([(0, .val false [.lst (.pair .str (.list (.pair (.int .i64) (.int .i64)))) a0 none])] : List (Nat × Sv)) = [(0, .val false [.lst (.pair .str (.list (.pair (.int .i64) (.int .i64)))) a0 none])] ∧ (szLI n_Series a0 a1 r2.1 (IntKind.wrap .i64 (y1.2 + (1 : Int)))) ∧ (szLM a0 a1 r2.1 (IntKind.wrap .i64 (y1.2 + (1 : Int)))) < (szLM a0 a1 y1.1 y1.2)))))) (((y1.1, ((), ())) : Int × (Unit × Unit)) = ((fSz_SeriesS a0 a1), ((), ())))))))
def laws_szSeriesS.L  (a0 : (List ((List UInt8) × (List (Int × Int))))) (a1 : Int) : Nat → Option LoopAnn := fun p => Go.Proofs.Ythjlommbnfooaaa.Bv.look p [(122, { kp := { hold := [0], slots := [1, 5], boxes := [], rows := [] }, T := (.pair (.int .i64) (.int .i64)), I := fun st y => szLI n_Series a0 a1 y.1 y.2, μ := fun st y => szLM a0 a1 y.1 y.2 })]

theorem laws_szSeriesS.pure  (a0 : (List ((List UInt8) × (List (Int × Int))))) (a1 : Int) (h : (pSz_SeriesS a0 a1)) (hw : Wf c_laws_szSeriesS.A (a0, a1)) : laws_szSeriesS.F a0 a1 := by
  unfold laws_szSeriesS.F
  obtain ⟨hwf, p1, p2⟩ := h
  have hw1 : a0.length ≤ 9223372036854775807 := hwf.1
  simp only [forall_eq, true_and, and_true, caseB_iff, Prod.mk.injEq, decide_eq_true_eq, decide_eq_false_iff_not, Bool.not_eq_true', Bool.not_eq_false', bne_iff_ne, ne_eq, beq_iff_eq, Bool.not_true, Bool.not_false, beq_eq_false_iff_ne, bne_eq_false_iff_eq, List.length_append, List.length_cons, List.length_nil, List.append_nil, Nat.zero_add, decide_true, decide_false, eq_self_iff_true, fSz_SeriesS]
  rw [w64 (x := a1 - (a0.length : Int)) (by omega) (by omega)]
  refine ⟨fun h1 => (fSz_no (by unfold nL; omega)).symm, fun h1 => ⟨⟨by omega, by omega, by omega, by rw [show Int.toNat 0 = 0 from rfl, sumT_zero]; omega⟩, ?_⟩⟩
  rintro ⟨left, i⟩ ⟨h2, h3, h4, h5⟩
  simp only at h2 h3 h4 h5 ⊢
  refine ⟨fun hi => ?_, fun hi => ?_⟩
  · have hm : a0.getD i.toNat (([] : (List UInt8)), ([] : (List (Int × Int)))) ∈ a0 := getD_mem (by omega)
    have s1 := sumT_succ n_Series a0 (([] : (List UInt8)), ([] : (List (Int × Int)))) (i := i.toNat) (by omega)
    have s2 := sumT_le n_Series a0 (i.toNat + 1)
    have hwx : WfD (.pair .str (.list (.pair (.int .i64) (.int .i64)))) (a0.getD i.toNat (([] : (List UInt8)), ([] : (List (Int × Int))))) := hwf.2 _ hm
    rw [w64 (x := i + 1) (by omega) (by omega)]
    simp only [fSz_Series]
    by_cases hc : left < (n_Series (a0.getD i.toNat (([] : (List UInt8)), ([] : (List (Int × Int))))) : Int)
    · rw [fSz_no hc]
      exact ⟨h2, hi, ⟨hwx, h4, by omega⟩, fun h6 => (fSz_no (by unfold nL; omega)).symm, fun h6 => absurd (by decide) h6⟩
    · rw [fSz_yes hc]
      exact ⟨h2, hi, ⟨hwx, h4, by omega⟩, fun h6 => by omega, fun h6 => ⟨⟨by omega, by omega, by omega, by rw [tn1 h2]; omega⟩, by unfold szLM; omega⟩⟩
  · have e : i.toNat = a0.length := by omega
    rw [e] at h5
    rw [fSz_yes (by unfold nL; omega)]
    unfold nL; omega

set_option maxRecDepth 100000 in
theorem laws_szSeriesS.eq (i : El c_laws_szSeriesS.I) (x : El c_laws_szSeriesS.A) : vc tab (gam [(86, c_laws_szSeries)] [] eqs) (laws_szSeriesS.L x.1 x.2) (match Try.f25.body with | some c => c | none => .skip) 1 (initSt c_laws_szSeriesS Try.f25.ntmps i x) (bodyK tab c_laws_szSeriesS Try.f25.results.toList [3] i x) = laws_szSeriesS.F x.1 x.2 := by kernel_rfl
theorem laws_szSeriesS.ok : ConOk Try.prog 25 c_laws_szSeriesS :=
  conOk_of_eq (con := c_laws_szSeriesS) (tab := tab) (Γ := (gam [(86, c_laws_szSeries)] [] eqs)) (fn := Try.f25) (c := (match Try.f25.body with | some c => c | none => .skip)) (fun i x => laws_szSeriesS.L x.1 x.2) (fun i x => laws_szSeriesS.F x.1 x.2) rfl tabOk (gam_cons ⟨_, Try.func86, rfl, rfl⟩ laws_szSeries.ok (gam_nil _ [] eqsOk)) Try.func25 rfl [3] (by kernel_rfl) laws_szSeriesS.eq fun i x h hi hw => laws_szSeriesS.pure x.1 x.2 h hw

def pTo_Series (x : ((List UInt8) × (List (Int × Int)))) : Prop := n_Series x ≤ 1048576
def fTo_Series (x : ((List UInt8) × (List (Int × Int)))) : ((List UInt8) × (List (Int × Int))) := x
def c_laws_toSeries : Con := { io := false, I := .unit, ownI := [], A := (.pair .str (.list (.pair (.int .i64) (.int .i64)))), shA := [.agg 2], ownA := [], backA := [], B := .unit, R := (.pair .str (.list (.pair (.int .i64) (.int .i64)))), shR := [(true, 2)], fresh := [(1, 119)], newR := false, pre := fun _ a => (pTo_Series a), f := some fun _ a => ((fTo_Series a), ((), ())) }
def laws_toSeries.F  (a0 : ((List UInt8) × (List (Int × Int)))) : Prop := ((pTo_PointS a0.2) ∧ ∀ (r1 : (List (Int × Int)) × (Unit × Unit)), ((r1 : (List (Int × Int)) × (Unit × Unit)) = ((fTo_PointS a0.2), ((), ()))) → ((((a0.1, r1.1), ((), ())) : ((List UInt8) × (List (Int × Int))) × (Unit × Unit)) = ((fTo_Series a0), ((), ()))))
def laws_toSeries.L  (a0 : ((List UInt8) × (List (Int × Int)))) : Nat → Option LoopAnn := fun p => Go.Proofs.Ythjlommbnfooaaa.Bv.look p []

theorem laws_toSeries.pure  (a0 : ((List UInt8) × (List (Int × Int)))) (h : (pTo_Series a0)) (hw : Wf c_laws_toSeries.A a0) : laws_toSeries.F a0 := by
  unfold laws_toSeries.F
  have hp : n_Series a0 ≤ 1048576 := h
  simp only [n_Series] at hp
  simp only [forall_eq, true_and, and_true, caseB_iff, Prod.mk.injEq, decide_eq_true_eq, decide_eq_false_iff_not, Bool.not_eq_true', Bool.not_eq_false', bne_iff_ne, ne_eq, beq_iff_eq, Bool.not_true, Bool.not_false, beq_eq_false_iff_ne, bne_eq_false_iff_eq, List.length_append, List.length_cons, List.length_nil, List.append_nil, Nat.zero_add, decide_true, decide_false, eq_self_iff_true, n_Series, fTo_Series, pTo_Series, pTo_PointS, fTo_PointS]
  repeat' (with_reducible (first | (refine And.intro ?_ ?_) | intro _))
  all_goals (try simp (disch := omega) only [w64, wu8, tn0, tn1, tm1, tm2, List.length_append, List.length_cons, List.length_nil] at *)
  all_goals (try simp (disch := omega) only [w64, wu8, tn0, tn1, tm1, tm2, List.length_append, List.length_cons, List.length_nil] at *)
  all_goals (try omega)
  all_goals (try grind [])

set_option maxRecDepth 100000 in
theorem laws_toSeries.eq (i : El c_laws_toSeries.I) (x : El c_laws_toSeries.A) : vc tab (gam [(141, c_laws_toPointS)] [] eqs) (laws_toSeries.L x) (match Try.f92.body with | some c => c | none => .skip) 1 (initSt c_laws_toSeries Try.f92.ntmps i x) (bodyK tab c_laws_toSeries Try.f92.results.toList [115] i x) = laws_toSeries.F x := by kernel_rfl
theorem laws_toSeries.ok : ConOk Try.prog 92 c_laws_toSeries :=
  conOk_of_eq (con := c_laws_toSeries) (tab := tab) (Γ := (gam [(141, c_laws_toPointS)] [] eqs)) (fn := Try.f92) (c := (match Try.f92.body with | some c => c | none => .skip)) (fun i x => laws_toSeries.L x) (fun i x => laws_toSeries.F x) rfl tabOk (gam_cons ⟨_, Try.func141, rfl, rfl⟩ laws_toPointS.ok (gam_nil _ [] eqsOk)) Try.func92 rfl [115] (by kernel_rfl) laws_toSeries.eq fun i x h hi hw => laws_toSeries.pure x h hw

def pTo_SeriesS (x : List ((List UInt8) × (List (Int × Int)))) : Prop := nL n_Series x ≤ 1048576
def fTo_SeriesS (x : List ((List UInt8) × (List (Int × Int)))) : List ((List UInt8) × (List (Int × Int))) := x
def c_laws_toSeriesS : Con := { io := false, I := .unit, ownI := [], A := (.list (.pair .str (.list (.pair (.int .i64) (.int .i64))))), shA := [.one], ownA := [], backA := [], B := .unit, R := (.list (.pair .str (.list (.pair (.int .i64) (.int .i64))))), shR := [(false, 1)], fresh := [(0, 115)], newR := false, pre := fun _ a => (pTo_SeriesS a), f := some fun _ a => ((fTo_SeriesS a), ((), ())) }
def laws_toSeriesS.F  (a0 : (List ((List UInt8) × (List (Int × Int))))) : Prop := (0 ≤ ((List.length a0 : Nat) : Int) ∧ (((List.length a0 : Nat) : Int) ≤ ((List.length a0 : Nat) : Int) ∧ (((List.length a0 : Nat) : Int) ≤ 9223372036854775807 ∧ (((40 : Nat) : Int) * ((List.length a0 : Nat) : Int) ≤ 140737488355328 ∧ (([(0, .val false [.lst (.pair .str (.list (.pair (.int .i64) (.int .i64)))) a0 none]), (3, .val false [.own (.pair .str (.list (.pair (.int .i64) (.int .i64)))) 1000387])] : List (Nat × Sv)) = [(0, .val false [.lst (.pair .str (.list (.pair (.int .i64) (.int .i64)))) a0 none]), (3, .val false [.own (.pair .str (.list (.pair (.int .i64) (.int .i64)))) 1000387])] ∧ ((cpI (([] : (List UInt8)), ([] : (List (Int × Int)))) a0 0 (List.replicate (Int.toNat ((List.length a0 : Nat) : Int)) (([] : (List UInt8)), ([] : (List (Int × Int)))))) ∧ ∀ (y1 : (Int × (List ((List UInt8) × (List (Int × Int)))))), (cpI (([] : (List UInt8)), ([] : (List (Int × Int)))) a0 y1.1 y1.2) → (caseB (decide (y1.1 < ((List.length a0 : Nat) : Int))) (0 ≤ y1.1 ∧ (y1.1 < ((List.length a0 : Nat) : Int) ∧ ((pTo_Series ((List.getD a0 (Int.toNat y1.1) (([] : (List UInt8)), ([] : (List (Int × Int))))).1, (List.getD a0 (Int.toNat y1.1) (([] : (List UInt8)), ([] : (List (Int × Int))))).2)) ∧ ∀ (r2 : ((List UInt8) × (List (Int × Int))) × (Unit × Unit)), ((r2 : ((List UInt8) × (List (Int × Int))) × (Unit × Unit)) = ((fTo_Series ((List.getD a0 (Int.toNat y1.1) (([] : (List UInt8)), ([] : (List (Int × Int))))).1, (List.getD a0 (Int.toNat y1.1) (([] : (List UInt8)), ([] : (List (Int × Int))))).2)), ((), ()))) → (0 ≤ y1.1 ∧ (y1.1 < ((List.length y1.2 : Nat) : Int) ∧ (([(0, .val false [.lst (.pair .str (.list (.pair (.int .i64) (.int .i64)))) a0 none]), (3, .val false [.own (.pair .str (.list (.pair (.int .i64) (.int .i64)))) 1000387])] : List (Nat × Sv)) = [(0, .val false [.lst (.pair .str (.list (.pair (.int .i64) (.int .i64)))) a0 none]), (3, .val false [.own (.pair .str (.list (.pair (.int .i64) (.int .i64)))) 1000387])] ∧ (cpI (([] : (List UInt8)), ([] : (List (Int × Int)))) a0 (IntKind.wrap .i64 (y1.1 + (1 : Int))) (List.set y1.2 (Int.toNat y1.1) (r2.1.1, r2.1.2))) ∧ (cpM a0 (IntKind.wrap .i64 (y1.1 + (1 : Int))) (List.set y1.2 (Int.toNat y1.1) (r2.1.1, r2.1.2))) < (cpM a0 y1.1 y1.2))))))) (((y1.2, ((), ())) : (List ((List UInt8) × (List (Int × Int)))) × (Unit × Unit)) = ((fTo_SeriesS a0), ((), ()))))))))))
def laws_toSeriesS.L  (a0 : (List ((List UInt8) × (List (Int × Int))))) : Nat → Option LoopAnn := fun p => Go.Proofs.Ythjlommbnfooaaa.Bv.look p [(58, { kp := { hold := [0, 3], slots := [4], boxes := [], rows := [{ bx := false, s := 3, i := 0, k := 1000387, e := 115, hot := true }] }, T := (.pair (.int .i64) (.list (.pair .str (.list (.pair (.int .i64) (.int .i64)))))), I := fun st y => cpI (([] : (List UInt8)), ([] : (List (Int × Int)))) a0 y.1 y.2, μ := fun st y => cpM a0 y.1 y.2 })]

theorem laws_toSeriesS.pure  (a0 : (List ((List UInt8) × (List (Int × Int))))) (h : (pTo_SeriesS a0)) (hw : Wf c_laws_toSeriesS.A a0) : laws_toSeriesS.F a0 := by
  unfold laws_toSeriesS.F
  have hb : a0.length ≤ 1048576 := by have h1 : nL n_Series a0 ≤ 1048576 := h; unfold nL at h1; omega
  simp only [forall_eq, true_and, and_true, caseB_iff, Prod.mk.injEq, decide_eq_true_eq, decide_eq_false_iff_not, Bool.not_eq_true', Bool.not_eq_false', bne_iff_ne, ne_eq, beq_iff_eq, Bool.not_true, Bool.not_false, beq_eq_false_iff_ne, bne_eq_false_iff_eq, List.length_append, List.length_cons, List.length_nil, List.append_nil, Nat.zero_add, decide_true, decide_false, eq_self_iff_true, fTo_SeriesS]
  refine ⟨by omega, by omega, by omega, by omega, ⟨by omega, by omega, by simp⟩, ?_⟩
  rintro ⟨i, out⟩ hI
  simp only at hI ⊢
  refine ⟨fun hi => ?_, fun hi => cp_end hI hi⟩
  have hl := cp_len hI
  have h3 := hI.2.1
  have h2 := hI.1
  have hp : pTo_Series (a0.getD i.toNat (([] : (List UInt8)), ([] : (List (Int × Int))))) := by
    have h1 : nL n_Series a0 ≤ 1048576 := h
    have hm : a0.getD i.toNat (([] : (List UInt8)), ([] : (List (Int × Int)))) ∈ a0 := getD_mem (by omega)
    show n_Series _ ≤ 1048576
    have := nL_mem n_Series hm; omega
  rw [w64 (x := i + 1) (by omega) (by omega)]
  simp only [fTo_Series, hl]
  exact ⟨h2, hi, hp, h2, hi, cp_step hI hi, by unfold cpM; omega⟩

set_option maxRecDepth 100000 in
theorem laws_toSeriesS.eq (i : El c_laws_toSeriesS.I) (x : El c_laws_toSeriesS.A) : vc tab (gam [(92, c_laws_toSeries)] [] eqs) (laws_toSeriesS.L x) (match Try.f27.body with | some c => c | none => .skip) 1 (initSt c_laws_toSeriesS Try.f27.ntmps i x) (bodyK tab c_laws_toSeriesS Try.f27.results.toList [35] i x) = laws_toSeriesS.F x := by kernel_rfl
theorem laws_toSeriesS.ok : ConOk Try.prog 27 c_laws_toSeriesS :=
  conOk_of_eq (con := c_laws_toSeriesS) (tab := tab) (Γ := (gam [(92, c_laws_toSeries)] [] eqs)) (fn := Try.f27) (c := (match Try.f27.body with | some c => c | none => .skip)) (fun i x => laws_toSeriesS.L x) (fun i x => laws_toSeriesS.F x) rfl tabOk (gam_cons ⟨_, Try.func92, rfl, rfl⟩ laws_toSeries.ok (gam_nil _ [] eqsOk)) Try.func27 rfl [35] (by kernel_rfl) laws_toSeriesS.eq fun i x h hi hw => laws_toSeriesS.pure x h hw

instance dec_Series : DecidableEq ((List UInt8) × (List (Int × Int))) := by (iterate 20 (all_goals (first | infer_instance | refine @instDecidableEqProd _ _ ?_ ?_)))
def fEq_Series (a b : ((List UInt8) × (List (Int × Int)))) : Bool := decide (a = b)
def c_laws_eqSeries : Con := { io := false, I := .unit, ownI := [], A := (.pair (.pair .str (.list (.pair (.int .i64) (.int .i64)))) (.pair .str (.list (.pair (.int .i64) (.int .i64))))), shA := [.agg 2, .agg 2], ownA := [], backA := [], B := .unit, R := .bool, shR := [(false, 1)], fresh := [], newR := false, pre := fun _ a => True, f := some fun _ a => ((fEq_Series a.1 a.2), ((), ())) }
def laws_eqSeries.F  (a0 : ((List UInt8) × (List (Int × Int)))) (a1 : ((List UInt8) × (List (Int × Int)))) : Prop := (caseB (!(a0.1 == a1.1)) (((false, ((), ())) : Bool × (Unit × Unit)) = ((fEq_Series a0 a1), ((), ()))) (True ∧ ∀ (r1 : Bool × (Unit × Unit)), ((r1 : Bool × (Unit × Unit)) = ((fEq_PointS a0.2 a1.2), ((), ()))) → (caseB (!r1.1) (((false, ((), ())) : Bool × (Unit × Unit)) = ((fEq_Series a0 a1), ((), ()))) (((true, ((), ())) : Bool × (Unit × Unit)) = ((fEq_Series a0 a1), ((), ()))))))
def laws_eqSeries.L  (a0 : ((List UInt8) × (List (Int × Int)))) (a1 : ((List UInt8) × (List (Int × Int)))) : Nat → Option LoopAnn := fun p => Go.Proofs.Ythjlommbnfooaaa.Bv.look p []

theorem laws_eqSeries.pure  (a0 : ((List UInt8) × (List (Int × Int)))) (a1 : ((List UInt8) × (List (Int × Int)))) (h : True) (hw : Wf c_laws_eqSeries.A (a0, a1)) : laws_eqSeries.F a0 a1 := by
  unfold laws_eqSeries.F
  obtain ⟨x1, x2⟩ := a0
  obtain ⟨y1, y2⟩ := a1
  simp only [forall_eq, true_and, and_true, caseB_iff, Prod.mk.injEq, decide_eq_true_eq, decide_eq_false_iff_not, Bool.not_eq_true', Bool.not_eq_false', bne_iff_ne, ne_eq, beq_iff_eq, Bool.not_true, Bool.not_false, beq_eq_false_iff_ne, bne_eq_false_iff_eq, List.length_append, List.length_cons, List.length_nil, List.append_nil, Nat.zero_add, decide_true, decide_false, eq_self_iff_true, fEq_Series, fEq_PointS]
  repeat' (first | (refine And.intro ?_ ?_) | intro _)
  all_goals simp_all

set_option maxRecDepth 100000 in
theorem laws_eqSeries.eq (i : El c_laws_eqSeries.I) (x : El c_laws_eqSeries.A) : vc tab (gam [(32, c_laws_eqPointS)] [] eqs) (laws_eqSeries.L x.1 x.2) (match Try.f98.body with | some c => c | none => .skip) 1 (initSt c_laws_eqSeries Try.f98.ntmps i x) (bodyK tab c_laws_eqSeries Try.f98.results.toList [4] i x) = laws_eqSeries.F x.1 x.2 := by kernel_rfl
theorem laws_eqSeries.ok : ConOk Try.prog 98 c_laws_eqSeries :=
  conOk_of_eq (con := c_laws_eqSeries) (tab := tab) (Γ := (gam [(32, c_laws_eqPointS)] [] eqs)) (fn := Try.f98) (c := (match Try.f98.body with | some c => c | none => .skip)) (fun i x => laws_eqSeries.L x.1 x.2) (fun i x => laws_eqSeries.F x.1 x.2) rfl tabOk (gam_cons ⟨_, Try.func32, rfl, rfl⟩ laws_eqPointS.ok (gam_nil _ [] eqsOk)) Try.func98 rfl [4] (by kernel_rfl) laws_eqSeries.eq fun i x h hi hw => laws_eqSeries.pure x.1 x.2 h hw

def fEq_SeriesS (a b : List ((List UInt8) × (List (Int × Int)))) : Bool := decide (a = b)
def c_laws_eqSeriesS : Con := { io := false, I := .unit, ownI := [], A := (.pair (.list (.pair .str (.list (.pair (.int .i64) (.int .i64))))) (.list (.pair .str (.list (.pair (.int .i64) (.int .i64)))))), shA := [.one, .one], ownA := [], backA := [], B := .unit, R := .bool, shR := [(false, 1)], fresh := [], newR := false, pre := fun _ a => True, f := some fun _ a => ((fEq_SeriesS a.1 a.2), ((), ())) }
def laws_eqSeriesS.F  (a0 : (List ((List UInt8) × (List (Int × Int))))) (a1 : (List ((List UInt8) × (List (Int × Int))))) : Prop := (caseB (((List.length a0 : Nat) : Int) != ((List.length a1 : Nat) : Int)) (((false, ((), ())) : Bool × (Unit × Unit)) = ((fEq_SeriesS a0 a1), ((), ()))) (([(0, .val false [.lst (.pair .str (.list (.pair (.int .i64) (.int .i64)))) a0 none]), (1, .val false [.lst (.pair .str (.list (.pair (.int .i64) (.int .i64)))) a1 none])] : List (Nat × Sv)) = [(0, .val false [.lst (.pair .str (.list (.pair (.int .i64) (.int .i64)))) a0 none]), (1, .val false [.lst (.pair .str (.list (.pair (.int .i64) (.int .i64)))) a1 none])] ∧ ((eqLI a0 a1 0) ∧ ∀ (y1 : Int), (eqLI a0 a1 y1) → (caseB (decide (y1 < ((List.length a0 : Nat) : Int))) (0 ≤ y1 ∧ (y1 < ((List.length a0 : Nat) : Int) ∧ (0 ≤ y1 ∧ (y1 < ((List.length a1 : Nat) : Int) ∧ (True ∧ ∀ (r2 : Bool × (Unit × Unit)), ((r2 : Bool × (Unit × Unit)) = ((fEq_Series ((List.getD a0 (Int.toNat y1) (([] : (List UInt8)), ([] : (List (Int × Int))))).1, (List.getD a0 (Int.toNat y1) (([] : (List UInt8)), ([] : (List (Int × Int))))).2) ((List.getD a1 (Int.toNat y1) (([] : (List UInt8)), ([] : (List (Int × Int))))).1, (List.getD a1 (Int.toNat y1) (([] : (List UInt8)), ([] : (List (Int × Int))))).2)), ((), ()))) → (caseB (!r2.1) (((false, ((), ())) : Bool × (Unit × Unit)) = ((fEq_SeriesS a0 a1), ((), ()))) (([(0, .val false [.lst (.pair .str (.list (.pair (.int .i64) (.int .i64)))) a0 none]), (1, .val false [.lst (.pair .str (.list (.pair (.int .i64) (.int .i64)))) a1 none])] : List (Nat × Sv)) = [(0, .val false [.lst (.pair .str (.list (.pair (.int .i64) (.int .i64)))) a0 none]), (1, .val false [.lst (.pair .str (.list (.pair (.int .i64) (.int .i64)))) a1 none])] ∧ (eqLI a0 a1 (IntKind.wrap .i64 (y1 + (1 : Int)))) ∧ (eqLM a0 a1 (IntKind.wrap .i64 (y1 + (1 : Int)))) < (eqLM a0 a1 y1)))))))) (((true, ((), ())) : Bool × (Unit × Unit)) = ((fEq_SeriesS a0 a1), ((), ())))))))
def laws_eqSeriesS.L  (a0 : (List ((List UInt8) × (List (Int × Int))))) (a1 : (List ((List UInt8) × (List (Int × Int))))) : Nat → Option LoopAnn := fun p => Go.Proofs.Ythjlommbnfooaaa.Bv.look p [(58, { kp := { hold := [0, 1], slots := [5], boxes := [], rows := [] }, T := (.int .i64), I := fun st y => eqLI a0 a1 y, μ := fun st y => eqLM a0 a1 y })]

theorem laws_eqSeriesS.pure  (a0 : (List ((List UInt8) × (List (Int × Int))))) (a1 : (List ((List UInt8) × (List (Int × Int))))) (h : True) (hw : Wf c_laws_eqSeriesS.A (a0, a1)) : laws_eqSeriesS.F a0 a1 := by
  unfold laws_eqSeriesS.F
  have hw1 : a0.length ≤ 9223372036854775807 := hw.1.1
  simp only [forall_eq, true_and, and_true, caseB_iff, Prod.mk.injEq, decide_eq_true_eq, decide_eq_false_iff_not, Bool.not_eq_true', Bool.not_eq_false', bne_iff_ne, ne_eq, beq_iff_eq, Bool.not_true, Bool.not_false, beq_eq_false_iff_ne, bne_eq_false_iff_eq, List.length_append, List.length_cons, List.length_nil, List.append_nil, Nat.zero_add, decide_true, decide_false, eq_self_iff_true]
  refine ⟨fun h1 => ?_, fun h1 => ?_⟩
  · have : a0 ≠ a1 := fun e => by subst e; simp at h1
    simp [fEq_SeriesS, this]
  have hl : a0.length = a1.length := by omega
  refine ⟨⟨by omega, by omega, hl, by simp⟩, ?_⟩
  rintro i hI
  have h2 := hI.1
  have h3 := hI.2.1
  refine ⟨fun hi => ⟨h2, hi, h2, by omega, fun hne => ?_, fun he => ?_⟩, fun hi => ?_⟩
  · have : a0 ≠ a1 := fun e => by subst e; simp [fEq_Series] at hne
    simp [fEq_SeriesS, this]
  · have hg : a0.getD i.toNat (([] : (List UInt8)), ([] : (List (Int × Int)))) = a1.getD i.toNat (([] : (List UInt8)), ([] : (List (Int × Int)))) := by simpa only [fEq_Series, decide_eq_true_eq] using he
    rw [w64 (x := i + 1) (by omega) (by omega)]
    exact ⟨eqL_step hI hi hg, by unfold eqLM; omega⟩
  · have h6 := eqL_end hI hi
    simp [fEq_SeriesS, h6]

set_option maxRecDepth 100000 in
theorem laws_eqSeriesS.eq (i : El c_laws_eqSeriesS.I) (x : El c_laws_eqSeriesS.A) : vc tab (gam [(98, c_laws_eqSeries)] [] eqs) (laws_eqSeriesS.L x.1 x.2) (match Try.f29.body with | some c => c | none => .skip) 1 (initSt c_laws_eqSeriesS Try.f29.ntmps i x) (bodyK tab c_laws_eqSeriesS Try.f29.results.toList [4] i x) = laws_eqSeriesS.F x.1 x.2 := by kernel_rfl
theorem laws_eqSeriesS.ok : ConOk Try.prog 29 c_laws_eqSeriesS :=
  conOk_of_eq (con := c_laws_eqSeriesS) (tab := tab) (Γ := (gam [(98, c_laws_eqSeries)] [] eqs)) (fn := Try.f29) (c := (match Try.f29.body with | some c => c | none => .skip)) (fun i x => laws_eqSeriesS.L x.1 x.2) (fun i x => laws_eqSeriesS.F x.1 x.2) rfl tabOk (gam_cons ⟨_, Try.func98, rfl, rfl⟩ laws_eqSeries.ok (gam_nil _ [] eqsOk)) Try.func29 rfl [4] (by kernel_rfl) laws_eqSeriesS.eq fun i x h hi hw => laws_eqSeriesS.pure x.1 x.2 h hw

def c_mSeries (x : ((List UInt8) × (List (Int × Int)))) : Int := 1 + cL c_mPoint x.2
def m_Series (x : ((List UInt8) × (List (Int × Int)))) (k : Int) : ((List UInt8) × (List (Int × Int))) := ((fMT k), (mL c_mPoint m_Point x.2 (k + 1)))
def o_Series (x : ((List UInt8) × (List (Int × Int)))) (k : Int) : Bool := (decide (x.1 = fMT k)) && (oL c_mPoint o_Point x.2 (k + 1))
theorem ok_Series : ∀ (x : ((List UInt8) × (List (Int × Int)))) (k : Int), o_Series (m_Series x k) k = true ∧ c_mSeries (m_Series x k) = c_mSeries x := fun x k => by
  simp [o_Series, m_Series, c_mSeries, (oL_mL ok_Point _ _).1, (oL_mL ok_Point _ _).2]
theorem pos_Series : ∀ x : ((List UInt8) × (List (Int × Int))), 0 ≤ c_mSeries x := fun x => by
  have p0 := fun l => cL_pos pos_Point l
  have q0 := p0 x.2
  unfold c_mSeries; omega
def pMk_SeriesS (l : List ((List UInt8) × (List (Int × Int)))) (k : Int) : Prop := 0 ≤ k ∧ k + cL c_mSeries l ≤ 4611686018427387904
def fMk_SeriesS (l : List ((List UInt8) × (List (Int × Int)))) (k : Int) : Int × List ((List UInt8) × (List (Int × Int))) := (k + cL c_mSeries l, mL c_mSeries m_Series l k)
def c_laws_markSeriesS : Con := { io := false, I := .unit, ownI := [], A := (.pair (.list (.pair .str (.list (.pair (.int .i64) (.int .i64))))) (.int .i64)), shA := [.one, .one], ownA := [], backA := [(0, 115)], B := (.list (.pair .str (.list (.pair (.int .i64) (.int .i64))))), R := (.int .i64), shR := [(false, 1)], fresh := [], newR := false, pre := fun _ a => (pMk_SeriesS a.1 a.2), f := some fun _ a => ((fMk_SeriesS a.1 a.2).1, ((), (fMk_SeriesS a.1 a.2).2)) }
def laws_markSeriesS.F  (a0 : (List ((List UInt8) × (List (Int × Int))))) (a1 : Int) : Prop := (([(0, .val false [.own (.pair .str (.list (.pair (.int .i64) (.int .i64)))) 2])] : List (Nat × Sv)) = [(0, .val false [.own (.pair .str (.list (.pair (.int .i64) (.int .i64)))) 2])] ∧ ((mkI c_mSeries m_Series a0 a1 a1 0 a0) ∧ ∀ (y1 : (Int × (Int × (List ((List UInt8) × (List (Int × Int))))))), (mkI c_mSeries m_Series a0 a1 y1.1 y1.2.1 y1.2.2) → (caseB (decide (y1.2.1 < ((List.length y1.2.2 : Nat) : Int))) ((pMT y1.1) ∧ ∀ (r2 : (List UInt8) × (Unit × Unit)), ((r2 : (List UInt8) × (Unit × Unit)) = ((fMT y1.1), ((), ()))) → (0 ≤ y1.2.1 ∧ (y1.2.1 < ((List.length y1.2.2 : Nat) : Int) ∧ (0 ≤ y1.2.1 ∧ (y1.2.1 < ((List.length (List.set y1.2.2 (Int.toNat y1.2.1) (r2.1, (List.getD y1.2.2 (Int.toNat y1.2.1) (([] : (List UInt8)), ([] : (List (Int × Int))))).2)) : Nat) : Int) ∧ ((pMk_PointS ((List.getD (List.set y1.2.2 (Int.toNat y1.2.1) (r2.1, (List.getD y1.2.2 (Int.toNat y1.2.1) (([] : (List UInt8)), ([] : (List (Int × Int))))).2)) (Int.toNat y1.2.1) (([] : (List UInt8)), ([] : (List (Int × Int))))).2) (IntKind.wrap .i64 (y1.1 + (1 : Int)))) ∧ ∀ (r3 : Int × (Unit × (List (Int × Int)))), ((r3 : Int × (Unit × (List (Int × Int)))) = ((fMk_PointS ((List.getD (List.set y1.2.2 (Int.toNat y1.2.1) (r2.1, (List.getD y1.2.2 (Int.toNat y1.2.1) (([] : (List UInt8)), ([] : (List (Int × Int))))).2)) (Int.toNat y1.2.1) (([] : (List UInt8)), ([] : (List (Int × Int))))).2) (IntKind.wrap .i64 (y1.1 + (1 : Int)))).1, ((), (fMk_PointS ((List.getD (List.set y1.2.2 (Int.toNat y1.2.1) (r2.1, (List.getD y1.2.2 (Int.toNat y1.2.1) (([] : (List UInt8)), ([] : (List (Int × Int))))).2)) (Int.toNat y1.2.1) (([] : (List UInt8)), ([] : (List (Int × Int))))).2) (IntKind.wrap .i64 (y1.1 + (1 : Int)))).2))) → (([(0, .val false [.own (.pair .str (.list (.pair (.int .i64) (.int .i64)))) 2])] : List (Nat × Sv)) = [(0, .val false [.own (.pair .str (.list (.pair (.int .i64) (.int .i64)))) 2])] ∧ (mkI c_mSeries m_Series a0 a1 r3.1 (IntKind.wrap .i64 (y1.2.1 + (1 : Int))) (List.set (List.set y1.2.2 (Int.toNat y1.2.1) (r2.1, (List.getD y1.2.2 (Int.toNat y1.2.1) (([] : (List UInt8)), ([] : (List (Int × Int))))).2)) (Int.toNat y1.2.1) ((List.getD (List.set y1.2.2 (Int.toNat y1.2.1) (r2.1, (List.getD y1.2.2 (Int.toNat y1.2.1) (([] : (List UInt8)), ([] : (List (Int × Int))))).2)) (Int.toNat y1.2.1) (([] : (List UInt8)), ([] : (List (Int × Int))))).1, r3.2.2))) ∧ (mkM a0 a1 r3.1 (IntKind.wrap .i64 (y1.2.1 + (1 : Int))) (List.set (List.set y1.2.2 (Int.toNat y1.2.1) (r2.1, (List.getD y1.2.2 (Int.toNat y1.2.1) (([] : (List UInt8)), ([] : (List (Int × Int))))).2)) (Int.toNat y1.2.1) ((List.getD (List.set y1.2.2 (Int.toNat y1.2.1) (r2.1, (List.getD y1.2.2 (Int.toNat y1.2.1) (([] : (List UInt8)), ([] : (List (Int × Int))))).2)) (Int.toNat y1.2.1) (([] : (List UInt8)), ([] : (List (Int × Int))))).1, r3.2.2))) < (mkM a0 a1 y1.1 y1.2.1 y1.2.2)))))))) (((y1.1, ((), y1.2.2)) : Int × (Unit × (List ((List UInt8) × (List (Int × Int)))))) = ((fMk_SeriesS a0 a1).1, ((), (fMk_SeriesS a0 a1).2))))))
def laws_markSeriesS.L  (a0 : (List ((List UInt8) × (List (Int × Int))))) (a1 : Int) : Nat → Option LoopAnn := fun p => Go.Proofs.Ythjlommbnfooaaa.Bv.look p [(26, { kp := { hold := [0], slots := [1, 5], boxes := [], rows := [{ bx := false, s := 0, i := 0, k := 2, e := 115, hot := true }] }, T := (.pair (.int .i64) (.pair (.int .i64) (.list (.pair .str (.list (.pair (.int .i64) (.int .i64))))))), I := fun st y => mkI c_mSeries m_Series a0 a1 y.1 y.2.1 y.2.2, μ := fun st y => mkM a0 a1 y.1 y.2.1 y.2.2 })]

theorem laws_markSeriesS.pure  (a0 : (List ((List UInt8) × (List (Int × Int))))) (a1 : Int) (h : (pMk_SeriesS a0 a1)) (hw : Wf c_laws_markSeriesS.A (a0, a1)) : laws_markSeriesS.F a0 a1 := by
  unfold laws_markSeriesS.F
  obtain ⟨p1, p2⟩ := h
  have hw1 : a0.length ≤ 9223372036854775807 := hw.1.1
  simp only [forall_eq, true_and, and_true, caseB_iff, Prod.mk.injEq, decide_eq_true_eq, decide_eq_false_iff_not, Bool.not_eq_true', Bool.not_eq_false', bne_iff_ne, ne_eq, beq_iff_eq, Bool.not_true, Bool.not_false, beq_eq_false_iff_ne, bne_eq_false_iff_eq, List.length_append, List.length_cons, List.length_nil, List.append_nil, Nat.zero_add, decide_true, decide_false, eq_self_iff_true]
  refine ⟨⟨by omega, by omega, by simp [cL], by simp [mL]⟩, ?_⟩
  rintro ⟨k, i, l⟩ hI
  simp only at hI ⊢
  have hl := mk_len hI
  have h2 := hI.1
  have h3 := hI.2
  refine ⟨fun hi0 => ?_, fun hi0 => ?_⟩
  · have hi : i < (a0.length : Int) := by omega
    have hi' : i.toNat < l.length := by omega
    have hg := mk_at (d := (([] : (List UInt8)), ([] : (List (Int × Int))))) hI hi
    have hs := cL_split c_mSeries (([] : (List UInt8)), ([] : (List (Int × Int)))) (l := a0) (i := i.toNat) (by omega)
    have hk := hI.3
    have c1 := cL_pos pos_Series (a0.take i.toNat)
    have c2 := cL_pos pos_Series (a0.drop (i.toNat + 1))
    have c3 := pos_Series (a0.getD i.toNat (([] : (List UInt8)), ([] : (List (Int × Int)))))
    have q0 := cL_pos pos_Point
    have r0 := q0 (a0.getD i.toNat (([] : (List UInt8)), ([] : (List (Int × Int))))).2
    have hmod : Int.tmod k 3 = k % 3 := Int.tmod_eq_emod_of_nonneg (by omega)
    have hc : c_mSeries (a0.getD i.toNat (([] : (List UInt8)), ([] : (List (Int × Int))))) = c_mSeries (a0.getD i.toNat (([] : (List UInt8)), ([] : (List (Int × Int))))) := rfl
    conv at hc => rhs; unfold c_mSeries
    try simp only [hg, getD_set_self hi', List.set_set, List.length_set, fMk_PointS, pMk_PointS]
    try simp (disch := first | omega | simp_all) only [getD_set_self, List.set_set, List.length_set, hg, w64, pMT]
    repeat' (with_reducible (first | (refine And.intro ?_ ?_) | intro _))
    all_goals (try simp +zetaDelta (disch := first | omega | simp_all) only [hg, getD_set_self, List.set_set, List.length_set, w64, pMT])
    all_goals (first | omega | exact mk_step (d := (([] : (List UInt8)), ([] : (List (Int × Int))))) hI hi (by simp [m_Series, hmod]) (by omega) | (unfold mkM; omega) | skip)
  · obtain ⟨e1, e2⟩ := mk_end hI (by omega)
    exact ⟨e1, e2⟩

set_option maxRecDepth 100000 in
theorem laws_markSeriesS.eq (i : El c_laws_markSeriesS.I) (x : El c_laws_markSeriesS.A) : vc tab (gam [(33, c_laws_markPointS), (120, c_laws_markText)] [] eqs) (laws_markSeriesS.L x.1 x.2) (match Try.f57.body with | some c => c | none => .skip) 1 (initSt c_laws_markSeriesS Try.f57.ntmps i x) (bodyK tab c_laws_markSeriesS Try.f57.results.toList [3] i x) = laws_markSeriesS.F x.1 x.2 := by kernel_rfl
theorem laws_markSeriesS.ok : ConOk Try.prog 57 c_laws_markSeriesS :=
  conOk_of_eq (con := c_laws_markSeriesS) (tab := tab) (Γ := (gam [(33, c_laws_markPointS), (120, c_laws_markText)] [] eqs)) (fn := Try.f57) (c := (match Try.f57.body with | some c => c | none => .skip)) (fun i x => laws_markSeriesS.L x.1 x.2) (fun i x => laws_markSeriesS.F x.1 x.2) rfl tabOk (gam_cons ⟨_, Try.func33, rfl, rfl⟩ laws_markPointS.ok (gam_cons ⟨_, Try.func120, rfl, rfl⟩ laws_markText.ok (gam_nil _ [] eqsOk))) Try.func57 rfl [3] (by kernel_rfl) laws_markSeriesS.eq fun i x h hi hw => laws_markSeriesS.pure x.1 x.2 h hw

def fHd_SeriesS (l : List ((List UInt8) × (List (Int × Int)))) (k : Int) : Int := fHd (cL c_mSeries l) (oL c_mSeries o_Series l k) k
def c_laws_heldSeriesS : Con := { io := false, I := .unit, ownI := [], A := (.pair (.list (.pair .str (.list (.pair (.int .i64) (.int .i64))))) (.int .i64)), shA := [.one, .one], ownA := [], backA := [], B := .unit, R := (.int .i64), shR := [(false, 1)], fresh := [], newR := false, pre := fun _ a => (pMk_SeriesS a.1 a.2), f := some fun _ a => ((fHd_SeriesS a.1 a.2), ((), ())) }
def laws_heldSeriesS.F  (a0 : (List ((List UInt8) × (List (Int × Int))))) (a1 : Int) : Prop := (([(0, .val false [.lst (.pair .str (.list (.pair (.int .i64) (.int .i64)))) a0 none])] : List (Nat × Sv)) = [(0, .val false [.lst (.pair .str (.list (.pair (.int .i64) (.int .i64)))) a0 none])] ∧ ((hdI c_mSeries o_Series a0 a1 a1 0) ∧ ∀ (y1 : (Int × Int)), (hdI c_mSeries o_Series a0 a1 y1.1 y1.2) → (caseB (decide (y1.2 < ((List.length a0 : Nat) : Int))) (0 ≤ y1.2 ∧ (y1.2 < ((List.length a0 : Nat) : Int) ∧ ((pMT y1.1) ∧ ∀ (r2 : (List UInt8) × (Unit × Unit)), ((r2 : (List UInt8) × (Unit × Unit)) = ((fMT y1.1), ((), ()))) → (caseB (!(((List.getD a0 (Int.toNat y1.2) (([] : (List UInt8)), ([] : (List (Int × Int))))).1) == r2.1)) ((((-1), ((), ())) : Int × (Unit × Unit)) = ((fHd_SeriesS a0 a1), ((), ()))) (0 ≤ y1.2 ∧ (y1.2 < ((List.length a0 : Nat) : Int) ∧ ((pMk_PointS ((List.getD a0 (Int.toNat y1.2) (([] : (List UInt8)), ([] : (List (Int × Int))))).2) (IntKind.wrap .i64 (y1.1 + (1 : Int)))) ∧ ∀ (r3 : Int × (Unit × Unit)), ((r3 : Int × (Unit × Unit)) = ((fHd_PointS ((List.getD a0 (Int.toNat y1.2) (([] : (List UInt8)), ([] : (List (Int × Int))))).2) (IntKind.wrap .i64 (y1.1 + (1 : Int)))), ((), ()))) → (caseB (decide (r3.1 < (0 : Int))) ((((-1), ((), ())) : Int × (Unit × Unit)) = ((fHd_SeriesS a0 a1), ((), ()))) (([(0, .val false [.lst (.pair .str (.list (.pair (.int .i64) (.int .i64)))) a0 none])] : List (Nat × Sv)) = [(0, .val false [.lst (.pair .str (.list (.pair (.int .i64) (.int .i64)))) a0 none])] ∧ (hdI c_mSeries o_Series a0 a1 r3.1 (IntKind.wrap .i64 (y1.2 + (1 : Int)))) ∧ (hdM a0 a1 r3.1 (IntKind.wrap .i64 (y1.2 + (1 : Int)))) < (hdM a0 a1 y1.1 y1.2)))))))))) (((y1.1, ((), ())) : Int × (Unit × Unit)) = ((fHd_SeriesS a0 a1), ((), ()))))))
def laws_heldSeriesS.L  (a0 : (List ((List UInt8) × (List (Int × Int))))) (a1 : Int) : Nat → Option LoopAnn := fun p => Go.Proofs.Ythjlommbnfooaaa.Bv.look p [(26, { kp := { hold := [0], slots := [1, 5], boxes := [], rows := [] }, T := (.pair (.int .i64) (.int .i64)), I := fun st y => hdI c_mSeries o_Series a0 a1 y.1 y.2, μ := fun st y => hdM a0 a1 y.1 y.2 })]

theorem laws_heldSeriesS.pure  (a0 : (List ((List UInt8) × (List (Int × Int))))) (a1 : Int) (h : (pMk_SeriesS a0 a1)) (hw : Wf c_laws_heldSeriesS.A (a0, a1)) : laws_heldSeriesS.F a0 a1 := by
  unfold laws_heldSeriesS.F
  obtain ⟨p1, p2⟩ := h
  have hw1 : a0.length ≤ 9223372036854775807 := hw.1.1
  simp only [forall_eq, true_and, and_true, caseB_iff, Prod.mk.injEq, decide_eq_true_eq, decide_eq_false_iff_not, Bool.not_eq_true', Bool.not_eq_false', bne_iff_ne, ne_eq, beq_iff_eq, Bool.not_true, Bool.not_false, beq_eq_false_iff_ne, bne_eq_false_iff_eq, List.length_append, List.length_cons, List.length_nil, List.append_nil, Nat.zero_add, decide_true, decide_false, eq_self_iff_true]
  refine ⟨⟨by omega, by omega, by simp [cL], by simp⟩, ?_⟩
  rintro ⟨k, i⟩ hI
  simp only at hI ⊢
  have h2 := hI.1
  have h3 := hI.2
  refine ⟨fun hi => ?_, fun hi => hd_end hI hi⟩
  · have hs := cL_split c_mSeries (([] : (List UInt8)), ([] : (List (Int × Int)))) (l := a0) (i := i.toNat) (by omega)
    have hk := hI.3
    have c1 := cL_pos pos_Series (a0.take i.toNat)
    have c2 := cL_pos pos_Series (a0.drop (i.toNat + 1))
    have c3 := pos_Series (a0.getD i.toNat (([] : (List UInt8)), ([] : (List (Int × Int)))))
    have q0 := cL_pos pos_Point
    have r0 := q0 (a0.getD i.toNat (([] : (List UInt8)), ([] : (List (Int × Int))))).2
    have hmod : Int.tmod k 3 = k % 3 := Int.tmod_eq_emod_of_nonneg (by omega)
    have no : o_Series (a0.getD i.toNat (([] : (List UInt8)), ([] : (List (Int × Int))))) k = false → -1 = fHd_SeriesS a0 a1 := fun ho => hd_no (([] : (List UInt8)), ([] : (List (Int × Int)))) hI hi ho
    have yes : o_Series (a0.getD i.toNat (([] : (List UInt8)), ([] : (List (Int × Int))))) k = true → hdI c_mSeries o_Series a0 a1 (k + c_mSeries (a0.getD i.toNat (([] : (List UInt8)), ([] : (List (Int × Int)))))) (i + 1) := fun ho => hd_step (([] : (List UInt8)), ([] : (List (Int × Int)))) hI hi ho rfl
    generalize a0.getD i.toNat (([] : (List UInt8)), ([] : (List (Int × Int)))) = x at *
    have hc : c_mSeries x = c_mSeries x := rfl
    conv at hc => rhs; unfold c_mSeries
    simp only [o_Series] at no yes
    simp (disch := omega) only [w64, pMT, fHd_PointS, pMk_PointS]
    repeat' (with_reducible (first | (refine And.intro ?_ ?_) | intro _))
    all_goals (first | omega | (unfold hdM; omega) | skip)
    all_goals (try simp (disch := first | omega | assumption) only [fHd_neg, fHd_yes, w64, Bool.not_eq_false] at *)
    all_goals (try simp (disch := first | omega | assumption) only [fHd_neg, fHd_yes, w64, Bool.not_eq_false] at *)
    all_goals (first | omega | grind)

set_option maxRecDepth 100000 in
theorem laws_heldSeriesS.eq (i : El c_laws_heldSeriesS.I) (x : El c_laws_heldSeriesS.A) : vc tab (gam [(34, c_laws_heldPointS), (120, c_laws_markText)] [] eqs) (laws_heldSeriesS.L x.1 x.2) (match Try.f58.body with | some c => c | none => .skip) 1 (initSt c_laws_heldSeriesS Try.f58.ntmps i x) (bodyK tab c_laws_heldSeriesS Try.f58.results.toList [3] i x) = laws_heldSeriesS.F x.1 x.2 := by kernel_rfl
theorem laws_heldSeriesS.ok : ConOk Try.prog 58 c_laws_heldSeriesS :=
  conOk_of_eq (con := c_laws_heldSeriesS) (tab := tab) (Γ := (gam [(34, c_laws_heldPointS), (120, c_laws_markText)] [] eqs)) (fn := Try.f58) (c := (match Try.f58.body with | some c => c | none => .skip)) (fun i x => laws_heldSeriesS.L x.1 x.2) (fun i x => laws_heldSeriesS.F x.1 x.2) rfl tabOk (gam_cons ⟨_, Try.func34, rfl, rfl⟩ laws_heldPointS.ok (gam_cons ⟨_, Try.func120, rfl, rfl⟩ laws_markText.ok (gam_nil _ [] eqsOk))) Try.func58 rfl [3] (by kernel_rfl) laws_heldSeriesS.eq fun i x h hi hw => laws_heldSeriesS.pure x.1 x.2 h hw

def n_Engine (x : (Int × ((List ((List UInt8) × (List (Int × Int)))) × (List (List UInt8))))) : Nat := (nL n_Series x.2.1) + (nL (fun s => List.length s) x.2.2)
instance dec_Engine : DecidableEq (Int × ((List ((List UInt8) × (List (Int × Int)))) × (List (List UInt8)))) := by (iterate 20 (all_goals (first | infer_instance | refine @instDecidableEqProd _ _ ?_ ?_)))
def fEq_Engine (a b : (Int × ((List ((List UInt8) × (List (Int × Int)))) × (List (List UInt8))))) : Bool := decide (a = b)
def c_laws_eqEngine : Con := { io := false, I := .unit, ownI := [], A := (.pair (.pair (.int .i64) (.pair (.list (.pair .str (.list (.pair (.int .i64) (.int .i64))))) (.list .str))) (.pair (.int .i64) (.pair (.list (.pair .str (.list (.pair (.int .i64) (.int .i64))))) (.list .str)))), shA := [.agg 3, .agg 3], ownA := [], backA := [], B := .unit, R := .bool, shR := [(false, 1)], fresh := [], newR := false, pre := fun _ a => True, f := some fun _ a => ((fEq_Engine a.1 a.2), ((), ())) }
def laws_eqEngine.F  (a0 : (Int × ((List ((List UInt8) × (List (Int × Int)))) × (List (List UInt8))))) (a1 : (Int × ((List ((List UInt8) × (List (Int × Int)))) × (List (List UInt8))))) : Prop := (caseB (a0.1 != a1.1) (((false, ((), ())) : Bool × (Unit × Unit)) = ((fEq_Engine a0 a1), ((), ()))) (True ∧ ∀ (r1 : Bool × (Unit × Unit)), ((r1 : Bool × (Unit × Unit)) = ((fEq_SeriesS a0.2.1 a1.2.1), ((), ()))) → (caseB (!r1.1) (((false, ((), ())) : Bool × (Unit × Unit)) = ((fEq_Engine a0 a1), ((), ()))) (True ∧ ∀ (r2 : Bool × (Unit × Unit)), ((r2 : Bool × (Unit × Unit)) = ((fEq_StringS a0.2.2 a1.2.2), ((), ()))) → (caseB (!r2.1) (((false, ((), ())) : Bool × (Unit × Unit)) = ((fEq_Engine a0 a1), ((), ()))) (((true, ((), ())) : Bool × (Unit × Unit)) = ((fEq_Engine a0 a1), ((), ()))))))))
def laws_eqEngine.L  (a0 : (Int × ((List ((List UInt8) × (List (Int × Int)))) × (List (List UInt8))))) (a1 : (Int × ((List ((List UInt8) × (List (Int × Int)))) × (List (List UInt8))))) : Nat → Option LoopAnn := fun p => Go.Proofs.Ythjlommbnfooaaa.Bv.look p []

theorem laws_eqEngine.pure  (a0 : (Int × ((List ((List UInt8) × (List (Int × Int)))) × (List (List UInt8))))) (a1 : (Int × ((List ((List UInt8) × (List (Int × Int)))) × (List (List UInt8))))) (h : True) (hw : Wf c_laws_eqEngine.A (a0, a1)) : laws_eqEngine.F a0 a1 := by
  unfold laws_eqEngine.F
  obtain ⟨x1, x2, x3⟩ := a0
  obtain ⟨y1, y2, y3⟩ := a1
  simp only [forall_eq, true_and, and_true, caseB_iff, Prod.mk.injEq, decide_eq_true_eq, decide_eq_false_iff_not, Bool.not_eq_true', Bool.not_eq_false', bne_iff_ne, ne_eq, beq_iff_eq, Bool.not_true, Bool.not_false, beq_eq_false_iff_ne, bne_eq_false_iff_eq, List.length_append, List.length_cons, List.length_nil, List.append_nil, Nat.zero_add, decide_true, decide_false, eq_self_iff_true, fEq_Engine, fEq_SeriesS, fEq_StringS]
  repeat' (first | (refine And.intro ?_ ?_) | intro _)
  all_goals simp_all

set_option maxRecDepth 100000 in
theorem laws_eqEngine.eq (i : El c_laws_eqEngine.I) (x : El c_laws_eqEngine.A) : vc tab (gam [(29, c_laws_eqSeriesS), (132, c_laws_eqStringS)] [] eqs) (laws_eqEngine.L x.1 x.2) (match Try.f78.body with | some c => c | none => .skip) 1 (initSt c_laws_eqEngine Try.f78.ntmps i x) (bodyK tab c_laws_eqEngine Try.f78.results.toList [4] i x) = laws_eqEngine.F x.1 x.2 := by kernel_rfl
theorem laws_eqEngine.ok : ConOk Try.prog 78 c_laws_eqEngine :=
  conOk_of_eq (con := c_laws_eqEngine) (tab := tab) (Γ := (gam [(29, c_laws_eqSeriesS), (132, c_laws_eqStringS)] [] eqs)) (fn := Try.f78) (c := (match Try.f78.body with | some c => c | none => .skip)) (fun i x => laws_eqEngine.L x.1 x.2) (fun i x => laws_eqEngine.F x.1 x.2) rfl tabOk (gam_cons ⟨_, Try.func29, rfl, rfl⟩ laws_eqSeriesS.ok (gam_cons ⟨_, Try.func132, rfl, rfl⟩ laws_eqStringS.ok (gam_nil _ [] eqsOk))) Try.func78 rfl [4] (by kernel_rfl) laws_eqEngine.eq fun i x h hi hw => laws_eqEngine.pure x.1 x.2 h hw

def c_mEngine (x : (Int × ((List ((List UInt8) × (List (Int × Int)))) × (List (List UInt8))))) : Int := 1 + cL c_mSeries x.2.1 + cL c_1s x.2.2
def m_Engine (x : (Int × ((List ((List UInt8) × (List (Int × Int)))) × (List (List UInt8))))) (k : Int) : (Int × ((List ((List UInt8) × (List (Int × Int)))) × (List (List UInt8)))) := (k, (mL c_mSeries m_Series x.2.1 (k + 1)), (mL c_1s m_String x.2.2 ((k + 1) + cL c_mSeries x.2.1)))
def o_Engine (x : (Int × ((List ((List UInt8) × (List (Int × Int)))) × (List (List UInt8))))) (k : Int) : Bool := (decide (x.1 = k)) && (oL c_mSeries o_Series x.2.1 (k + 1)) && (oL c_1s o_String x.2.2 ((k + 1) + cL c_mSeries x.2.1))
theorem ok_Engine : ∀ (x : (Int × ((List ((List UInt8) × (List (Int × Int)))) × (List (List UInt8))))) (k : Int), o_Engine (m_Engine x k) k = true ∧ c_mEngine (m_Engine x k) = c_mEngine x := fun x k => by
  simp [o_Engine, m_Engine, c_mEngine, (oL_mL ok_Series _ _).1, (oL_mL ok_Series _ _).2, (oL_mL ok_String _ _).1, (oL_mL ok_String _ _).2]
theorem pos_Engine : ∀ x : (Int × ((List ((List UInt8) × (List (Int × Int)))) × (List (List UInt8)))), 0 ≤ c_mEngine x := fun x => by
  have p0 := fun l => cL_pos pos_Series l
  have p1 := fun l => cL_pos pos_String l
  have q0 := p0 x.2.1
  have q1 := p1 x.2.2
  unfold c_mEngine; omega
def n_Op (x : (Int × ((List UInt8) × (Int × (Int × (List UInt8)))))) : Nat := (x.2.1.length) + (x.2.2.2.2.length)
def pSz_Op (x : (Int × ((List UInt8) × (Int × (Int × (List UInt8)))))) (left : Int) : Prop := WfD (.pair (.int .i64) (.pair .str (.pair (.int .i64) (.pair (.int .i64) .str)))) x ∧ 0 ≤ left ∧ left ≤ 1048576
def fSz_Op (x : (Int × ((List UInt8) × (Int × (Int × (List UInt8)))))) (left : Int) : Int := fSz (n_Op x) left
def c_laws_szOp : Con := { io := false, I := .unit, ownI := [], A := (.pair (.pair (.int .i64) (.pair .str (.pair (.int .i64) (.pair (.int .i64) .str)))) (.int .i64)), shA := [.agg 5, .one], ownA := [], backA := [], B := .unit, R := (.int .i64), shR := [(false, 1)], fresh := [], newR := false, pre := fun _ a => (pSz_Op a.1 a.2), f := some fun _ a => ((fSz_Op a.1 a.2), ((), ())) }
def laws_szOp.F  (a0 : (Int × ((List UInt8) × (Int × (Int × (List UInt8)))))) (a1 : Int) : Prop := (caseB (decide ((IntKind.wrap .i64 (a1 - ((List.length a0.2.1 : Nat) : Int))) < (0 : Int))) ((((-1), ((), ())) : Int × (Unit × Unit)) = ((fSz_Op a0 a1), ((), ()))) (caseB (decide ((IntKind.wrap .i64 ((IntKind.wrap .i64 (a1 - ((List.length a0.2.1 : Nat) : Int))) - ((List.length a0.2.2.2.2 : Nat) : Int))) < (0 : Int))) ((((-1), ((), ())) : Int × (Unit × Unit)) = ((fSz_Op a0 a1), ((), ()))) ((((IntKind.wrap .i64 ((IntKind.wrap .i64 (a1 - ((List.length a0.2.1 : Nat) : Int))) - ((List.length a0.2.2.2.2 : Nat) : Int))), ((), ())) : Int × (Unit × Unit)) = ((fSz_Op a0 a1), ((), ())))))
def laws_szOp.L  (a0 : (Int × ((List UInt8) × (Int × (Int × (List UInt8)))))) (a1 : Int) : Nat → Option LoopAnn := fun p => Go.Proofs.Ythjlommbnfooaaa.Bv.look p []

theorem laws_szOp.pure  (a0 : (Int × ((List UInt8) × (Int × (Int × (List UInt8)))))) (a1 : Int) (h : (pSz_Op a0 a1)) (hw : Wf c_laws_szOp.A (a0, a1)) : laws_szOp.F a0 a1 := by
  unfold laws_szOp.F
  obtain ⟨hwf, p1, p2⟩ := h
  have w1 : a0.2.1.length ≤ 9223372036854775807 := hwf.2.1
  have w4 : a0.2.2.2.2.length ≤ 9223372036854775807 := hwf.2.2.2.2
  simp only [forall_eq, true_and, and_true, caseB_iff, Prod.mk.injEq, decide_eq_true_eq, decide_eq_false_iff_not, Bool.not_eq_true', Bool.not_eq_false', bne_iff_ne, ne_eq, beq_iff_eq, Bool.not_true, Bool.not_false, beq_eq_false_iff_ne, bne_eq_false_iff_eq, List.length_append, List.length_cons, List.length_nil, List.append_nil, Nat.zero_add, decide_true, decide_false, eq_self_iff_true, n_Op, fSz_Op]
  repeat' (with_reducible (first | (refine And.intro ?_ ?_) | intro _))
  all_goals (try simp (disch := omega) only [w64, wu8, tn0, tn1, tm1, tm2, List.length_append, List.length_cons, List.length_nil] at *)
  all_goals (try simp (disch := omega) only [w64, wu8, tn0, tn1, tm1, tm2, List.length_append, List.length_cons, List.length_nil] at *)
  all_goals (try omega)
  all_goals (try grind [fSz])

set_option maxRecDepth 100000 in
theorem laws_szOp.eq (i : El c_laws_szOp.I) (x : El c_laws_szOp.A) : vc tab (gam [] [] eqs) (laws_szOp.L x.1 x.2) (match Try.f35.body with | some c => c | none => .skip) 1 (initSt c_laws_szOp Try.f35.ntmps i x) (bodyK tab c_laws_szOp Try.f35.results.toList [3] i x) = laws_szOp.F x.1 x.2 := by kernel_rfl
theorem laws_szOp.ok : ConOk Try.prog 35 c_laws_szOp :=
  conOk_of_eq (con := c_laws_szOp) (tab := tab) (Γ := (gam [] [] eqs)) (fn := Try.f35) (c := (match Try.f35.body with | some c => c | none => .skip)) (fun i x => laws_szOp.L x.1 x.2) (fun i x => laws_szOp.F x.1 x.2) rfl tabOk (gam_nil _ [] eqsOk) Try.func35 rfl [3] (by kernel_rfl) laws_szOp.eq fun i x h hi hw => laws_szOp.pure x.1 x.2 h hw

def pTo_Op (x : (Int × ((List UInt8) × (Int × (Int × (List UInt8)))))) : Prop := n_Op x ≤ 1048576
def fTo_Op (x : (Int × ((List UInt8) × (Int × (Int × (List UInt8)))))) : (Int × ((List UInt8) × (Int × (Int × (List UInt8))))) := x
def c_laws_toOp : Con := { io := false, I := .unit, ownI := [], A := (.pair (.int .i64) (.pair .str (.pair (.int .i64) (.pair (.int .i64) .str)))), shA := [.agg 5], ownA := [], backA := [], B := .unit, R := (.pair (.int .i64) (.pair .str (.pair (.int .i64) (.pair (.int .i64) .str)))), shR := [(true, 5)], fresh := [], newR := false, pre := fun _ a => (pTo_Op a), f := some fun _ a => ((fTo_Op a), ((), ())) }
def laws_toOp.F  (a0 : (Int × ((List UInt8) × (Int × (Int × (List UInt8)))))) : Prop := ((((a0.1, (a0.2.1, (a0.2.2.1, (a0.2.2.2.1, a0.2.2.2.2)))), ((), ())) : (Int × ((List UInt8) × (Int × (Int × (List UInt8))))) × (Unit × Unit)) = ((fTo_Op a0), ((), ())))
def laws_toOp.L  (a0 : (Int × ((List UInt8) × (Int × (Int × (List UInt8)))))) : Nat → Option LoopAnn := fun p => Go.Proofs.Ythjlommbnfooaaa.Bv.look p []

theorem laws_toOp.pure  (a0 : (Int × ((List UInt8) × (Int × (Int × (List UInt8)))))) (h : (pTo_Op a0)) (hw : Wf c_laws_toOp.A a0) : laws_toOp.F a0 := by
  unfold laws_toOp.F
  have hp : n_Op a0 ≤ 1048576 := h
  simp only [n_Op] at hp
  simp only [forall_eq, true_and, and_true, caseB_iff, Prod.mk.injEq, decide_eq_true_eq, decide_eq_false_iff_not, Bool.not_eq_true', Bool.not_eq_false', bne_iff_ne, ne_eq, beq_iff_eq, Bool.not_true, Bool.not_false, beq_eq_false_iff_ne, bne_eq_false_iff_eq, List.length_append, List.length_cons, List.length_nil, List.append_nil, Nat.zero_add, decide_true, decide_false, eq_self_iff_true, n_Op, fTo_Op, pTo_Op]
  repeat' (with_reducible (first | (refine And.intro ?_ ?_) | intro _))
  all_goals (try simp (disch := omega) only [w64, wu8, tn0, tn1, tm1, tm2, List.length_append, List.length_cons, List.length_nil] at *)
  all_goals (try simp (disch := omega) only [w64, wu8, tn0, tn1, tm1, tm2, List.length_append, List.length_cons, List.length_nil] at *)
  all_goals (try omega)
  all_goals (try grind [])

set_option maxRecDepth 100000 in
theorem laws_toOp.eq (i : El c_laws_toOp.I) (x : El c_laws_toOp.A) : vc tab (gam [] [] eqs) (laws_toOp.L x) (match Try.f37.body with | some c => c | none => .skip) 1 (initSt c_laws_toOp Try.f37.ntmps i x) (bodyK tab c_laws_toOp Try.f37.results.toList [63] i x) = laws_toOp.F x := by kernel_rfl
theorem laws_toOp.ok : ConOk Try.prog 37 c_laws_toOp :=
  conOk_of_eq (con := c_laws_toOp) (tab := tab) (Γ := (gam [] [] eqs)) (fn := Try.f37) (c := (match Try.f37.body with | some c => c | none => .skip)) (fun i x => laws_toOp.L x) (fun i x => laws_toOp.F x) rfl tabOk (gam_nil _ [] eqsOk) Try.func37 rfl [63] (by kernel_rfl) laws_toOp.eq fun i x h hi hw => laws_toOp.pure x h hw

instance dec_Op : DecidableEq (Int × ((List UInt8) × (Int × (Int × (List UInt8))))) := by (iterate 20 (all_goals (first | infer_instance | refine @instDecidableEqProd _ _ ?_ ?_)))
def fEq_Op (a b : (Int × ((List UInt8) × (Int × (Int × (List UInt8)))))) : Bool := decide (a = b)
def c_laws_eqOp : Con := { io := false, I := .unit, ownI := [], A := (.pair (.pair (.int .i64) (.pair .str (.pair (.int .i64) (.pair (.int .i64) .str)))) (.pair (.int .i64) (.pair .str (.pair (.int .i64) (.pair (.int .i64) .str))))), shA := [.agg 5, .agg 5], ownA := [], backA := [], B := .unit, R := .bool, shR := [(false, 1)], fresh := [], newR := false, pre := fun _ a => True, f := some fun _ a => ((fEq_Op a.1 a.2), ((), ())) }
def laws_eqOp.F  (a0 : (Int × ((List UInt8) × (Int × (Int × (List UInt8)))))) (a1 : (Int × ((List UInt8) × (Int × (Int × (List UInt8)))))) : Prop := (caseB (a0.1 != a1.1) (((false, ((), ())) : Bool × (Unit × Unit)) = ((fEq_Op a0 a1), ((), ()))) (caseB (!(a0.2.1 == a1.2.1)) (((false, ((), ())) : Bool × (Unit × Unit)) = ((fEq_Op a0 a1), ((), ()))) (caseB (a0.2.2.1 != a1.2.2.1) (((false, ((), ())) : Bool × (Unit × Unit)) = ((fEq_Op a0 a1), ((), ()))) (caseB (a0.2.2.2.1 != a1.2.2.2.1) (((false, ((), ())) : Bool × (Unit × Unit)) = ((fEq_Op a0 a1), ((), ()))) (caseB (!(a0.2.2.2.2 == a1.2.2.2.2)) (((false, ((), ())) : Bool × (Unit × Unit)) = ((fEq_Op a0 a1), ((), ()))) (((true, ((), ())) : Bool × (Unit × Unit)) = ((fEq_Op a0 a1), ((), ()))))))))
def laws_eqOp.L  (a0 : (Int × ((List UInt8) × (Int × (Int × (List UInt8)))))) (a1 : (Int × ((List UInt8) × (Int × (Int × (List UInt8)))))) : Nat → Option LoopAnn := fun p => Go.Proofs.Ythjlommbnfooaaa.Bv.look p []

theorem laws_eqOp.pure  (a0 : (Int × ((List UInt8) × (Int × (Int × (List UInt8)))))) (a1 : (Int × ((List UInt8) × (Int × (Int × (List UInt8)))))) (h : True) (hw : Wf c_laws_eqOp.A (a0, a1)) : laws_eqOp.F a0 a1 := by
  unfold laws_eqOp.F
  obtain ⟨x1, x2, x3, x4, x5⟩ := a0
  obtain ⟨y1, y2, y3, y4, y5⟩ := a1
  simp only [forall_eq, true_and, and_true, caseB_iff, Prod.mk.injEq, decide_eq_true_eq, decide_eq_false_iff_not, Bool.not_eq_true', Bool.not_eq_false', bne_iff_ne, ne_eq, beq_iff_eq, Bool.not_true, Bool.not_false, beq_eq_false_iff_ne, bne_eq_false_iff_eq, List.length_append, List.length_cons, List.length_nil, List.append_nil, Nat.zero_add, decide_true, decide_false, eq_self_iff_true, fEq_Op]
  repeat' (first | (refine And.intro ?_ ?_) | intro _)
  all_goals simp_all

set_option maxRecDepth 100000 in
theorem laws_eqOp.eq (i : El c_laws_eqOp.I) (x : El c_laws_eqOp.A) : vc tab (gam [] [] eqs) (laws_eqOp.L x.1 x.2) (match Try.f47.body with | some c => c | none => .skip) 1 (initSt c_laws_eqOp Try.f47.ntmps i x) (bodyK tab c_laws_eqOp Try.f47.results.toList [4] i x) = laws_eqOp.F x.1 x.2 := by kernel_rfl
theorem laws_eqOp.ok : ConOk Try.prog 47 c_laws_eqOp :=
  conOk_of_eq (con := c_laws_eqOp) (tab := tab) (Γ := (gam [] [] eqs)) (fn := Try.f47) (c := (match Try.f47.body with | some c => c | none => .skip)) (fun i x => laws_eqOp.L x.1 x.2) (fun i x => laws_eqOp.F x.1 x.2) rfl tabOk (gam_nil _ [] eqsOk) Try.func47 rfl [4] (by kernel_rfl) laws_eqOp.eq fun i x h hi hw => laws_eqOp.pure x.1 x.2 h hw

def c_mOp (x : (Int × ((List UInt8) × (Int × (Int × (List UInt8)))))) : Int := 1 + 1 + 1 + 1 + 1
def m_Op (x : (Int × ((List UInt8) × (Int × (Int × (List UInt8)))))) (k : Int) : (Int × ((List UInt8) × (Int × (Int × (List UInt8))))) := (k, (fMT (k + 1)), ((k + 1) + 1), (((k + 1) + 1) + 1), (fMT ((((k + 1) + 1) + 1) + 1)))
def o_Op (x : (Int × ((List UInt8) × (Int × (Int × (List UInt8)))))) (k : Int) : Bool := (decide (x.1 = k)) && (decide (x.2.1 = fMT (k + 1))) && (decide (x.2.2.1 = ((k + 1) + 1))) && (decide (x.2.2.2.1 = (((k + 1) + 1) + 1))) && (decide (x.2.2.2.2 = fMT ((((k + 1) + 1) + 1) + 1)))
theorem ok_Op : ∀ (x : (Int × ((List UInt8) × (Int × (Int × (List UInt8)))))) (k : Int), o_Op (m_Op x k) k = true ∧ c_mOp (m_Op x k) = c_mOp x := fun x k => by
  simp [o_Op, m_Op, c_mOp]
theorem pos_Op : ∀ x : (Int × ((List UInt8) × (Int × (Int × (List UInt8))))), 0 ≤ c_mOp x := fun x => by
  unfold c_mOp; omega
def n_Answer (x : (Int × (Int × (Int × (List UInt8))))) : Nat := (x.2.2.2.length)
instance dec_Answer : DecidableEq (Int × (Int × (Int × (List UInt8)))) := by (iterate 20 (all_goals (first | infer_instance | refine @instDecidableEqProd _ _ ?_ ?_)))
def fEq_Answer (a b : (Int × (Int × (Int × (List UInt8))))) : Bool := decide (a = b)
def c_laws_eqAnswer : Con := { io := false, I := .unit, ownI := [], A := (.pair (.pair (.int .i64) (.pair (.int .i64) (.pair (.int .i64) .str))) (.pair (.int .i64) (.pair (.int .i64) (.pair (.int .i64) .str)))), shA := [.agg 4, .agg 4], ownA := [], backA := [], B := .unit, R := .bool, shR := [(false, 1)], fresh := [], newR := false, pre := fun _ a => True, f := some fun _ a => ((fEq_Answer a.1 a.2), ((), ())) }
def laws_eqAnswer.F  (a0 : (Int × (Int × (Int × (List UInt8))))) (a1 : (Int × (Int × (Int × (List UInt8))))) : Prop := (caseB (a0.1 != a1.1) (((false, ((), ())) : Bool × (Unit × Unit)) = ((fEq_Answer a0 a1), ((), ()))) (caseB (a0.2.1 != a1.2.1) (((false, ((), ())) : Bool × (Unit × Unit)) = ((fEq_Answer a0 a1), ((), ()))) (caseB (a0.2.2.1 != a1.2.2.1) (((false, ((), ())) : Bool × (Unit × Unit)) = ((fEq_Answer a0 a1), ((), ()))) (caseB (!(a0.2.2.2 == a1.2.2.2)) (((false, ((), ())) : Bool × (Unit × Unit)) = ((fEq_Answer a0 a1), ((), ()))) (((true, ((), ())) : Bool × (Unit × Unit)) = ((fEq_Answer a0 a1), ((), ())))))))
def laws_eqAnswer.L  (a0 : (Int × (Int × (Int × (List UInt8))))) (a1 : (Int × (Int × (Int × (List UInt8))))) : Nat → Option LoopAnn := fun p => Go.Proofs.Ythjlommbnfooaaa.Bv.look p []

theorem laws_eqAnswer.pure  (a0 : (Int × (Int × (Int × (List UInt8))))) (a1 : (Int × (Int × (Int × (List UInt8))))) (h : True) (hw : Wf c_laws_eqAnswer.A (a0, a1)) : laws_eqAnswer.F a0 a1 := by
  unfold laws_eqAnswer.F
  obtain ⟨x1, x2, x3, x4⟩ := a0
  obtain ⟨y1, y2, y3, y4⟩ := a1
  simp only [forall_eq, true_and, and_true, caseB_iff, Prod.mk.injEq, decide_eq_true_eq, decide_eq_false_iff_not, Bool.not_eq_true', Bool.not_eq_false', bne_iff_ne, ne_eq, beq_iff_eq, Bool.not_true, Bool.not_false, beq_eq_false_iff_ne, bne_eq_false_iff_eq, List.length_append, List.length_cons, List.length_nil, List.append_nil, Nat.zero_add, decide_true, decide_false, eq_self_iff_true, fEq_Answer]
  repeat' (first | (refine And.intro ?_ ?_) | intro _)
  all_goals simp_all

set_option maxRecDepth 100000 in
theorem laws_eqAnswer.eq (i : El c_laws_eqAnswer.I) (x : El c_laws_eqAnswer.A) : vc tab (gam [] [] eqs) (laws_eqAnswer.L x.1 x.2) (match Try.f155.body with | some c => c | none => .skip) 1 (initSt c_laws_eqAnswer Try.f155.ntmps i x) (bodyK tab c_laws_eqAnswer Try.f155.results.toList [4] i x) = laws_eqAnswer.F x.1 x.2 := by kernel_rfl
theorem laws_eqAnswer.ok : ConOk Try.prog 155 c_laws_eqAnswer :=
  conOk_of_eq (con := c_laws_eqAnswer) (tab := tab) (Γ := (gam [] [] eqs)) (fn := Try.f155) (c := (match Try.f155.body with | some c => c | none => .skip)) (fun i x => laws_eqAnswer.L x.1 x.2) (fun i x => laws_eqAnswer.F x.1 x.2) rfl tabOk (gam_nil _ [] eqsOk) Try.func155 rfl [4] (by kernel_rfl) laws_eqAnswer.eq fun i x h hi hw => laws_eqAnswer.pure x.1 x.2 h hw

def c_mAnswer (x : (Int × (Int × (Int × (List UInt8))))) : Int := 1 + 1 + 1 + 1
def m_Answer (x : (Int × (Int × (Int × (List UInt8))))) (k : Int) : (Int × (Int × (Int × (List UInt8)))) := (k, (k + 1), ((k + 1) + 1), (fMT (((k + 1) + 1) + 1)))
def o_Answer (x : (Int × (Int × (Int × (List UInt8))))) (k : Int) : Bool := (decide (x.1 = k)) && (decide (x.2.1 = (k + 1))) && (decide (x.2.2.1 = ((k + 1) + 1))) && (decide (x.2.2.2 = fMT (((k + 1) + 1) + 1)))
theorem ok_Answer : ∀ (x : (Int × (Int × (Int × (List UInt8))))) (k : Int), o_Answer (m_Answer x k) k = true ∧ c_mAnswer (m_Answer x k) = c_mAnswer x := fun x k => by
  simp [o_Answer, m_Answer, c_mAnswer]
theorem pos_Answer : ∀ x : (Int × (Int × (Int × (List UInt8)))), 0 ≤ c_mAnswer x := fun x => by
  unfold c_mAnswer; omega
def n_Bucket (x : (Int × Int)) : Nat := 0
instance dec_Bucket : DecidableEq (Int × Int) := by (iterate 20 (all_goals (first | infer_instance | refine @instDecidableEqProd _ _ ?_ ?_)))
def fEq_Bucket (a b : (Int × Int)) : Bool := decide (a = b)
def c_laws_eqBucket : Con := { io := false, I := .unit, ownI := [], A := (.pair (.pair (.int .i64) (.int .i64)) (.pair (.int .i64) (.int .i64))), shA := [.agg 2, .agg 2], ownA := [], backA := [], B := .unit, R := .bool, shR := [(false, 1)], fresh := [], newR := false, pre := fun _ a => True, f := some fun _ a => ((fEq_Bucket a.1 a.2), ((), ())) }
def laws_eqBucket.F  (a0 : (Int × Int)) (a1 : (Int × Int)) : Prop := (caseB (a0.1 != a1.1) (((false, ((), ())) : Bool × (Unit × Unit)) = ((fEq_Bucket a0 a1), ((), ()))) (caseB (a0.2 != a1.2) (((false, ((), ())) : Bool × (Unit × Unit)) = ((fEq_Bucket a0 a1), ((), ()))) (((true, ((), ())) : Bool × (Unit × Unit)) = ((fEq_Bucket a0 a1), ((), ())))))
def laws_eqBucket.L  (a0 : (Int × Int)) (a1 : (Int × Int)) : Nat → Option LoopAnn := fun p => Go.Proofs.Ythjlommbnfooaaa.Bv.look p []

theorem laws_eqBucket.pure  (a0 : (Int × Int)) (a1 : (Int × Int)) (h : True) (hw : Wf c_laws_eqBucket.A (a0, a1)) : laws_eqBucket.F a0 a1 := by
  unfold laws_eqBucket.F
  obtain ⟨x1, x2⟩ := a0
  obtain ⟨y1, y2⟩ := a1
  simp only [forall_eq, true_and, and_true, caseB_iff, Prod.mk.injEq, decide_eq_true_eq, decide_eq_false_iff_not, Bool.not_eq_true', Bool.not_eq_false', bne_iff_ne, ne_eq, beq_iff_eq, Bool.not_true, Bool.not_false, beq_eq_false_iff_ne, bne_eq_false_iff_eq, List.length_append, List.length_cons, List.length_nil, List.append_nil, Nat.zero_add, decide_true, decide_false, eq_self_iff_true, fEq_Bucket]
  repeat' (first | (refine And.intro ?_ ?_) | intro _)
  all_goals simp_all

set_option maxRecDepth 100000 in
theorem laws_eqBucket.eq (i : El c_laws_eqBucket.I) (x : El c_laws_eqBucket.A) : vc tab (gam [] [] eqs) (laws_eqBucket.L x.1 x.2) (match Try.f131.body with | some c => c | none => .skip) 1 (initSt c_laws_eqBucket Try.f131.ntmps i x) (bodyK tab c_laws_eqBucket Try.f131.results.toList [4] i x) = laws_eqBucket.F x.1 x.2 := by kernel_rfl
theorem laws_eqBucket.ok : ConOk Try.prog 131 c_laws_eqBucket :=
  conOk_of_eq (con := c_laws_eqBucket) (tab := tab) (Γ := (gam [] [] eqs)) (fn := Try.f131) (c := (match Try.f131.body with | some c => c | none => .skip)) (fun i x => laws_eqBucket.L x.1 x.2) (fun i x => laws_eqBucket.F x.1 x.2) rfl tabOk (gam_nil _ [] eqsOk) Try.func131 rfl [4] (by kernel_rfl) laws_eqBucket.eq fun i x h hi hw => laws_eqBucket.pure x.1 x.2 h hw

def fEq_BucketS (a b : List (Int × Int)) : Bool := decide (a = b)
def c_laws_eqBucketS : Con := { io := false, I := .unit, ownI := [], A := (.pair (.list (.pair (.int .i64) (.int .i64))) (.list (.pair (.int .i64) (.int .i64)))), shA := [.one, .one], ownA := [], backA := [], B := .unit, R := .bool, shR := [(false, 1)], fresh := [], newR := false, pre := fun _ a => True, f := some fun _ a => ((fEq_BucketS a.1 a.2), ((), ())) }
def laws_eqBucketS.F  (a0 : (List (Int × Int))) (a1 : (List (Int × Int))) : Prop := (caseB (((List.length a0 : Nat) : Int) != ((List.length a1 : Nat) : Int)) (((false, ((), ())) : Bool × (Unit × Unit)) = ((fEq_BucketS a0 a1), ((), ()))) (([(0, .val false [.lst (.pair (.int .i64) (.int .i64)) a0 none]), (1, .val false [.lst (.pair (.int .i64) (.int .i64)) a1 none])] : List (Nat × Sv)) = [(0, .val false [.lst (.pair (.int .i64) (.int .i64)) a0 none]), (1, .val false [.lst (.pair (.int .i64) (.int .i64)) a1 none])] ∧ ((eqLI a0 a1 0) ∧ ∀ (y1 : Int), (eqLI a0 a1 y1) → (caseB (decide (y1 < ((List.length a0 : Nat) : Int))) (0 ≤ y1 ∧ (y1 < ((List.length a0 : Nat) : Int) ∧ (0 ≤ y1 ∧ (y1 < ((List.length a1 : Nat) : Int) ∧ (True ∧ ∀ (r2 : Bool × (Unit × Unit)), ((r2 : Bool × (Unit × Unit)) = ((fEq_Bucket ((List.getD a0 (Int.toNat y1) ((0 : Int), (0 : Int))).1, (List.getD a0 (Int.toNat y1) ((0 : Int), (0 : Int))).2) ((List.getD a1 (Int.toNat y1) ((0 : Int), (0 : Int))).1, (List.getD a1 (Int.toNat y1) ((0 : Int), (0 : Int))).2)), ((), ()))) → (caseB (!r2.1) (((false, ((), ())) : Bool × (Unit × Unit)) = ((fEq_BucketS a0 a1), ((), ()))) (([(0, .val false [.lst (.pair (.int .i64) (.int .i64)) a0 none]), (1, .val false [.lst (.pair (.int .i64) (.int .i64)) a1 none])] : List (Nat × Sv)) = [(0, .val false [.lst (.pair (.int .i64) (.int .i64)) a0 none]), (1, .val false [.lst (.pair (.int .i64) (.int .i64)) a1 none])] ∧ (eqLI a0 a1 (IntKind.wrap .i64 (y1 + (1 : Int)))) ∧ (eqLM a0 a1 (IntKind.wrap .i64 (y1 + (1 : Int)))) < (eqLM a0 a1 y1)))))))) (((true, ((), ())) : Bool × (Unit × Unit)) = ((fEq_BucketS a0 a1), ((), ())))))))
def laws_eqBucketS.L  (a0 : (List (Int × Int))) (a1 : (List (Int × Int))) : Nat → Option LoopAnn := fun p => Go.Proofs.Ythjlommbnfooaaa.Bv.look p [(58, { kp := { hold := [0, 1], slots := [5], boxes := [], rows := [] }, T := (.int .i64), I := fun st y => eqLI a0 a1 y, μ := fun st y => eqLM a0 a1 y })]

theorem laws_eqBucketS.pure  (a0 : (List (Int × Int))) (a1 : (List (Int × Int))) (h : True) (hw : Wf c_laws_eqBucketS.A (a0, a1)) : laws_eqBucketS.F a0 a1 := by
  unfold laws_eqBucketS.F
  have hw1 : a0.length ≤ 9223372036854775807 := hw.1.1
  simp only [forall_eq, true_and, and_true, caseB_iff, Prod.mk.injEq, decide_eq_true_eq, decide_eq_false_iff_not, Bool.not_eq_true', Bool.not_eq_false', bne_iff_ne, ne_eq, beq_iff_eq, Bool.not_true, Bool.not_false, beq_eq_false_iff_ne, bne_eq_false_iff_eq, List.length_append, List.length_cons, List.length_nil, List.append_nil, Nat.zero_add, decide_true, decide_false, eq_self_iff_true]
  refine ⟨fun h1 => ?_, fun h1 => ?_⟩
  · have : a0 ≠ a1 := fun e => by subst e; simp at h1
    simp [fEq_BucketS, this]
  have hl : a0.length = a1.length := by omega
  refine ⟨⟨by omega, by omega, hl, by simp⟩, ?_⟩
  rintro i hI
  have h2 := hI.1
  have h3 := hI.2.1
  refine ⟨fun hi => ⟨h2, hi, h2, by omega, fun hne => ?_, fun he => ?_⟩, fun hi => ?_⟩
  · have : a0 ≠ a1 := fun e => by subst e; simp [fEq_Bucket] at hne
    simp [fEq_BucketS, this]
  · have hg : a0.getD i.toNat ((0 : Int), (0 : Int)) = a1.getD i.toNat ((0 : Int), (0 : Int)) := by simpa only [fEq_Bucket, decide_eq_true_eq] using he
    rw [w64 (x := i + 1) (by omega) (by omega)]
    exact ⟨eqL_step hI hi hg, by unfold eqLM; omega⟩
  · have h6 := eqL_end hI hi
    simp [fEq_BucketS, h6]

set_option maxRecDepth 100000 in
theorem laws_eqBucketS.eq (i : El c_laws_eqBucketS.I) (x : El c_laws_eqBucketS.A) : vc tab (gam [(131, c_laws_eqBucket)] [] eqs) (laws_eqBucketS.L x.1 x.2) (match Try.f77.body with | some c => c | none => .skip) 1 (initSt c_laws_eqBucketS Try.f77.ntmps i x) (bodyK tab c_laws_eqBucketS Try.f77.results.toList [4] i x) = laws_eqBucketS.F x.1 x.2 := by kernel_rfl
theorem laws_eqBucketS.ok : ConOk Try.prog 77 c_laws_eqBucketS :=
  conOk_of_eq (con := c_laws_eqBucketS) (tab := tab) (Γ := (gam [(131, c_laws_eqBucket)] [] eqs)) (fn := Try.f77) (c := (match Try.f77.body with | some c => c | none => .skip)) (fun i x => laws_eqBucketS.L x.1 x.2) (fun i x => laws_eqBucketS.F x.1 x.2) rfl tabOk (gam_cons ⟨_, Try.func131, rfl, rfl⟩ laws_eqBucket.ok (gam_nil _ [] eqsOk)) Try.func77 rfl [4] (by kernel_rfl) laws_eqBucketS.eq fun i x h hi hw => laws_eqBucketS.pure x.1 x.2 h hw

def c_mBucket (x : (Int × Int)) : Int := 1 + 1
def m_Bucket (x : (Int × Int)) (k : Int) : (Int × Int) := (k, (k + 1))
def o_Bucket (x : (Int × Int)) (k : Int) : Bool := (decide (x.1 = k)) && (decide (x.2 = (k + 1)))
theorem ok_Bucket : ∀ (x : (Int × Int)) (k : Int), o_Bucket (m_Bucket x k) k = true ∧ c_mBucket (m_Bucket x k) = c_mBucket x := fun x k => by
  simp [o_Bucket, m_Bucket, c_mBucket]
theorem pos_Bucket : ∀ x : (Int × Int), 0 ≤ c_mBucket x := fun x => by
  unfold c_mBucket; omega
def pMk_BucketS (l : List (Int × Int)) (k : Int) : Prop := 0 ≤ k ∧ k + cL c_mBucket l ≤ 4611686018427387904
def fMk_BucketS (l : List (Int × Int)) (k : Int) : Int × List (Int × Int) := (k + cL c_mBucket l, mL c_mBucket m_Bucket l k)
def c_laws_markBucketS : Con := { io := false, I := .unit, ownI := [], A := (.pair (.list (.pair (.int .i64) (.int .i64))) (.int .i64)), shA := [.one, .one], ownA := [], backA := [(0, 152)], B := (.list (.pair (.int .i64) (.int .i64))), R := (.int .i64), shR := [(false, 1)], fresh := [], newR := false, pre := fun _ a => (pMk_BucketS a.1 a.2), f := some fun _ a => ((fMk_BucketS a.1 a.2).1, ((), (fMk_BucketS a.1 a.2).2)) }
def laws_markBucketS.F  (a0 : (List (Int × Int))) (a1 : Int) : Prop := (([(0, .val false [.own (.pair (.int .i64) (.int .i64)) 2])] : List (Nat × Sv)) = [(0, .val false [.own (.pair (.int .i64) (.int .i64)) 2])] ∧ ((mkI c_mBucket m_Bucket a0 a1 a1 0 a0) ∧ ∀ (y1 : (Int × (Int × (List (Int × Int))))), (mkI c_mBucket m_Bucket a0 a1 y1.1 y1.2.1 y1.2.2) → (caseB (decide (y1.2.1 < ((List.length y1.2.2 : Nat) : Int))) (0 ≤ y1.2.1 ∧ (y1.2.1 < ((List.length y1.2.2 : Nat) : Int) ∧ (0 ≤ y1.2.1 ∧ (y1.2.1 < ((List.length (List.set y1.2.2 (Int.toNat y1.2.1) (y1.1, (List.getD y1.2.2 (Int.toNat y1.2.1) ((0 : Int), (0 : Int))).2)) : Nat) : Int) ∧ (let l2 : List (Int × Int) := (List.set (List.set y1.2.2 (Int.toNat y1.2.1) (y1.1, (List.getD y1.2.2 (Int.toNat y1.2.1) ((0 : Int), (0 : Int))).2)) (Int.toNat y1.2.1) ((List.getD (List.set y1.2.2 (Int.toNat y1.2.1) (y1.1, (List.getD y1.2.2 (Int.toNat y1.2.1) ((0 : Int), (0 : Int))).2)) (Int.toNat y1.2.1) ((0 : Int), (0 : Int))).1, (IntKind.wrap .i64 (y1.1 + (1 : Int))))); (([(0, .val false [.own (.pair (.int .i64) (.int .i64)) 2])] : List (Nat × Sv)) = [(0, .val false [.own (.pair (.int .i64) (.int .i64)) 2])] ∧ (mkI c_mBucket m_Bucket a0 a1 (IntKind.wrap .i64 ((IntKind.wrap .i64 (y1.1 + (1 : Int))) + (1 : Int))) (IntKind.wrap .i64 (y1.2.1 + (1 : Int))) l2) ∧ (mkM a0 a1 (IntKind.wrap .i64 ((IntKind.wrap .i64 (y1.1 + (1 : Int))) + (1 : Int))) (IntKind.wrap .i64 (y1.2.1 + (1 : Int))) l2) < (mkM a0 a1 y1.1 y1.2.1 y1.2.2))))))) (((y1.1, ((), y1.2.2)) : Int × (Unit × (List (Int × Int)))) = ((fMk_BucketS a0 a1).1, ((), (fMk_BucketS a0 a1).2))))))
def laws_markBucketS.L  (a0 : (List (Int × Int))) (a1 : Int) : Nat → Option LoopAnn := fun p => Go.Proofs.Ythjlommbnfooaaa.Bv.look p [(26, { kp := { hold := [0], slots := [1, 5], boxes := [], rows := [{ bx := false, s := 0, i := 0, k := 2, e := 152, hot := true }] }, T := (.pair (.int .i64) (.pair (.int .i64) (.list (.pair (.int .i64) (.int .i64))))), I := fun st y => mkI c_mBucket m_Bucket a0 a1 y.1 y.2.1 y.2.2, μ := fun st y => mkM a0 a1 y.1 y.2.1 y.2.2 })]

theorem laws_markBucketS.pure  (a0 : (List (Int × Int))) (a1 : Int) (h : (pMk_BucketS a0 a1)) (hw : Wf c_laws_markBucketS.A (a0, a1)) : laws_markBucketS.F a0 a1 := by
  unfold laws_markBucketS.F
  obtain ⟨p1, p2⟩ := h
  have hw1 : a0.length ≤ 9223372036854775807 := hw.1.1
  simp only [forall_eq, true_and, and_true, caseB_iff, Prod.mk.injEq, decide_eq_true_eq, decide_eq_false_iff_not, Bool.not_eq_true', Bool.not_eq_false', bne_iff_ne, ne_eq, beq_iff_eq, Bool.not_true, Bool.not_false, beq_eq_false_iff_ne, bne_eq_false_iff_eq, List.length_append, List.length_cons, List.length_nil, List.append_nil, Nat.zero_add, decide_true, decide_false, eq_self_iff_true]
  refine ⟨⟨by omega, by omega, by simp [cL], by simp [mL]⟩, ?_⟩
  rintro ⟨k, i, l⟩ hI
  simp only at hI ⊢
  have hl := mk_len hI
  have h2 := hI.1
  have h3 := hI.2
  refine ⟨fun hi0 => ?_, fun hi0 => ?_⟩
  · have hi : i < (a0.length : Int) := by omega
    have hi' : i.toNat < l.length := by omega
    have hg := mk_at (d := ((0 : Int), (0 : Int))) hI hi
    have hs := cL_split c_mBucket ((0 : Int), (0 : Int)) (l := a0) (i := i.toNat) (by omega)
    have hk := hI.3
    have c1 := cL_pos pos_Bucket (a0.take i.toNat)
    have c2 := cL_pos pos_Bucket (a0.drop (i.toNat + 1))
    have c3 := pos_Bucket (a0.getD i.toNat ((0 : Int), (0 : Int)))
    have hmod : Int.tmod k 3 = k % 3 := Int.tmod_eq_emod_of_nonneg (by omega)
    have hc : c_mBucket (a0.getD i.toNat ((0 : Int), (0 : Int))) = c_mBucket (a0.getD i.toNat ((0 : Int), (0 : Int))) := rfl
    conv at hc => rhs; unfold c_mBucket
    try simp only [hg, getD_set_self hi', List.set_set, List.length_set]
    try simp (disch := first | omega | simp_all) only [getD_set_self, List.set_set, List.length_set, hg, w64, pMT]
    repeat' (with_reducible (first | (refine And.intro ?_ ?_) | intro _))
    all_goals (try simp +zetaDelta (disch := first | omega | simp_all) only [hg, getD_set_self, List.set_set, List.length_set, w64, pMT])
    all_goals (first | omega | exact mk_step (d := ((0 : Int), (0 : Int))) hI hi (by simp [m_Bucket, hmod]) (by omega) | (unfold mkM; omega) | skip)
  · obtain ⟨e1, e2⟩ := mk_end hI (by omega)
    exact ⟨e1, e2⟩

set_option maxRecDepth 100000 in
theorem laws_markBucketS.eq (i : El c_laws_markBucketS.I) (x : El c_laws_markBucketS.A) : vc tab (gam [] [] eqs) (laws_markBucketS.L x.1 x.2) (match Try.f80.body with | some c => c | none => .skip) 1 (initSt c_laws_markBucketS Try.f80.ntmps i x) (bodyK tab c_laws_markBucketS Try.f80.results.toList [3] i x) = laws_markBucketS.F x.1 x.2 := by kernel_rfl
theorem laws_markBucketS.ok : ConOk Try.prog 80 c_laws_markBucketS :=
  conOk_of_eq (con := c_laws_markBucketS) (tab := tab) (Γ := (gam [] [] eqs)) (fn := Try.f80) (c := (match Try.f80.body with | some c => c | none => .skip)) (fun i x => laws_markBucketS.L x.1 x.2) (fun i x => laws_markBucketS.F x.1 x.2) rfl tabOk (gam_nil _ [] eqsOk) Try.func80 rfl [3] (by kernel_rfl) laws_markBucketS.eq fun i x h hi hw => laws_markBucketS.pure x.1 x.2 h hw

def fHd_BucketS (l : List (Int × Int)) (k : Int) : Int := fHd (cL c_mBucket l) (oL c_mBucket o_Bucket l k) k
def c_laws_heldBucketS : Con := { io := false, I := .unit, ownI := [], A := (.pair (.list (.pair (.int .i64) (.int .i64))) (.int .i64)), shA := [.one, .one], ownA := [], backA := [], B := .unit, R := (.int .i64), shR := [(false, 1)], fresh := [], newR := false, pre := fun _ a => (pMk_BucketS a.1 a.2), f := some fun _ a => ((fHd_BucketS a.1 a.2), ((), ())) }
def laws_heldBucketS.F  (a0 : (List (Int × Int))) (a1 : Int) : Prop := (([(0, .val false [.lst (.pair (.int .i64) (.int .i64)) a0 none])] : List (Nat × Sv)) = [(0, .val false [.lst (.pair (.int .i64) (.int .i64)) a0 none])] ∧ ((hdI c_mBucket o_Bucket a0 a1 a1 0) ∧ ∀ (y1 : (Int × Int)), (hdI c_mBucket o_Bucket a0 a1 y1.1 y1.2) → (caseB (decide (y1.2 < ((List.length a0 : Nat) : Int))) (0 ≤ y1.2 ∧ (y1.2 < ((List.length a0 : Nat) : Int) ∧ (caseB (((List.getD a0 (Int.toNat y1.2) ((0 : Int), (0 : Int))).1) != y1.1) ((((-1), ((), ())) : Int × (Unit × Unit)) = ((fHd_BucketS a0 a1), ((), ()))) (0 ≤ y1.2 ∧ (y1.2 < ((List.length a0 : Nat) : Int) ∧ (caseB (((List.getD a0 (Int.toNat y1.2) ((0 : Int), (0 : Int))).2) != (IntKind.wrap .i64 (y1.1 + (1 : Int)))) ((((-1), ((), ())) : Int × (Unit × Unit)) = ((fHd_BucketS a0 a1), ((), ()))) (([(0, .val false [.lst (.pair (.int .i64) (.int .i64)) a0 none])] : List (Nat × Sv)) = [(0, .val false [.lst (.pair (.int .i64) (.int .i64)) a0 none])] ∧ (hdI c_mBucket o_Bucket a0 a1 (IntKind.wrap .i64 ((IntKind.wrap .i64 (y1.1 + (1 : Int))) + (1 : Int))) (IntKind.wrap .i64 (y1.2 + (1 : Int)))) ∧ (hdM a0 a1 (IntKind.wrap .i64 ((IntKind.wrap .i64 (y1.1 + (1 : Int))) + (1 : Int))) (IntKind.wrap .i64 (y1.2 + (1 : Int)))) < (hdM a0 a1 y1.1 y1.2)))))))) (((y1.1, ((), ())) : Int × (Unit × Unit)) = ((fHd_BucketS a0 a1), ((), ()))))))
def laws_heldBucketS.L  (a0 : (List (Int × Int))) (a1 : Int) : Nat → Option LoopAnn := fun p => Go.Proofs.Ythjlommbnfooaaa.Bv.look p [(26, { kp := { hold := [0], slots := [1, 5], boxes := [], rows := [] }, T := (.pair (.int .i64) (.int .i64)), I := fun st y => hdI c_mBucket o_Bucket a0 a1 y.1 y.2, μ := fun st y => hdM a0 a1 y.1 y.2 })]

theorem laws_heldBucketS.pure  (a0 : (List (Int × Int))) (a1 : Int) (h : (pMk_BucketS a0 a1)) (hw : Wf c_laws_heldBucketS.A (a0, a1)) : laws_heldBucketS.F a0 a1 := by
  unfold laws_heldBucketS.F
  obtain ⟨p1, p2⟩ := h
  have hw1 : a0.length ≤ 9223372036854775807 := hw.1.1
  simp only [forall_eq, true_and, and_true, caseB_iff, Prod.mk.injEq, decide_eq_true_eq, decide_eq_false_iff_not, Bool.not_eq_true', Bool.not_eq_false', bne_iff_ne, ne_eq, beq_iff_eq, Bool.not_true, Bool.not_false, beq_eq_false_iff_ne, bne_eq_false_iff_eq, List.length_append, List.length_cons, List.length_nil, List.append_nil, Nat.zero_add, decide_true, decide_false, eq_self_iff_true]
  refine ⟨⟨by omega, by omega, by simp [cL], by simp⟩, ?_⟩
  rintro ⟨k, i⟩ hI
  simp only at hI ⊢
  have h2 := hI.1
  have h3 := hI.2
  refine ⟨fun hi => ?_, fun hi => hd_end hI hi⟩
  · have hs := cL_split c_mBucket ((0 : Int), (0 : Int)) (l := a0) (i := i.toNat) (by omega)
    have hk := hI.3
    have c1 := cL_pos pos_Bucket (a0.take i.toNat)
    have c2 := cL_pos pos_Bucket (a0.drop (i.toNat + 1))
    have c3 := pos_Bucket (a0.getD i.toNat ((0 : Int), (0 : Int)))
    have hmod : Int.tmod k 3 = k % 3 := Int.tmod_eq_emod_of_nonneg (by omega)
    have no : o_Bucket (a0.getD i.toNat ((0 : Int), (0 : Int))) k = false → -1 = fHd_BucketS a0 a1 := fun ho => hd_no ((0 : Int), (0 : Int)) hI hi ho
    have yes : o_Bucket (a0.getD i.toNat ((0 : Int), (0 : Int))) k = true → hdI c_mBucket o_Bucket a0 a1 (k + c_mBucket (a0.getD i.toNat ((0 : Int), (0 : Int)))) (i + 1) := fun ho => hd_step ((0 : Int), (0 : Int)) hI hi ho rfl
    generalize a0.getD i.toNat ((0 : Int), (0 : Int)) = x at *
    have hc : c_mBucket x = c_mBucket x := rfl
    conv at hc => rhs; unfold c_mBucket
    simp only [o_Bucket] at no yes
    simp (disch := omega) only [w64, pMT]
    repeat' (with_reducible (first | (refine And.intro ?_ ?_) | intro _))
    all_goals (first | omega | (unfold hdM; omega) | skip)
    all_goals (try simp (disch := first | omega | assumption) only [fHd_neg, fHd_yes, w64, Bool.not_eq_false] at *)
    all_goals (try simp (disch := first | omega | assumption) only [fHd_neg, fHd_yes, w64, Bool.not_eq_false] at *)
    all_goals (first | omega | grind)

set_option maxRecDepth 100000 in
theorem laws_heldBucketS.eq (i : El c_laws_heldBucketS.I) (x : El c_laws_heldBucketS.A) : vc tab (gam [] [] eqs) (laws_heldBucketS.L x.1 x.2) (match Try.f83.body with | some c => c | none => .skip) 1 (initSt c_laws_heldBucketS Try.f83.ntmps i x) (bodyK tab c_laws_heldBucketS Try.f83.results.toList [3] i x) = laws_heldBucketS.F x.1 x.2 := by kernel_rfl
theorem laws_heldBucketS.ok : ConOk Try.prog 83 c_laws_heldBucketS :=
  conOk_of_eq (con := c_laws_heldBucketS) (tab := tab) (Γ := (gam [] [] eqs)) (fn := Try.f83) (c := (match Try.f83.body with | some c => c | none => .skip)) (fun i x => laws_heldBucketS.L x.1 x.2) (fun i x => laws_heldBucketS.F x.1 x.2) rfl tabOk (gam_nil _ [] eqsOk) Try.func83 rfl [3] (by kernel_rfl) laws_heldBucketS.eq fun i x h hi hw => laws_heldBucketS.pure x.1 x.2 h hw

def n_Session (x : (Int × (Int × (Int × (Int × (Int × (List UInt8))))))) : Nat := (n_Answer x.2.2)
instance dec_Session : DecidableEq (Int × (Int × (Int × (Int × (Int × (List UInt8)))))) := by (iterate 20 (all_goals (first | infer_instance | refine @instDecidableEqProd _ _ ?_ ?_)))
def fEq_Session (a b : (Int × (Int × (Int × (Int × (Int × (List UInt8))))))) : Bool := decide (a = b)
def c_laws_eqSession : Con := { io := false, I := .unit, ownI := [], A := (.pair (.pair (.int .i64) (.pair (.int .i64) (.pair (.int .i64) (.pair (.int .i64) (.pair (.int .i64) .str))))) (.pair (.int .i64) (.pair (.int .i64) (.pair (.int .i64) (.pair (.int .i64) (.pair (.int .i64) .str)))))), shA := [.agg 6, .agg 6], ownA := [], backA := [], B := .unit, R := .bool, shR := [(false, 1)], fresh := [], newR := false, pre := fun _ a => True, f := some fun _ a => ((fEq_Session a.1 a.2), ((), ())) }
def laws_eqSession.F  (a0 : (Int × (Int × (Int × (Int × (Int × (List UInt8))))))) (a1 : (Int × (Int × (Int × (Int × (Int × (List UInt8))))))) : Prop := (caseB (a0.1 != a1.1) (((false, ((), ())) : Bool × (Unit × Unit)) = ((fEq_Session a0 a1), ((), ()))) (caseB (a0.2.1 != a1.2.1) (((false, ((), ())) : Bool × (Unit × Unit)) = ((fEq_Session a0 a1), ((), ()))) (True ∧ ∀ (r1 : Bool × (Unit × Unit)), ((r1 : Bool × (Unit × Unit)) = ((fEq_Answer (a0.2.2.1, (a0.2.2.2.1, (a0.2.2.2.2.1, a0.2.2.2.2.2))) (a1.2.2.1, (a1.2.2.2.1, (a1.2.2.2.2.1, a1.2.2.2.2.2)))), ((), ()))) → (caseB (!r1.1) (((false, ((), ())) : Bool × (Unit × Unit)) = ((fEq_Session a0 a1), ((), ()))) (((true, ((), ())) : Bool × (Unit × Unit)) = ((fEq_Session a0 a1), ((), ())))))))
def laws_eqSession.L  (a0 : (Int × (Int × (Int × (Int × (Int × (List UInt8))))))) (a1 : (Int × (Int × (Int × (Int × (Int × (List UInt8))))))) : Nat → Option LoopAnn := fun p => Go.Proofs.Ythjlommbnfooaaa.Bv.look p []

theorem laws_eqSession.pure  (a0 : (Int × (Int × (Int × (Int × (Int × (List UInt8))))))) (a1 : (Int × (Int × (Int × (Int × (Int × (List UInt8))))))) (h : True) (hw : Wf c_laws_eqSession.A (a0, a1)) : laws_eqSession.F a0 a1 := by
  unfold laws_eqSession.F
  obtain ⟨x1, x2, ⟨x3, x4, x5, x6⟩⟩ := a0
  obtain ⟨y1, y2, ⟨y3, y4, y5, y6⟩⟩ := a1
  simp only [forall_eq, true_and, and_true, caseB_iff, Prod.mk.injEq, decide_eq_true_eq, decide_eq_false_iff_not, Bool.not_eq_true', Bool.not_eq_false', bne_iff_ne, ne_eq, beq_iff_eq, Bool.not_true, Bool.not_false, beq_eq_false_iff_ne, bne_eq_false_iff_eq, List.length_append, List.length_cons, List.length_nil, List.append_nil, Nat.zero_add, decide_true, decide_false, eq_self_iff_true, fEq_Session, fEq_Answer]
  repeat' (first | (refine And.intro ?_ ?_) | intro _)
  all_goals simp_all

set_option maxRecDepth 100000 in
theorem laws_eqSession.eq (i : El c_laws_eqSession.I) (x : El c_laws_eqSession.A) : vc tab (gam [(155, c_laws_eqAnswer)] [] eqs) (laws_eqSession.L x.1 x.2) (match Try.f133.body with | some c => c | none => .skip) 1 (initSt c_laws_eqSession Try.f133.ntmps i x) (bodyK tab c_laws_eqSession Try.f133.results.toList [4] i x) = laws_eqSession.F x.1 x.2 := by kernel_rfl
theorem laws_eqSession.ok : ConOk Try.prog 133 c_laws_eqSession :=
  conOk_of_eq (con := c_laws_eqSession) (tab := tab) (Γ := (gam [(155, c_laws_eqAnswer)] [] eqs)) (fn := Try.f133) (c := (match Try.f133.body with | some c => c | none => .skip)) (fun i x => laws_eqSession.L x.1 x.2) (fun i x => laws_eqSession.F x.1 x.2) rfl tabOk (gam_cons ⟨_, Try.func155, rfl, rfl⟩ laws_eqAnswer.ok (gam_nil _ [] eqsOk)) Try.func133 rfl [4] (by kernel_rfl) laws_eqSession.eq fun i x h hi hw => laws_eqSession.pure x.1 x.2 h hw

def fEq_SessionS (a b : List (Int × (Int × (Int × (Int × (Int × (List UInt8))))))) : Bool := decide (a = b)
def c_laws_eqSessionS : Con := { io := false, I := .unit, ownI := [], A := (.pair (.list (.pair (.int .i64) (.pair (.int .i64) (.pair (.int .i64) (.pair (.int .i64) (.pair (.int .i64) .str)))))) (.list (.pair (.int .i64) (.pair (.int .i64) (.pair (.int .i64) (.pair (.int .i64) (.pair (.int .i64) .str))))))), shA := [.one, .one], ownA := [], backA := [], B := .unit, R := .bool, shR := [(false, 1)], fresh := [], newR := false, pre := fun _ a => True, f := some fun _ a => ((fEq_SessionS a.1 a.2), ((), ())) }
def laws_eqSessionS.F  (a0 : (List (Int × (Int × (Int × (Int × (Int × (List UInt8)))))))) (a1 : (List (Int × (Int × (Int × (Int × (Int × (List UInt8)))))))) : Prop := (caseB (((List.length a0 : Nat) : Int) != ((List.length a1 : Nat) : Int)) (((false, ((), ())) : Bool × (Unit × Unit)) = ((fEq_SessionS a0 a1), ((), ()))) (([(0, .val false [.lst (.pair (.int .i64) (.pair (.int .i64) (.pair (.int .i64) (.pair (.int .i64) (.pair (.int .i64) .str))))) a0 none]), (1, .val false [.lst (.pair (.int .i64) (.pair (.int .i64) (.pair (.int .i64) (.pair (.int .i64) (.pair (.int .i64) .str))))) a1 none])] : List (Nat × Sv)) = [(0, .val false [.lst (.pair (.int .i64) (.pair (.int .i64) (.pair (.int .i64) (.pair (.int .i64) (.pair (.int .i64) .str))))) a0 none]), (1, .val false [.lst (.pair (.int .i64) (.pair (.int .i64) (.pair (.int .i64) (.pair (.int .i64) (.pair (.int .i64) .str))))) a1 none])] ∧ ((eqLI a0 a1 0) ∧ ∀ (y1 : Int), (eqLI a0 a1 y1) → (caseB (decide (y1 < ((List.length a0 : Nat) : Int))) (0 ≤ y1 ∧ (y1 < ((List.length a0 : Nat) : Int) ∧ (0 ≤ y1 ∧ (y1 < ((List.length a1 : Nat) : Int) ∧ (True ∧ ∀ (r2 : Bool × (Unit × Unit)), ((r2 : Bool × (Unit × Unit)) = ((fEq_Session ((List.getD a0 (Int.toNat y1) ((0 : Int), ((0 : Int), ((0 : Int), ((0 : Int), ((0 : Int), ([] : (List UInt8)))))))).1, ((List.getD a0 (Int.toNat y1) ((0 : Int), ((0 : Int), ((0 : Int), ((0 : Int), ((0 : Int), ([] : (List UInt8)))))))).2.1, ((List.getD a0 (Int.toNat y1) ((0 : Int), ((0 : Int), ((0 : Int), ((0 : Int), ((0 : Int), ([] : (List UInt8)))))))).2.2.1, ((List.getD a0 (Int.toNat y1) ((0 : Int), ((0 : Int), ((0 : Int), ((0 : Int), ((0 : Int), ([] : (List UInt8)))))))).2.2.2.1, ((List.getD a0 (Int.toNat y1) ((0 : Int), ((0 : Int), ((0 : Int), ((0 : Int), ((0 : Int), ([] : (List UInt8)))))))).2.2.2.2.1, (List.getD a0 (Int.toNat y1) ((0 : Int), ((0 : Int), ((0 : Int), ((0 : Int), ((0 : Int), ([] : (List UInt8)))))))).2.2.2.2.2))))) ((List.getD a1 (Int.toNat y1) ((0 : Int), ((0 : Int), ((0 : Int), ((0 : Int), ((0 : Int), ([] : (List UInt8)))))))).1, ((List.getD a1 (Int.toNat y1) ((0 : Int), ((0 : Int), ((0 : Int), ((0 : Int), ((0 : Int), ([] : (List UInt8)))))))).2.1, ((List.getD a1 (Int.toNat y1) ((0 : Int), ((0 : Int), ((0 : Int), ((0 : Int), ((0 : Int), ([] : (List UInt8)))))))).2.2.1, ((List.getD a1 (Int.toNat y1) ((0 : Int), ((0 : Int), ((0 : Int), ((0 : Int), ((0 : Int), ([] : (List UInt8)))))))).2.2.2.1, ((List.getD a1 (Int.toNat y1) ((0 : Int), ((0 : Int), ((0 : Int), ((0 : Int), ((0 : Int), ([] : (List UInt8)))))))).2.2.2.2.1, (List.getD a1 (Int.toNat y1) ((0 : Int), ((0 : Int), ((0 : Int), ((0 : Int), ((0 : Int), ([] : (List UInt8)))))))).2.2.2.2.2)))))), ((), ()))) → (caseB (!r2.1) (((false, ((), ())) : Bool × (Unit × Unit)) = ((fEq_SessionS a0 a1), ((), ()))) (([(0, .val false [.lst (.pair (.int .i64) (.pair (.int .i64) (.pair (.int .i64) (.pair (.int .i64) (.pair (.int .i64) .str))))) a0 none]), (1, .val false [.lst (.pair (.int .i64) (.pair (.int .i64) (.pair (.int .i64) (.pair (.int .i64) (.pair (.int .i64) .str))))) a1 none])] : List (Nat × Sv)) = [(0, .val false [.lst (.pair (.int .i64) (.pair (.int .i64) (.pair (.int .i64) (.pair (.int .i64) (.pair (.int .i64) .str))))) a0 none]), (1, .val false [.lst (.pair (.int .i64) (.pair (.int .i64) (.pair (.int .i64) (.pair (.int .i64) (.pair (.int .i64) .str))))) a1 none])] ∧ (eqLI a0 a1 (IntKind.wrap .i64 (y1 + (1 : Int)))) ∧ (eqLM a0 a1 (IntKind.wrap .i64 (y1 + (1 : Int)))) < (eqLM a0 a1 y1)))))))) (((true, ((), ())) : Bool × (Unit × Unit)) = ((fEq_SessionS a0 a1), ((), ())))))))
def laws_eqSessionS.L  (a0 : (List (Int × (Int × (Int × (Int × (Int × (List UInt8)))))))) (a1 : (List (Int × (Int × (Int × (Int × (Int × (List UInt8)))))))) : Nat → Option LoopAnn := fun p => Go.Proofs.Ythjlommbnfooaaa.Bv.look p [(58, { kp := { hold := [0, 1], slots := [5], boxes := [], rows := [] }, T := (.int .i64), I := fun st y => eqLI a0 a1 y, μ := fun st y => eqLM a0 a1 y })]

theorem laws_eqSessionS.pure  (a0 : (List (Int × (Int × (Int × (Int × (Int × (List UInt8)))))))) (a1 : (List (Int × (Int × (Int × (Int × (Int × (List UInt8)))))))) (h : True) (hw : Wf c_laws_eqSessionS.A (a0, a1)) : laws_eqSessionS.F a0 a1 := by
  unfold laws_eqSessionS.F
  have hw1 : a0.length ≤ 9223372036854775807 := hw.1.1
  simp only [forall_eq, true_and, and_true, caseB_iff, Prod.mk.injEq, decide_eq_true_eq, decide_eq_false_iff_not, Bool.not_eq_true', Bool.not_eq_false', bne_iff_ne, ne_eq, beq_iff_eq, Bool.not_true, Bool.not_false, beq_eq_false_iff_ne, bne_eq_false_iff_eq, List.length_append, List.length_cons, List.length_nil, List.append_nil, Nat.zero_add, decide_true, decide_false, eq_self_iff_true]
  refine ⟨fun h1 => ?_, fun h1 => ?_⟩
  · have : a0 ≠ a1 := fun e => by subst e; simp at h1
    simp [fEq_SessionS, this]
  have hl : a0.length = a1.length := by omega
  refine ⟨⟨by omega, by omega, hl, by simp⟩, ?_⟩
  rintro i hI
  have h2 := hI.1
  have h3 := hI.2.1
  refine ⟨fun hi => ⟨h2, hi, h2, by omega, fun hne => ?_, fun he => ?_⟩, fun hi => ?_⟩
  · have : a0 ≠ a1 := fun e => by subst e; simp [fEq_Session] at hne
    simp [fEq_SessionS, this]
  · have hg : a0.getD i.toNat ((0 : Int), ((0 : Int), ((0 : Int), ((0 : Int), ((0 : Int), ([] : (List UInt8))))))) = a1.getD i.toNat ((0 : Int), ((0 : Int), ((0 : Int), ((0 : Int), ((0 : Int), ([] : (List UInt8))))))) := by simpa only [fEq_Session, decide_eq_true_eq] using he
    rw [w64 (x := i + 1) (by omega) (by omega)]
    exact ⟨eqL_step hI hi hg, by unfold eqLM; omega⟩
  · have h6 := eqL_end hI hi
    simp [fEq_SessionS, h6]

set_option maxRecDepth 100000 in
theorem laws_eqSessionS.eq (i : El c_laws_eqSessionS.I) (x : El c_laws_eqSessionS.A) : vc tab (gam [(133, c_laws_eqSession)] [] eqs) (laws_eqSessionS.L x.1 x.2) (match Try.f79.body with | some c => c | none => .skip) 1 (initSt c_laws_eqSessionS Try.f79.ntmps i x) (bodyK tab c_laws_eqSessionS Try.f79.results.toList [4] i x) = laws_eqSessionS.F x.1 x.2 := by kernel_rfl
theorem laws_eqSessionS.ok : ConOk Try.prog 79 c_laws_eqSessionS :=
  conOk_of_eq (con := c_laws_eqSessionS) (tab := tab) (Γ := (gam [(133, c_laws_eqSession)] [] eqs)) (fn := Try.f79) (c := (match Try.f79.body with | some c => c | none => .skip)) (fun i x => laws_eqSessionS.L x.1 x.2) (fun i x => laws_eqSessionS.F x.1 x.2) rfl tabOk (gam_cons ⟨_, Try.func133, rfl, rfl⟩ laws_eqSession.ok (gam_nil _ [] eqsOk)) Try.func79 rfl [4] (by kernel_rfl) laws_eqSessionS.eq fun i x h hi hw => laws_eqSessionS.pure x.1 x.2 h hw

def c_mSession (x : (Int × (Int × (Int × (Int × (Int × (List UInt8))))))) : Int := 1 + 1 + 1 + 1 + 1 + 1
def m_Session (x : (Int × (Int × (Int × (Int × (Int × (List UInt8))))))) (k : Int) : (Int × (Int × (Int × (Int × (Int × (List UInt8)))))) := (k, (k + 1), (((k + 1) + 1), (((k + 1) + 1) + 1), ((((k + 1) + 1) + 1) + 1), (fMT (((((k + 1) + 1) + 1) + 1) + 1))))
def o_Session (x : (Int × (Int × (Int × (Int × (Int × (List UInt8))))))) (k : Int) : Bool := (decide (x.1 = k)) && (decide (x.2.1 = (k + 1))) && (decide (x.2.2.1 = ((k + 1) + 1))) && (decide (x.2.2.2.1 = (((k + 1) + 1) + 1))) && (decide (x.2.2.2.2.1 = ((((k + 1) + 1) + 1) + 1))) && (decide (x.2.2.2.2.2 = fMT (((((k + 1) + 1) + 1) + 1) + 1)))
theorem ok_Session : ∀ (x : (Int × (Int × (Int × (Int × (Int × (List UInt8))))))) (k : Int), o_Session (m_Session x k) k = true ∧ c_mSession (m_Session x k) = c_mSession x := fun x k => by
  simp [o_Session, m_Session, c_mSession]
theorem pos_Session : ∀ x : (Int × (Int × (Int × (Int × (Int × (List UInt8)))))), 0 ≤ c_mSession x := fun x => by
  unfold c_mSession; omega
def pMk_SessionS (l : List (Int × (Int × (Int × (Int × (Int × (List UInt8))))))) (k : Int) : Prop := 0 ≤ k ∧ k + cL c_mSession l ≤ 4611686018427387904
def fMk_SessionS (l : List (Int × (Int × (Int × (Int × (Int × (List UInt8))))))) (k : Int) : Int × List (Int × (Int × (Int × (Int × (Int × (List UInt8)))))) := (k + cL c_mSession l, mL c_mSession m_Session l k)
def c_laws_markSessionS : Con := { io := false, I := .unit, ownI := [], A := (.pair (.list (.pair (.int .i64) (.pair (.int .i64) (.pair (.int .i64) (.pair (.int .i64) (.pair (.int .i64) .str)))))) (.int .i64)), shA := [.one, .one], ownA := [], backA := [(0, 158)], B := (.list (.pair (.int .i64) (.pair (.int .i64) (.pair (.int .i64) (.pair (.int .i64) (.pair (.int .i64) .str)))))), R := (.int .i64), shR := [(false, 1)], fresh := [], newR := false, pre := fun _ a => (pMk_SessionS a.1 a.2), f := some fun _ a => ((fMk_SessionS a.1 a.2).1, ((), (fMk_SessionS a.1 a.2).2)) }
def laws_markSessionS.F  (a0 : (List (Int × (Int × (Int × (Int × (Int × (List UInt8)))))))) (a1 : Int) : Prop := (([(0, .val false [.own (.pair (.int .i64) (.pair (.int .i64) (.pair (.int .i64) (.pair (.int .i64) (.pair (.int .i64) .str))))) 2])] : List (Nat × Sv)) = [(0, .val false [.own (.pair (.int .i64) (.pair (.int .i64) (.pair (.int .i64) (.pair (.int .i64) (.pair (.int .i64) .str))))) 2])] ∧ ((mkI c_mSession m_Session a0 a1 a1 0 a0) ∧ ∀ (y1 : (Int × (Int × (List (Int × (Int × (Int × (Int × (Int × (List UInt8)))))))))), (mkI c_mSession m_Session a0 a1 y1.1 y1.2.1 y1.2.2) → (caseB (decide (y1.2.1 < ((List.length y1.2.2 : Nat) : Int))) (0 ≤ y1.2.1 ∧ (y1.2.1 < ((List.length y1.2.2 : Nat) : Int) ∧ (let l2 : List (Int × (Int × (Int × (Int × (Int × (List UInt8)))))) := (List.set y1.2.2 (Int.toNat y1.2.1) (y1.1, ((List.getD y1.2.2 (Int.toNat y1.2.1) ((0 : Int), ((0 : Int), ((0 : Int), ((0 : Int), ((0 : Int), ([] : (List UInt8)))))))).2.1, ((List.getD y1.2.2 (Int.toNat y1.2.1) ((0 : Int), ((0 : Int), ((0 : Int), ((0 : Int), ((0 : Int), ([] : (List UInt8)))))))).2.2.1, ((List.getD y1.2.2 (Int.toNat y1.2.1) ((0 : Int), ((0 : Int), ((0 : Int), ((0 : Int), ((0 : Int), ([] : (List UInt8)))))))).2.2.2.1, ((List.getD y1.2.2 (Int.toNat y1.2.1) ((0 : Int), ((0 : Int), ((0 : Int), ((0 : Int), ((0 : Int), ([] : (List UInt8)))))))).2.2.2.2.1, (List.getD y1.2.2 (Int.toNat y1.2.1) ((0 : Int), ((0 : Int), ((0 : Int), ((0 : Int), ((0 : Int), ([] : (List UInt8)))))))).2.2.2.2.2)))))); (0 ≤ y1.2.1 ∧ (y1.2.1 < ((List.length l2 : Nat) : Int) ∧ (let l3 : List (Int × (Int × (Int × (Int × (Int × (List UInt8)))))) := (List.set l2 (Int.toNat y1.2.1) ((List.getD l2 (Int.toNat y1.2.1) ((0 : Int), ((0 : Int), ((0 : Int), ((0 : Int), ((0 : Int), ([] : (List UInt8)))))))).1, ((IntKind.wrap .i64 (y1.1 + (1 : Int))), ((List.getD l2 (Int.toNat y1.2.1) ((0 : Int), ((0 : Int), ((0 : Int), ((0 : Int), ((0 : Int), ([] : (List UInt8)))))))).2.2.1, ((List.getD l2 (Int.toNat y1.2.1) ((0 : Int), ((0 : Int), ((0 : Int), ((0 : Int), ((0 : Int), ([] : (List UInt8)))))))).2.2.2.1, ((List.getD l2 (Int.toNat y1.2.1) ((0 : Int), ((0 : Int), ((0 : Int), ((0 : Int), ((0 : Int), ([] : (List UInt8)))))))).2.2.2.2.1, (List.getD l2 (Int.toNat y1.2.1) ((0 : Int), ((0 : Int), ((0 : Int), ((0 : Int), ((0 : Int), ([] : (List UInt8)))))))).2.2.2.2.2)))))); (0 ≤ y1.2.1 ∧ (y1.2.1 < ((List.length l3 : Nat) : Int) ∧ (let l4 : List (Int × (Int × (Int × (Int × (Int × (List UInt8)))))) := (List.set l3 (Int.toNat y1.2.1) ((List.getD l3 (Int.toNat y1.2.1) ((0 : Int), ((0 : Int), ((0 : Int), ((0 : Int), ((0 : Int), ([] : (List UInt8)))))))).1, ((List.getD l3 (Int.toNat y1.2.1) ((0 : Int), ((0 : Int), ((0 : Int), ((0 : Int), ((0 : Int), ([] : (List UInt8)))))))).2.1, ((IntKind.wrap .i64 ((IntKind.wrap .i64 (y1.1 + (1 : Int))) + (1 : Int))), ((List.getD l3 (Int.toNat y1.2.1) ((0 : Int), ((0 : Int), ((0 : Int), ((0 : Int), ((0 : Int), ([] : (List UInt8)))))))).2.2.2.1, ((List.getD l3 (Int.toNat y1.2.1) ((0 : Int), ((0 : Int), ((0 : Int), ((0 : Int), ((0 : Int), ([] : (List UInt8)))))))).2.2.2.2.1, (List.getD l3 (Int.toNat y1.2.1) ((0 : Int), ((0 : Int), ((0 : Int), ((0 : Int), ((0 : Int), ([] : (List UInt8)))))))).2.2.2.2.2)))))); (0 ≤ y1.2.1 ∧ (y1.2.1 < ((List.length l4 : Nat) : Int) ∧ (let l5 : List (Int × (Int × (Int × (Int × (Int × (List UInt8)))))) := (List.set l4 (Int.toNat y1.2.1) ((List.getD l4 (Int.toNat y1.2.1) ((0 : Int), ((0 : Int), ((0 : Int), ((0 : Int), ((0 : Int), ([] : (List UInt8)))))))).1, ((List.getD l4 (Int.toNat y1.2.1) ((0 : Int), ((0 : Int), ((0 : Int), ((0 : Int), ((0 : Int), ([] : (List UInt8)))))))).2.1, ((List.getD l4 (Int.toNat y1.2.1) ((0 : Int), ((0 : Int), ((0 : Int), ((0 : Int), ((0 : Int), ([] : (List UInt8)))))))).2.2.1, ((IntKind.wrap .i64 ((IntKind.wrap .i64 ((IntKind.wrap .i64 (y1.1 + (1 : Int))) + (1 : Int))) + (1 : Int))), ((List.getD l4 (Int.toNat y1.2.1) ((0 : Int), ((0 : Int), ((0 : Int), ((0 : Int), ((0 : Int), ([] : (List UInt8)))))))).2.2.2.2.1, (List.getD l4 (Int.toNat y1.2.1) ((0 : Int), ((0 : Int), ((0 : Int), ((0 : Int), ((0 : Int), ([] : (List UInt8)))))))).2.2.2.2.2)))))); (0 ≤ y1.2.1 ∧ (y1.2.1 < ((List.length l5 : Nat) : Int) ∧ (let l6 : List (Int × (Int × (Int × (Int × (Int × (List UInt8)))))) := (List.set l5 (Int.toNat y1.2.1) ((List.getD l5 (Int.toNat y1.2.1) ((0 : Int), ((0 : Int), ((0 : Int), ((0 : Int), ((0 : Int), ([] : (List UInt8)))))))).1, ((List.getD l5 (Int.toNat y1.2.1) ((0 : Int), ((0 : Int), ((0 : Int), ((0 : Int), ((0 : Int), ([] : (List UInt8)))))))).2.1, ((List.getD l5 (Int.toNat y1.2.1) ((0 : Int), ((0 : Int), ((0 : Int), ((0 : Int), ((0 : Int), ([] : (List UInt8)))))))).2.2.1, ((List.getD l5 (Int.toNat y1.2.1) ((0 : Int), ((0 : Int), ((0 : Int), ((0 : Int), ((0 : Int), ([] : (List UInt8)))))))).2.2.2.1, ((IntKind.wrap .i64 ((IntKind.wrap .i64 ((IntKind.wrap .i64 ((IntKind.wrap .i64 (y1.1 + (1 : Int))) + (1 : Int))) + (1 : Int))) + (1 : Int))), (List.getD l5 (Int.toNat y1.2.1) ((0 : Int), ((0 : Int), ((0 : Int), ((0 : Int), ((0 : Int), ([] : (List UInt8)))))))).2.2.2.2.2)))))); ((pMT (IntKind.wrap .i64 ((IntKind.wrap .i64 ((IntKind.wrap .i64 ((IntKind.wrap .i64 ((IntKind.wrap .i64 (y1.1 + (1 : Int))) + (1 : Int))) + (1 : Int))) + (1 : Int))) + (1 : Int)))) ∧ ∀ (r7 : (List UInt8) × (Unit × Unit)), ((r7 : (List UInt8) × (Unit × Unit)) = ((fMT (IntKind.wrap .i64 ((IntKind.wrap .i64 ((IntKind.wrap .i64 ((IntKind.wrap .i64 ((IntKind.wrap .i64 (y1.1 + (1 : Int))) + (1 : Int))) + (1 : Int))) + (1 : Int))) + (1 : Int)))), ((), ()))) → (0 ≤ y1.2.1 ∧ (y1.2.1 < ((List.length l6 : Nat) : Int) ∧ (let l8 : List (Int × (Int × (Int × (Int × (Int × (List UInt8)))))) := (List.set l6 (Int.toNat y1.2.1) ((List.getD l6 (Int.toNat y1.2.1) ((0 : Int), ((0 : Int), ((0 : Int), ((0 : Int), ((0 : Int), ([] : (List UInt8)))))))).1, ((List.getD l6 (Int.toNat y1.2.1) ((0 : Int), ((0 : Int), ((0 : Int), ((0 : Int), ((0 : Int), ([] : (List UInt8)))))))).2.1, ((List.getD l6 (Int.toNat y1.2.1) ((0 : Int), ((0 : Int), ((0 : Int), ((0 : Int), ((0 : Int), ([] : (List UInt8)))))))).2.2.1, ((List.getD l6 (Int.toNat y1.2.1) ((0 : Int), ((0 : Int), ((0 : Int), ((0 : Int), ((0 : Int), ([] : (List UInt8)))))))).2.2.2.1, ((List.getD l6 (Int.toNat y1.2.1) ((0 : Int), ((0 : Int), ((0 : Int), ((0 : Int), ((0 : Int), ([] : (List UInt8)))))))).2.2.2.2.1, r7.1)))))); (([(0, .val false [.own (.pair (.int .i64) (.pair (.int .i64) (.pair (.int .i64) (.pair (.int .i64) (.pair (.int .i64) .str))))) 2])] : List (Nat × Sv)) = [(0, .val false [.own (.pair (.int .i64) (.pair (.int .i64) (.pair (.int .i64) (.pair (.int .i64) (.pair (.int .i64) .str))))) 2])] ∧ (mkI c_mSession m_Session a0 a1 (IntKind.wrap .i64 ((IntKind.wrap .i64 ((IntKind.wrap .i64 ((IntKind.wrap .i64 ((IntKind.wrap .i64 ((IntKind.wrap .i64 (y1.1 + (1 : Int))) + (1 : Int))) + (1 : Int))) + (1 : Int))) + (1 : Int))) + (1 : Int))) (IntKind.wrap .i64 (y1.2.1 + (1 : Int))) l8) ∧ (mkM a0 a1 (IntKind.wrap .i64 ((IntKind.wrap .i64 ((IntKind.wrap .i64 ((IntKind.wrap .i64 ((IntKind.wrap .i64 ((IntKind.wrap .i64 (y1.1 + (1 : Int))) + (1 : Int))) + (1 : Int))) + (1 : Int))) + (1 : Int))) + (1 : Int))) (IntKind.wrap .i64 (y1.2.1 + (1 : Int))) l8) < (mkM a0 a1 y1.1 y1.2.1 y1.2.2))))))))))))))))))))) (((y1.1, ((), y1.2.2)) : Int × (Unit × (List (Int × (Int × (Int × (Int × (Int × (List UInt8))))))))) = ((fMk_SessionS a0 a1).1, ((), (fMk_SessionS a0 a1).2))))))
def laws_markSessionS.L  (a0 : (List (Int × (Int × (Int × (Int × (Int × (List UInt8)))))))) (a1 : Int) : Nat → Option LoopAnn := fun p => Go.Proofs.Ythjlommbnfooaaa.Bv.look p [(26, { kp := { hold := [0], slots := [1, 5], boxes := [], rows := [{ bx := false, s := 0, i := 0, k := 2, e := 158, hot := true }] }, T := (.pair (.int .i64) (.pair (.int .i64) (.list (.pair (.int .i64) (.pair (.int .i64) (.pair (.int .i64) (.pair (.int .i64) (.pair (.int .i64) .str)))))))), I := fun st y => mkI c_mSession m_Session a0 a1 y.1 y.2.1 y.2.2, μ := fun st y => mkM a0 a1 y.1 y.2.1 y.2.2 })]

theorem laws_markSessionS.pure  (a0 : (List (Int × (Int × (Int × (Int × (Int × (List UInt8)))))))) (a1 : Int) (h : (pMk_SessionS a0 a1)) (hw : Wf c_laws_markSessionS.A (a0, a1)) : laws_markSessionS.F a0 a1 := by
  unfold laws_markSessionS.F
  obtain ⟨p1, p2⟩ := h
  have hw1 : a0.length ≤ 9223372036854775807 := hw.1.1
  simp only [forall_eq, true_and, and_true, caseB_iff, Prod.mk.injEq, decide_eq_true_eq, decide_eq_false_iff_not, Bool.not_eq_true', Bool.not_eq_false', bne_iff_ne, ne_eq, beq_iff_eq, Bool.not_true, Bool.not_false, beq_eq_false_iff_ne, bne_eq_false_iff_eq, List.length_append, List.length_cons, List.length_nil, List.append_nil, Nat.zero_add, decide_true, decide_false, eq_self_iff_true]
  refine ⟨⟨by omega, by omega, by simp [cL], by simp [mL]⟩, ?_⟩
  rintro ⟨k, i, l⟩ hI
  simp only at hI ⊢
  have hl := mk_len hI
  have h2 := hI.1
  have h3 := hI.2
  refine ⟨fun hi0 => ?_, fun hi0 => ?_⟩
  · have hi : i < (a0.length : Int) := by omega
    have hi' : i.toNat < l.length := by omega
    have hg := mk_at (d := ((0 : Int), ((0 : Int), ((0 : Int), ((0 : Int), ((0 : Int), ([] : (List UInt8)))))))) hI hi
    have hs := cL_split c_mSession ((0 : Int), ((0 : Int), ((0 : Int), ((0 : Int), ((0 : Int), ([] : (List UInt8))))))) (l := a0) (i := i.toNat) (by omega)
    have hk := hI.3
    have c1 := cL_pos pos_Session (a0.take i.toNat)
    have c2 := cL_pos pos_Session (a0.drop (i.toNat + 1))
    have c3 := pos_Session (a0.getD i.toNat ((0 : Int), ((0 : Int), ((0 : Int), ((0 : Int), ((0 : Int), ([] : (List UInt8))))))))
    have hmod : Int.tmod k 3 = k % 3 := Int.tmod_eq_emod_of_nonneg (by omega)
    have hc : c_mSession (a0.getD i.toNat ((0 : Int), ((0 : Int), ((0 : Int), ((0 : Int), ((0 : Int), ([] : (List UInt8)))))))) = c_mSession (a0.getD i.toNat ((0 : Int), ((0 : Int), ((0 : Int), ((0 : Int), ((0 : Int), ([] : (List UInt8)))))))) := rfl
    conv at hc => rhs; unfold c_mSession
    try simp only [hg, getD_set_self hi', List.set_set, List.length_set]
    try simp (disch := first | omega | simp_all) only [getD_set_self, List.set_set, List.length_set, hg, w64, pMT]
    repeat' (with_reducible (first | (refine And.intro ?_ ?_) | intro _))
    all_goals (try simp +zetaDelta (disch := first | omega | simp_all) only [hg, getD_set_self, List.set_set, List.length_set, w64, pMT])
    all_goals (first | omega | exact mk_step (d := ((0 : Int), ((0 : Int), ((0 : Int), ((0 : Int), ((0 : Int), ([] : (List UInt8)))))))) hI hi (by simp [m_Session, hmod]) (by omega) | (unfold mkM; omega) | skip)
  · obtain ⟨e1, e2⟩ := mk_end hI (by omega)
    exact ⟨e1, e2⟩

set_option maxRecDepth 100000 in
theorem laws_markSessionS.eq (i : El c_laws_markSessionS.I) (x : El c_laws_markSessionS.A) : vc tab (gam [(120, c_laws_markText)] [] eqs) (laws_markSessionS.L x.1 x.2) (match Try.f82.body with | some c => c | none => .skip) 1 (initSt c_laws_markSessionS Try.f82.ntmps i x) (bodyK tab c_laws_markSessionS Try.f82.results.toList [3] i x) = laws_markSessionS.F x.1 x.2 := by kernel_rfl
theorem laws_markSessionS.ok : ConOk Try.prog 82 c_laws_markSessionS :=
  conOk_of_eq (con := c_laws_markSessionS) (tab := tab) (Γ := (gam [(120, c_laws_markText)] [] eqs)) (fn := Try.f82) (c := (match Try.f82.body with | some c => c | none => .skip)) (fun i x => laws_markSessionS.L x.1 x.2) (fun i x => laws_markSessionS.F x.1 x.2) rfl tabOk (gam_cons ⟨_, Try.func120, rfl, rfl⟩ laws_markText.ok (gam_nil _ [] eqsOk)) Try.func82 rfl [3] (by kernel_rfl) laws_markSessionS.eq fun i x h hi hw => laws_markSessionS.pure x.1 x.2 h hw

def fHd_SessionS (l : List (Int × (Int × (Int × (Int × (Int × (List UInt8))))))) (k : Int) : Int := fHd (cL c_mSession l) (oL c_mSession o_Session l k) k
def c_laws_heldSessionS : Con := { io := false, I := .unit, ownI := [], A := (.pair (.list (.pair (.int .i64) (.pair (.int .i64) (.pair (.int .i64) (.pair (.int .i64) (.pair (.int .i64) .str)))))) (.int .i64)), shA := [.one, .one], ownA := [], backA := [], B := .unit, R := (.int .i64), shR := [(false, 1)], fresh := [], newR := false, pre := fun _ a => (pMk_SessionS a.1 a.2), f := some fun _ a => ((fHd_SessionS a.1 a.2), ((), ())) }
def laws_heldSessionS.F  (a0 : (List (Int × (Int × (Int × (Int × (Int × (List UInt8)))))))) (a1 : Int) : Prop := (([(0, .val false [.lst (.pair (.int .i64) (.pair (.int .i64) (.pair (.int .i64) (.pair (.int .i64) (.pair (.int .i64) .str))))) a0 none])] : List (Nat × Sv)) = [(0, .val false [.lst (.pair (.int .i64) (.pair (.int .i64) (.pair (.int .i64) (.pair (.int .i64) (.pair (.int .i64) .str))))) a0 none])] ∧ ((hdI c_mSession o_Session a0 a1 a1 0) ∧ ∀ (y1 : (Int × Int)), (hdI c_mSession o_Session a0 a1 y1.1 y1.2) → (caseB (decide (y1.2 < ((List.length a0 : Nat) : Int))) (0 ≤ y1.2 ∧ (y1.2 < ((List.length a0 : Nat) : Int) ∧ (caseB (((List.getD a0 (Int.toNat y1.2) ((0 : Int), ((0 : Int), ((0 : Int), ((0 : Int), ((0 : Int), ([] : (List UInt8)))))))).1) != y1.1) ((((-1), ((), ())) : Int × (Unit × Unit)) = ((fHd_SessionS a0 a1), ((), ()))) (0 ≤ y1.2 ∧ (y1.2 < ((List.length a0 : Nat) : Int) ∧ (caseB (((List.getD a0 (Int.toNat y1.2) ((0 : Int), ((0 : Int), ((0 : Int), ((0 : Int), ((0 : Int), ([] : (List UInt8)))))))).2.1) != (IntKind.wrap .i64 (y1.1 + (1 : Int)))) ((((-1), ((), ())) : Int × (Unit × Unit)) = ((fHd_SessionS a0 a1), ((), ()))) (0 ≤ y1.2 ∧ (y1.2 < ((List.length a0 : Nat) : Int) ∧ (caseB (((List.getD a0 (Int.toNat y1.2) ((0 : Int), ((0 : Int), ((0 : Int), ((0 : Int), ((0 : Int), ([] : (List UInt8)))))))).2.2.1) != (IntKind.wrap .i64 ((IntKind.wrap .i64 (y1.1 + (1 : Int))) + (1 : Int)))) ((((-1), ((), ())) : Int × (Unit × Unit)) = ((fHd_SessionS a0 a1), ((), ()))) (0 ≤ y1.2 ∧ (y1.2 < ((List.length a0 : Nat) : Int) ∧ (caseB (((List.getD a0 (Int.toNat y1.2) ((0 : Int), ((0 : Int), ((0 : Int), ((0 : Int), ((0 : Int), ([] : (List UInt8)))))))).2.2.2.1) != (IntKind.wrap .i64 ((IntKind.wrap .i64 ((IntKind.wrap .i64 (y1.1 + (1 : Int))) + (1 : Int))) + (1 : Int)))) ((((-1), ((), ())) : Int × (Unit × Unit)) = ((fHd_SessionS a0 a1), ((), ()))) (0 ≤ y1.2 ∧ (y1.2 < ((List.length a0 : Nat) : Int) ∧ (caseB (((List.getD a0 (Int.toNat y1.2) ((0 : Int), ((0 : Int), ((0 : Int), ((0 : Int), ((0 : Int), ([] : (List UInt8)))))))).2.2.2.2.1) != (IntKind.wrap .i64 ((IntKind.wrap .i64 ((IntKind.wrap .i64 ((IntKind.wrap .i64 (y1.1 + (1 : Int))) + (1 : Int))) + (1 : Int))) + (1 : Int)))) ((((-1), ((), ())) : Int × (Unit × Unit)) = ((fHd_SessionS a0 a1), ((), ()))) (0 ≤ y1.2 ∧ (y1.2 < ((List.length a0 : Nat) : Int) ∧ ((pMT (IntKind.wrap .i64 ((IntKind.wrap .i64 ((IntKind.wrap .i64 ((IntKind.wrap .i64 ((IntKind.wrap .i64 (y1.1 + (1 : Int))) + (1 : Int))) + (1 : Int))) + (1 : Int))) + (1 : Int)))) ∧ ∀ (r2 : (List UInt8) × (Unit × Unit)), ((r2 : (List UInt8) × (Unit × Unit)) = ((fMT (IntKind.wrap .i64 ((IntKind.wrap .i64 ((IntKind.wrap .i64 ((IntKind.wrap .i64 ((IntKind.wrap .i64 (y1.1 + (1 : Int))) + (1 : Int))) + (1 : Int))) + (1 : Int))) + (1 : Int)))), ((), ()))) → (caseB (!(((List.getD a0 (Int.toNat y1.2) ((0 : Int), ((0 : Int), ((0 : Int), ((0 : Int), ((0 : Int), ([] : (List UInt8)))))))).2.2.2.2.2) == r2.1)) ((((-1), ((), ())) : Int × (Unit × Unit)) = ((fHd_SessionS a0 a1), ((), ()))) (([(0, .val false [.lst (.pair (.int .i64) (.pair (.int .i64) (.pair (.int .i64) (.pair (.int .i64) (.pair (.int .i64) .str))))) a0 none])] : List (Nat × Sv)) = [(0, .val false [.lst (.pair (.int .i64) (.pair (.int .i64) (.pair (.int .i64) (.pair (.int .i64) (.pair (.int .i64) .str))))) a0 none])] ∧ (hdI c_mSession o_Session a0 a1 (IntKind.wrap .i64 ((IntKind.wrap .i64 ((IntKind.wrap .i64 ((IntKind.wrap .i64 ((IntKind.wrap .i64 ((IntKind.wrap .i64 (y1.1 + (1 : Int))) + (1 : Int))) + (1 : Int))) + (1 : Int))) + (1 : Int))) + (1 : Int))) (IntKind.wrap .i64 (y1.2 + (1 : Int)))) ∧ (hdM a0 a1 (IntKind.wrap .i64 ((IntKind.wrap .i64 ((IntKind.wrap .i64 ((IntKind.wrap .i64 ((IntKind.wrap .i64 ((IntKind.wrap .i64 (y1.1 + (1 : Int))) + (1 : Int))) + (1 : Int))) + (1 : Int))) + (1 : Int))) + (1 : Int))) (IntKind.wrap .i64 (y1.2 + (1 : Int)))) < (hdM a0 a1 y1.1 y1.2))))))))))))))))))))) (((y1.1, ((), ())) : Int × (Unit × Unit)) = ((fHd_SessionS a0 a1), ((), ()))))))
def laws_heldSessionS.L  (a0 : (List (Int × (Int × (Int × (Int × (Int × (List UInt8)))))))) (a1 : Int) : Nat → Option LoopAnn := fun p => Go.Proofs.Ythjlommbnfooaaa.Bv.look p [(26, { kp := { hold := [0], slots := [1, 5], boxes := [], rows := [] }, T := (.pair (.int .i64) (.int .i64)), I := fun st y => hdI c_mSession o_Session a0 a1 y.1 y.2, μ := fun st y => hdM a0 a1 y.1 y.2 })]

theorem laws_heldSessionS.pure  (a0 : (List (Int × (Int × (Int × (Int × (Int × (List UInt8)))))))) (a1 : Int) (h : (pMk_SessionS a0 a1)) (hw : Wf c_laws_heldSessionS.A (a0, a1)) : laws_heldSessionS.F a0 a1 := by
  unfold laws_heldSessionS.F
  obtain ⟨p1, p2⟩ := h
  have hw1 : a0.length ≤ 9223372036854775807 := hw.1.1
  simp only [forall_eq, true_and, and_true, caseB_iff, Prod.mk.injEq, decide_eq_true_eq, decide_eq_false_iff_not, Bool.not_eq_true', Bool.not_eq_false', bne_iff_ne, ne_eq, beq_iff_eq, Bool.not_true, Bool.not_false, beq_eq_false_iff_ne, bne_eq_false_iff_eq, List.length_append, List.length_cons, List.length_nil, List.append_nil, Nat.zero_add, decide_true, decide_false, eq_self_iff_true]
  refine ⟨⟨by omega, by omega, by simp [cL], by simp⟩, ?_⟩
  rintro ⟨k, i⟩ hI
  simp only at hI ⊢
  have h2 := hI.1
  have h3 := hI.2
  refine ⟨fun hi => ?_, fun hi => hd_end hI hi⟩
  · have hs := cL_split c_mSession ((0 : Int), ((0 : Int), ((0 : Int), ((0 : Int), ((0 : Int), ([] : (List UInt8))))))) (l := a0) (i := i.toNat) (by omega)
    have hk := hI.3
    have c1 := cL_pos pos_Session (a0.take i.toNat)
    have c2 := cL_pos pos_Session (a0.drop (i.toNat + 1))
    have c3 := pos_Session (a0.getD i.toNat ((0 : Int), ((0 : Int), ((0 : Int), ((0 : Int), ((0 : Int), ([] : (List UInt8))))))))
    have hmod : Int.tmod k 3 = k % 3 := Int.tmod_eq_emod_of_nonneg (by omega)
    have no : o_Session (a0.getD i.toNat ((0 : Int), ((0 : Int), ((0 : Int), ((0 : Int), ((0 : Int), ([] : (List UInt8)))))))) k = false → -1 = fHd_SessionS a0 a1 := fun ho => hd_no ((0 : Int), ((0 : Int), ((0 : Int), ((0 : Int), ((0 : Int), ([] : (List UInt8))))))) hI hi ho
    have yes : o_Session (a0.getD i.toNat ((0 : Int), ((0 : Int), ((0 : Int), ((0 : Int), ((0 : Int), ([] : (List UInt8)))))))) k = true → hdI c_mSession o_Session a0 a1 (k + c_mSession (a0.getD i.toNat ((0 : Int), ((0 : Int), ((0 : Int), ((0 : Int), ((0 : Int), ([] : (List UInt8))))))))) (i + 1) := fun ho => hd_step ((0 : Int), ((0 : Int), ((0 : Int), ((0 : Int), ((0 : Int), ([] : (List UInt8))))))) hI hi ho rfl
    generalize a0.getD i.toNat ((0 : Int), ((0 : Int), ((0 : Int), ((0 : Int), ((0 : Int), ([] : (List UInt8))))))) = x at *
    have hc : c_mSession x = c_mSession x := rfl
    conv at hc => rhs; unfold c_mSession
    simp only [o_Session] at no yes
    simp (disch := omega) only [w64, pMT]
    repeat' (with_reducible (first | (refine And.intro ?_ ?_) | intro _))
    all_goals (first | omega | (unfold hdM; omega) | skip)
    all_goals (try simp (disch := first | omega | assumption) only [fHd_neg, fHd_yes, w64, Bool.not_eq_false] at *)
    all_goals (try simp (disch := first | omega | assumption) only [fHd_neg, fHd_yes, w64, Bool.not_eq_false] at *)
    all_goals (first | omega | grind)

set_option maxRecDepth 100000 in
theorem laws_heldSessionS.eq (i : El c_laws_heldSessionS.I) (x : El c_laws_heldSessionS.A) : vc tab (gam [(120, c_laws_markText)] [] eqs) (laws_heldSessionS.L x.1 x.2) (match Try.f85.body with | some c => c | none => .skip) 1 (initSt c_laws_heldSessionS Try.f85.ntmps i x) (bodyK tab c_laws_heldSessionS Try.f85.results.toList [3] i x) = laws_heldSessionS.F x.1 x.2 := by kernel_rfl
theorem laws_heldSessionS.ok : ConOk Try.prog 85 c_laws_heldSessionS :=
  conOk_of_eq (con := c_laws_heldSessionS) (tab := tab) (Γ := (gam [(120, c_laws_markText)] [] eqs)) (fn := Try.f85) (c := (match Try.f85.body with | some c => c | none => .skip)) (fun i x => laws_heldSessionS.L x.1 x.2) (fun i x => laws_heldSessionS.F x.1 x.2) rfl tabOk (gam_cons ⟨_, Try.func120, rfl, rfl⟩ laws_markText.ok (gam_nil _ [] eqsOk)) Try.func85 rfl [3] (by kernel_rfl) laws_heldSessionS.eq fun i x h hi hw => laws_heldSessionS.pure x.1 x.2 h hw

def n_State (x : (Int × (Int × (Int × ((List (Int × Int)) × ((Int × ((List ((List UInt8) × (List (Int × Int)))) × (List (List UInt8)))) × (List (Int × (Int × (Int × (Int × (Int × (List UInt8))))))))))))) : Nat := (List.length x.2.2.2.1) + (n_Engine x.2.2.2.2.1) + (nL n_Session x.2.2.2.2.2)
instance dec_State : DecidableEq (Int × (Int × (Int × ((List (Int × Int)) × ((Int × ((List ((List UInt8) × (List (Int × Int)))) × (List (List UInt8)))) × (List (Int × (Int × (Int × (Int × (Int × (List UInt8)))))))))))) := by (iterate 20 (all_goals (first | infer_instance | refine @instDecidableEqProd _ _ ?_ ?_)))
def fEq_State (a b : (Int × (Int × (Int × ((List (Int × Int)) × ((Int × ((List ((List UInt8) × (List (Int × Int)))) × (List (List UInt8)))) × (List (Int × (Int × (Int × (Int × (Int × (List UInt8))))))))))))) : Bool := decide (a = b)
def c_laws_eqState : Con := { io := false, I := .unit, ownI := [], A := (.pair (.pair (.int .i64) (.pair (.int .i64) (.pair (.int .i64) (.pair (.list (.pair (.int .i64) (.int .i64))) (.pair (.pair (.int .i64) (.pair (.list (.pair .str (.list (.pair (.int .i64) (.int .i64))))) (.list .str))) (.list (.pair (.int .i64) (.pair (.int .i64) (.pair (.int .i64) (.pair (.int .i64) (.pair (.int .i64) .str))))))))))) (.pair (.int .i64) (.pair (.int .i64) (.pair (.int .i64) (.pair (.list (.pair (.int .i64) (.int .i64))) (.pair (.pair (.int .i64) (.pair (.list (.pair .str (.list (.pair (.int .i64) (.int .i64))))) (.list .str))) (.list (.pair (.int .i64) (.pair (.int .i64) (.pair (.int .i64) (.pair (.int .i64) (.pair (.int .i64) .str)))))))))))), shA := [.agg 8, .agg 8], ownA := [], backA := [], B := .unit, R := .bool, shR := [(false, 1)], fresh := [], newR := false, pre := fun _ a => True, f := some fun _ a => ((fEq_State a.1 a.2), ((), ())) }
def laws_eqState.F  (a0 : (Int × (Int × (Int × ((List (Int × Int)) × ((Int × ((List ((List UInt8) × (List (Int × Int)))) × (List (List UInt8)))) × (List (Int × (Int × (Int × (Int × (Int × (List UInt8))))))))))))) (a1 : (Int × (Int × (Int × ((List (Int × Int)) × ((Int × ((List ((List UInt8) × (List (Int × Int)))) × (List (List UInt8)))) × (List (Int × (Int × (Int × (Int × (Int × (List UInt8))))))))))))) : Prop := (caseB (a0.1 != a1.1) (((false, ((), ())) : Bool × (Unit × Unit)) = ((fEq_State a0 a1), ((), ()))) (caseB (a0.2.1 != a1.2.1) (((false, ((), ())) : Bool × (Unit × Unit)) = ((fEq_State a0 a1), ((), ()))) (caseB (a0.2.2.1 != a1.2.2.1) (((false, ((), ())) : Bool × (Unit × Unit)) = ((fEq_State a0 a1), ((), ()))) (True ∧ ∀ (r1 : Bool × (Unit × Unit)), ((r1 : Bool × (Unit × Unit)) = ((fEq_BucketS a0.2.2.2.1 a1.2.2.2.1), ((), ()))) → (caseB (!r1.1) (((false, ((), ())) : Bool × (Unit × Unit)) = ((fEq_State a0 a1), ((), ()))) (True ∧ ∀ (r2 : Bool × (Unit × Unit)), ((r2 : Bool × (Unit × Unit)) = ((fEq_Engine (a0.2.2.2.2.1.1, (a0.2.2.2.2.1.2.1, a0.2.2.2.2.1.2.2)) (a1.2.2.2.2.1.1, (a1.2.2.2.2.1.2.1, a1.2.2.2.2.1.2.2))), ((), ()))) → (caseB (!r2.1) (((false, ((), ())) : Bool × (Unit × Unit)) = ((fEq_State a0 a1), ((), ()))) (True ∧ ∀ (r3 : Bool × (Unit × Unit)), ((r3 : Bool × (Unit × Unit)) = ((fEq_SessionS a0.2.2.2.2.2 a1.2.2.2.2.2), ((), ()))) → (caseB (!r3.1) (((false, ((), ())) : Bool × (Unit × Unit)) = ((fEq_State a0 a1), ((), ()))) (((true, ((), ())) : Bool × (Unit × Unit)) = ((fEq_State a0 a1), ((), ()))))))))))))
def laws_eqState.L  (a0 : (Int × (Int × (Int × ((List (Int × Int)) × ((Int × ((List ((List UInt8) × (List (Int × Int)))) × (List (List UInt8)))) × (List (Int × (Int × (Int × (Int × (Int × (List UInt8))))))))))))) (a1 : (Int × (Int × (Int × ((List (Int × Int)) × ((Int × ((List ((List UInt8) × (List (Int × Int)))) × (List (List UInt8)))) × (List (Int × (Int × (Int × (Int × (Int × (List UInt8))))))))))))) : Nat → Option LoopAnn := fun p => Go.Proofs.Ythjlommbnfooaaa.Bv.look p []

theorem laws_eqState.pure  (a0 : (Int × (Int × (Int × ((List (Int × Int)) × ((Int × ((List ((List UInt8) × (List (Int × Int)))) × (List (List UInt8)))) × (List (Int × (Int × (Int × (Int × (Int × (List UInt8))))))))))))) (a1 : (Int × (Int × (Int × ((List (Int × Int)) × ((Int × ((List ((List UInt8) × (List (Int × Int)))) × (List (List UInt8)))) × (List (Int × (Int × (Int × (Int × (Int × (List UInt8))))))))))))) (h : True) (hw : Wf c_laws_eqState.A (a0, a1)) : laws_eqState.F a0 a1 := by
  unfold laws_eqState.F
  obtain ⟨x1, x2, x3, x4, ⟨x5, x6, x7⟩, x8⟩ := a0
  obtain ⟨y1, y2, y3, y4, ⟨y5, y6, y7⟩, y8⟩ := a1
  simp only [forall_eq, true_and, and_true, caseB_iff, Prod.mk.injEq, decide_eq_true_eq, decide_eq_false_iff_not, Bool.not_eq_true', Bool.not_eq_false', bne_iff_ne, ne_eq, beq_iff_eq, Bool.not_true, Bool.not_false, beq_eq_false_iff_ne, bne_eq_false_iff_eq, List.length_append, List.length_cons, List.length_nil, List.append_nil, Nat.zero_add, decide_true, decide_false, eq_self_iff_true, fEq_State, fEq_BucketS, fEq_Engine, fEq_SessionS]
  repeat' (first | (refine And.intro ?_ ?_) | intro _)
  all_goals simp_all

set_option maxRecDepth 100000 in
theorem laws_eqState.eq (i : El c_laws_eqState.I) (x : El c_laws_eqState.A) : vc tab (gam [(77, c_laws_eqBucketS), (78, c_laws_eqEngine), (79, c_laws_eqSessionS)] [] eqs) (laws_eqState.L x.1 x.2) (match Try.f22.body with | some c => c | none => .skip) 1 (initSt c_laws_eqState Try.f22.ntmps i x) (bodyK tab c_laws_eqState Try.f22.results.toList [4] i x) = laws_eqState.F x.1 x.2 := by kernel_rfl
theorem laws_eqState.ok : ConOk Try.prog 22 c_laws_eqState :=
  conOk_of_eq (con := c_laws_eqState) (tab := tab) (Γ := (gam [(77, c_laws_eqBucketS), (78, c_laws_eqEngine), (79, c_laws_eqSessionS)] [] eqs)) (fn := Try.f22) (c := (match Try.f22.body with | some c => c | none => .skip)) (fun i x => laws_eqState.L x.1 x.2) (fun i x => laws_eqState.F x.1 x.2) rfl tabOk (gam_cons ⟨_, Try.func77, rfl, rfl⟩ laws_eqBucketS.ok (gam_cons ⟨_, Try.func78, rfl, rfl⟩ laws_eqEngine.ok (gam_cons ⟨_, Try.func79, rfl, rfl⟩ laws_eqSessionS.ok (gam_nil _ [] eqsOk)))) Try.func22 rfl [4] (by kernel_rfl) laws_eqState.eq fun i x h hi hw => laws_eqState.pure x.1 x.2 h hw

def c_mState (x : (Int × (Int × (Int × ((List (Int × Int)) × ((Int × ((List ((List UInt8) × (List (Int × Int)))) × (List (List UInt8)))) × (List (Int × (Int × (Int × (Int × (Int × (List UInt8))))))))))))) : Int := 1 + 1 + 1 + cL c_mBucket x.2.2.2.1 + 1 + cL c_mSeries x.2.2.2.2.1.2.1 + cL c_1s x.2.2.2.2.1.2.2 + cL c_mSession x.2.2.2.2.2
def m_State (x : (Int × (Int × (Int × ((List (Int × Int)) × ((Int × ((List ((List UInt8) × (List (Int × Int)))) × (List (List UInt8)))) × (List (Int × (Int × (Int × (Int × (Int × (List UInt8))))))))))))) (k : Int) : (Int × (Int × (Int × ((List (Int × Int)) × ((Int × ((List ((List UInt8) × (List (Int × Int)))) × (List (List UInt8)))) × (List (Int × (Int × (Int × (Int × (Int × (List UInt8)))))))))))) := (k, (k + 1), ((k + 1) + 1), (mL c_mBucket m_Bucket x.2.2.2.1 (((k + 1) + 1) + 1)), (((((k + 1) + 1) + 1) + cL c_mBucket x.2.2.2.1), (mL c_mSeries m_Series x.2.2.2.2.1.2.1 (((((k + 1) + 1) + 1) + cL c_mBucket x.2.2.2.1) + 1)), (mL c_1s m_String x.2.2.2.2.1.2.2 ((((((k + 1) + 1) + 1) + cL c_mBucket x.2.2.2.1) + 1) + cL c_mSeries x.2.2.2.2.1.2.1))), (mL c_mSession m_Session x.2.2.2.2.2 (((((((k + 1) + 1) + 1) + cL c_mBucket x.2.2.2.1) + 1) + cL c_mSeries x.2.2.2.2.1.2.1) + cL c_1s x.2.2.2.2.1.2.2)))
def o_State (x : (Int × (Int × (Int × ((List (Int × Int)) × ((Int × ((List ((List UInt8) × (List (Int × Int)))) × (List (List UInt8)))) × (List (Int × (Int × (Int × (Int × (Int × (List UInt8))))))))))))) (k : Int) : Bool := (decide (x.1 = k)) && (decide (x.2.1 = (k + 1))) && (decide (x.2.2.1 = ((k + 1) + 1))) && (oL c_mBucket o_Bucket x.2.2.2.1 (((k + 1) + 1) + 1)) && (decide (x.2.2.2.2.1.1 = ((((k + 1) + 1) + 1) + cL c_mBucket x.2.2.2.1))) && (oL c_mSeries o_Series x.2.2.2.2.1.2.1 (((((k + 1) + 1) + 1) + cL c_mBucket x.2.2.2.1) + 1)) && (oL c_1s o_String x.2.2.2.2.1.2.2 ((((((k + 1) + 1) + 1) + cL c_mBucket x.2.2.2.1) + 1) + cL c_mSeries x.2.2.2.2.1.2.1)) && (oL c_mSession o_Session x.2.2.2.2.2 (((((((k + 1) + 1) + 1) + cL c_mBucket x.2.2.2.1) + 1) + cL c_mSeries x.2.2.2.2.1.2.1) + cL c_1s x.2.2.2.2.1.2.2))
theorem ok_State : ∀ (x : (Int × (Int × (Int × ((List (Int × Int)) × ((Int × ((List ((List UInt8) × (List (Int × Int)))) × (List (List UInt8)))) × (List (Int × (Int × (Int × (Int × (Int × (List UInt8))))))))))))) (k : Int), o_State (m_State x k) k = true ∧ c_mState (m_State x k) = c_mState x := fun x k => by
  simp [o_State, m_State, c_mState, (oL_mL ok_Bucket _ _).1, (oL_mL ok_Bucket _ _).2, (oL_mL ok_Series _ _).1, (oL_mL ok_Series _ _).2, (oL_mL ok_String _ _).1, (oL_mL ok_String _ _).2, (oL_mL ok_Session _ _).1, (oL_mL ok_Session _ _).2]
theorem pos_State : ∀ x : (Int × (Int × (Int × ((List (Int × Int)) × ((Int × ((List ((List UInt8) × (List (Int × Int)))) × (List (List UInt8)))) × (List (Int × (Int × (Int × (Int × (Int × (List UInt8)))))))))))), 0 ≤ c_mState x := fun x => by
  have p0 := fun l => cL_pos pos_Bucket l
  have p1 := fun l => cL_pos pos_Series l
  have p2 := fun l => cL_pos pos_String l
  have p3 := fun l => cL_pos pos_Session l
  have q0 := p0 x.2.2.2.1
  have q1 := p1 x.2.2.2.2.1.2.1
  have q2 := p2 x.2.2.2.2.1.2.2
  have q3 := p3 x.2.2.2.2.2
  unfold c_mState; omega
def n_Cmd (x : (Int × (Int × (Int × ((List UInt8) × (Int × (Int × (List UInt8)))))))) : Nat := (n_Op x.2.2)
def pSz_Cmd (x : (Int × (Int × (Int × ((List UInt8) × (Int × (Int × (List UInt8)))))))) (left : Int) : Prop := WfD (.pair (.int .i64) (.pair (.int .i64) (.pair (.int .i64) (.pair .str (.pair (.int .i64) (.pair (.int .i64) .str)))))) x ∧ 0 ≤ left ∧ left ≤ 1048576
def fSz_Cmd (x : (Int × (Int × (Int × ((List UInt8) × (Int × (Int × (List UInt8)))))))) (left : Int) : Int := fSz (n_Cmd x) left
def c_laws_szCmd : Con := { io := false, I := .unit, ownI := [], A := (.pair (.pair (.int .i64) (.pair (.int .i64) (.pair (.int .i64) (.pair .str (.pair (.int .i64) (.pair (.int .i64) .str)))))) (.int .i64)), shA := [.agg 7, .one], ownA := [], backA := [], B := .unit, R := (.int .i64), shR := [(false, 1)], fresh := [], newR := false, pre := fun _ a => (pSz_Cmd a.1 a.2), f := some fun _ a => ((fSz_Cmd a.1 a.2), ((), ())) }
def laws_szCmd.F  (a0 : (Int × (Int × (Int × ((List UInt8) × (Int × (Int × (List UInt8)))))))) (a1 : Int) : Prop := ((pSz_Op (a0.2.2.1, (a0.2.2.2.1, (a0.2.2.2.2.1, (a0.2.2.2.2.2.1, a0.2.2.2.2.2.2)))) a1) ∧ ∀ (r1 : Int × (Unit × Unit)), ((r1 : Int × (Unit × Unit)) = ((fSz_Op (a0.2.2.1, (a0.2.2.2.1, (a0.2.2.2.2.1, (a0.2.2.2.2.2.1, a0.2.2.2.2.2.2)))) a1), ((), ()))) → (caseB (decide (r1.1 < (0 : Int))) ((((-1), ((), ())) : Int × (Unit × Unit)) = ((fSz_Cmd a0 a1), ((), ()))) (((r1.1, ((), ())) : Int × (Unit × Unit)) = ((fSz_Cmd a0 a1), ((), ())))))
def laws_szCmd.L  (a0 : (Int × (Int × (Int × ((List UInt8) × (Int × (Int × (List UInt8)))))))) (a1 : Int) : Nat → Option LoopAnn := fun p => Go.Proofs.Ythjlommbnfooaaa.Bv.look p []

theorem laws_szCmd.pure  (a0 : (Int × (Int × (Int × ((List UInt8) × (Int × (Int × (List UInt8)))))))) (a1 : Int) (h : (pSz_Cmd a0 a1)) (hw : Wf c_laws_szCmd.A (a0, a1)) : laws_szCmd.F a0 a1 := by
  unfold laws_szCmd.F
  obtain ⟨hwf, p1, p2⟩ := h
  have w2 : WfD (.pair (.int .i64) (.pair .str (.pair (.int .i64) (.pair (.int .i64) .str)))) a0.2.2 := hwf.2.2
  simp only [forall_eq, true_and, and_true, caseB_iff, Prod.mk.injEq, decide_eq_true_eq, decide_eq_false_iff_not, Bool.not_eq_true', Bool.not_eq_false', bne_iff_ne, ne_eq, beq_iff_eq, Bool.not_true, Bool.not_false, beq_eq_false_iff_ne, bne_eq_false_iff_eq, List.length_append, List.length_cons, List.length_nil, List.append_nil, Nat.zero_add, decide_true, decide_false, eq_self_iff_true, n_Cmd, fSz_Cmd, pSz_Op, fSz_Op]
  repeat' (with_reducible (first | (refine And.intro ?_ ?_) | intro _))
  all_goals (try simp (disch := omega) only [w64, wu8, tn0, tn1, tm1, tm2, List.length_append, List.length_cons, List.length_nil] at *)
  all_goals (try simp (disch := omega) only [w64, wu8, tn0, tn1, tm1, tm2, List.length_append, List.length_cons, List.length_nil] at *)
  all_goals (try omega)
  all_goals (try grind [fSz])

set_option maxRecDepth 100000 in
theorem laws_szCmd.eq (i : El c_laws_szCmd.I) (x : El c_laws_szCmd.A) : vc tab (gam [(35, c_laws_szOp)] [] eqs) (laws_szCmd.L x.1 x.2) (match Try.f41.body with | some c => c | none => .skip) 1 (initSt c_laws_szCmd Try.f41.ntmps i x) (bodyK tab c_laws_szCmd Try.f41.results.toList [3] i x) = laws_szCmd.F x.1 x.2 := by kernel_rfl
theorem laws_szCmd.ok : ConOk Try.prog 41 c_laws_szCmd :=
  conOk_of_eq (con := c_laws_szCmd) (tab := tab) (Γ := (gam [(35, c_laws_szOp)] [] eqs)) (fn := Try.f41) (c := (match Try.f41.body with | some c => c | none => .skip)) (fun i x => laws_szCmd.L x.1 x.2) (fun i x => laws_szCmd.F x.1 x.2) rfl tabOk (gam_cons ⟨_, Try.func35, rfl, rfl⟩ laws_szOp.ok (gam_nil _ [] eqsOk)) Try.func41 rfl [3] (by kernel_rfl) laws_szCmd.eq fun i x h hi hw => laws_szCmd.pure x.1 x.2 h hw

def pTo_Cmd (x : (Int × (Int × (Int × ((List UInt8) × (Int × (Int × (List UInt8)))))))) : Prop := n_Cmd x ≤ 1048576
def fTo_Cmd (x : (Int × (Int × (Int × ((List UInt8) × (Int × (Int × (List UInt8)))))))) : (Int × (Int × (Int × ((List UInt8) × (Int × (Int × (List UInt8))))))) := x
def c_laws_toCmd : Con := { io := false, I := .unit, ownI := [], A := (.pair (.int .i64) (.pair (.int .i64) (.pair (.int .i64) (.pair .str (.pair (.int .i64) (.pair (.int .i64) .str)))))), shA := [.agg 7], ownA := [], backA := [], B := .unit, R := (.pair (.int .i64) (.pair (.int .i64) (.pair (.int .i64) (.pair .str (.pair (.int .i64) (.pair (.int .i64) .str)))))), shR := [(true, 7)], fresh := [], newR := false, pre := fun _ a => (pTo_Cmd a), f := some fun _ a => ((fTo_Cmd a), ((), ())) }
def laws_toCmd.F  (a0 : (Int × (Int × (Int × ((List UInt8) × (Int × (Int × (List UInt8)))))))) : Prop := ((pTo_Op (a0.2.2.1, (a0.2.2.2.1, (a0.2.2.2.2.1, (a0.2.2.2.2.2.1, a0.2.2.2.2.2.2))))) ∧ ∀ (r1 : (Int × ((List UInt8) × (Int × (Int × (List UInt8))))) × (Unit × Unit)), ((r1 : (Int × ((List UInt8) × (Int × (Int × (List UInt8))))) × (Unit × Unit)) = ((fTo_Op (a0.2.2.1, (a0.2.2.2.1, (a0.2.2.2.2.1, (a0.2.2.2.2.2.1, a0.2.2.2.2.2.2))))), ((), ()))) → ((((a0.1, (a0.2.1, (r1.1.1, (r1.1.2.1, (r1.1.2.2.1, (r1.1.2.2.2.1, r1.1.2.2.2.2)))))), ((), ())) : (Int × (Int × (Int × ((List UInt8) × (Int × (Int × (List UInt8))))))) × (Unit × Unit)) = ((fTo_Cmd a0), ((), ()))))
def laws_toCmd.L  (a0 : (Int × (Int × (Int × ((List UInt8) × (Int × (Int × (List UInt8)))))))) : Nat → Option LoopAnn := fun p => Go.Proofs.Ythjlommbnfooaaa.Bv.look p []

theorem laws_toCmd.pure  (a0 : (Int × (Int × (Int × ((List UInt8) × (Int × (Int × (List UInt8)))))))) (h : (pTo_Cmd a0)) (hw : Wf c_laws_toCmd.A a0) : laws_toCmd.F a0 := by
  unfold laws_toCmd.F
  have hp : n_Cmd a0 ≤ 1048576 := h
  simp only [n_Cmd] at hp
  simp only [forall_eq, true_and, and_true, caseB_iff, Prod.mk.injEq, decide_eq_true_eq, decide_eq_false_iff_not, Bool.not_eq_true', Bool.not_eq_false', bne_iff_ne, ne_eq, beq_iff_eq, Bool.not_true, Bool.not_false, beq_eq_false_iff_ne, bne_eq_false_iff_eq, List.length_append, List.length_cons, List.length_nil, List.append_nil, Nat.zero_add, decide_true, decide_false, eq_self_iff_true, n_Cmd, fTo_Cmd, pTo_Cmd, pTo_Op, fTo_Op]
  repeat' (with_reducible (first | (refine And.intro ?_ ?_) | intro _))
  all_goals (try simp (disch := omega) only [w64, wu8, tn0, tn1, tm1, tm2, List.length_append, List.length_cons, List.length_nil] at *)
  all_goals (try simp (disch := omega) only [w64, wu8, tn0, tn1, tm1, tm2, List.length_append, List.length_cons, List.length_nil] at *)
  all_goals (try omega)
  all_goals (try grind [])

set_option maxRecDepth 100000 in
theorem laws_toCmd.eq (i : El c_laws_toCmd.I) (x : El c_laws_toCmd.A) : vc tab (gam [(37, c_laws_toOp)] [] eqs) (laws_toCmd.L x) (match Try.f43.body with | some c => c | none => .skip) 1 (initSt c_laws_toCmd Try.f43.ntmps i x) (bodyK tab c_laws_toCmd Try.f43.results.toList [72] i x) = laws_toCmd.F x := by kernel_rfl
theorem laws_toCmd.ok : ConOk Try.prog 43 c_laws_toCmd :=
  conOk_of_eq (con := c_laws_toCmd) (tab := tab) (Γ := (gam [(37, c_laws_toOp)] [] eqs)) (fn := Try.f43) (c := (match Try.f43.body with | some c => c | none => .skip)) (fun i x => laws_toCmd.L x) (fun i x => laws_toCmd.F x) rfl tabOk (gam_cons ⟨_, Try.func37, rfl, rfl⟩ laws_toOp.ok (gam_nil _ [] eqsOk)) Try.func43 rfl [72] (by kernel_rfl) laws_toCmd.eq fun i x h hi hw => laws_toCmd.pure x h hw

instance dec_Cmd : DecidableEq (Int × (Int × (Int × ((List UInt8) × (Int × (Int × (List UInt8))))))) := by (iterate 20 (all_goals (first | infer_instance | refine @instDecidableEqProd _ _ ?_ ?_)))
def fEq_Cmd (a b : (Int × (Int × (Int × ((List UInt8) × (Int × (Int × (List UInt8)))))))) : Bool := decide (a = b)
def c_laws_eqCmd : Con := { io := false, I := .unit, ownI := [], A := (.pair (.pair (.int .i64) (.pair (.int .i64) (.pair (.int .i64) (.pair .str (.pair (.int .i64) (.pair (.int .i64) .str)))))) (.pair (.int .i64) (.pair (.int .i64) (.pair (.int .i64) (.pair .str (.pair (.int .i64) (.pair (.int .i64) .str))))))), shA := [.agg 7, .agg 7], ownA := [], backA := [], B := .unit, R := .bool, shR := [(false, 1)], fresh := [], newR := false, pre := fun _ a => True, f := some fun _ a => ((fEq_Cmd a.1 a.2), ((), ())) }
def laws_eqCmd.F  (a0 : (Int × (Int × (Int × ((List UInt8) × (Int × (Int × (List UInt8)))))))) (a1 : (Int × (Int × (Int × ((List UInt8) × (Int × (Int × (List UInt8)))))))) : Prop := (caseB (a0.1 != a1.1) (((false, ((), ())) : Bool × (Unit × Unit)) = ((fEq_Cmd a0 a1), ((), ()))) (caseB (a0.2.1 != a1.2.1) (((false, ((), ())) : Bool × (Unit × Unit)) = ((fEq_Cmd a0 a1), ((), ()))) (True ∧ ∀ (r1 : Bool × (Unit × Unit)), ((r1 : Bool × (Unit × Unit)) = ((fEq_Op (a0.2.2.1, (a0.2.2.2.1, (a0.2.2.2.2.1, (a0.2.2.2.2.2.1, a0.2.2.2.2.2.2)))) (a1.2.2.1, (a1.2.2.2.1, (a1.2.2.2.2.1, (a1.2.2.2.2.2.1, a1.2.2.2.2.2.2))))), ((), ()))) → (caseB (!r1.1) (((false, ((), ())) : Bool × (Unit × Unit)) = ((fEq_Cmd a0 a1), ((), ()))) (((true, ((), ())) : Bool × (Unit × Unit)) = ((fEq_Cmd a0 a1), ((), ())))))))
def laws_eqCmd.L  (a0 : (Int × (Int × (Int × ((List UInt8) × (Int × (Int × (List UInt8)))))))) (a1 : (Int × (Int × (Int × ((List UInt8) × (Int × (Int × (List UInt8)))))))) : Nat → Option LoopAnn := fun p => Go.Proofs.Ythjlommbnfooaaa.Bv.look p []

theorem laws_eqCmd.pure  (a0 : (Int × (Int × (Int × ((List UInt8) × (Int × (Int × (List UInt8)))))))) (a1 : (Int × (Int × (Int × ((List UInt8) × (Int × (Int × (List UInt8)))))))) (h : True) (hw : Wf c_laws_eqCmd.A (a0, a1)) : laws_eqCmd.F a0 a1 := by
  unfold laws_eqCmd.F
  obtain ⟨x1, x2, ⟨x3, x4, x5, x6, x7⟩⟩ := a0
  obtain ⟨y1, y2, ⟨y3, y4, y5, y6, y7⟩⟩ := a1
  simp only [forall_eq, true_and, and_true, caseB_iff, Prod.mk.injEq, decide_eq_true_eq, decide_eq_false_iff_not, Bool.not_eq_true', Bool.not_eq_false', bne_iff_ne, ne_eq, beq_iff_eq, Bool.not_true, Bool.not_false, beq_eq_false_iff_ne, bne_eq_false_iff_eq, List.length_append, List.length_cons, List.length_nil, List.append_nil, Nat.zero_add, decide_true, decide_false, eq_self_iff_true, fEq_Cmd, fEq_Op]
  repeat' (first | (refine And.intro ?_ ?_) | intro _)
  all_goals simp_all

set_option maxRecDepth 100000 in
theorem laws_eqCmd.eq (i : El c_laws_eqCmd.I) (x : El c_laws_eqCmd.A) : vc tab (gam [(47, c_laws_eqOp)] [] eqs) (laws_eqCmd.L x.1 x.2) (match Try.f52.body with | some c => c | none => .skip) 1 (initSt c_laws_eqCmd Try.f52.ntmps i x) (bodyK tab c_laws_eqCmd Try.f52.results.toList [4] i x) = laws_eqCmd.F x.1 x.2 := by kernel_rfl
theorem laws_eqCmd.ok : ConOk Try.prog 52 c_laws_eqCmd :=
  conOk_of_eq (con := c_laws_eqCmd) (tab := tab) (Γ := (gam [(47, c_laws_eqOp)] [] eqs)) (fn := Try.f52) (c := (match Try.f52.body with | some c => c | none => .skip)) (fun i x => laws_eqCmd.L x.1 x.2) (fun i x => laws_eqCmd.F x.1 x.2) rfl tabOk (gam_cons ⟨_, Try.func47, rfl, rfl⟩ laws_eqOp.ok (gam_nil _ [] eqsOk)) Try.func52 rfl [4] (by kernel_rfl) laws_eqCmd.eq fun i x h hi hw => laws_eqCmd.pure x.1 x.2 h hw

def c_mCmd (x : (Int × (Int × (Int × ((List UInt8) × (Int × (Int × (List UInt8)))))))) : Int := 1 + 1 + 1 + 1 + 1 + 1 + 1
def m_Cmd (x : (Int × (Int × (Int × ((List UInt8) × (Int × (Int × (List UInt8)))))))) (k : Int) : (Int × (Int × (Int × ((List UInt8) × (Int × (Int × (List UInt8))))))) := (k, (k + 1), (((k + 1) + 1), (fMT (((k + 1) + 1) + 1)), ((((k + 1) + 1) + 1) + 1), (((((k + 1) + 1) + 1) + 1) + 1), (fMT ((((((k + 1) + 1) + 1) + 1) + 1) + 1))))
def o_Cmd (x : (Int × (Int × (Int × ((List UInt8) × (Int × (Int × (List UInt8)))))))) (k : Int) : Bool := (decide (x.1 = k)) && (decide (x.2.1 = (k + 1))) && (decide (x.2.2.1 = ((k + 1) + 1))) && (decide (x.2.2.2.1 = fMT (((k + 1) + 1) + 1))) && (decide (x.2.2.2.2.1 = ((((k + 1) + 1) + 1) + 1))) && (decide (x.2.2.2.2.2.1 = (((((k + 1) + 1) + 1) + 1) + 1))) && (decide (x.2.2.2.2.2.2 = fMT ((((((k + 1) + 1) + 1) + 1) + 1) + 1)))
theorem ok_Cmd : ∀ (x : (Int × (Int × (Int × ((List UInt8) × (Int × (Int × (List UInt8)))))))) (k : Int), o_Cmd (m_Cmd x k) k = true ∧ c_mCmd (m_Cmd x k) = c_mCmd x := fun x k => by
  simp [o_Cmd, m_Cmd, c_mCmd]
theorem pos_Cmd : ∀ x : (Int × (Int × (Int × ((List UInt8) × (Int × (Int × (List UInt8))))))), 0 ≤ c_mCmd x := fun x => by
  unfold c_mCmd; omega
def n_Core (x : (Int × (Int × (Int × (Int × (Int × (Int × (Int × (Int × ((List (Int × (List UInt8))) × (Int × ((List Int) × ((List Int) × (List Int)))))))))))))) : Nat := (nL n_Entry x.2.2.2.2.2.2.2.2.1) + (List.length x.2.2.2.2.2.2.2.2.2.2.1) + (List.length x.2.2.2.2.2.2.2.2.2.2.2.1) + (List.length x.2.2.2.2.2.2.2.2.2.2.2.2)
def pSz_Core (x : (Int × (Int × (Int × (Int × (Int × (Int × (Int × (Int × ((List (Int × (List UInt8))) × (Int × ((List Int) × ((List Int) × (List Int)))))))))))))) (left : Int) : Prop := WfD (.pair (.int .i64) (.pair (.int .i64) (.pair (.int .i64) (.pair (.int .i64) (.pair (.int .i64) (.pair (.int .i64) (.pair (.int .i64) (.pair (.int .i64) (.pair (.list (.pair (.int .i64) .str)) (.pair (.int .i64) (.pair (.list (.int .i64)) (.pair (.list (.int .i64)) (.list (.int .i64)))))))))))))) x ∧ 0 ≤ left ∧ left ≤ 1048576
def fSz_Core (x : (Int × (Int × (Int × (Int × (Int × (Int × (Int × (Int × ((List (Int × (List UInt8))) × (Int × ((List Int) × ((List Int) × (List Int)))))))))))))) (left : Int) : Int := fSz (n_Core x) left
def c_laws_szCore : Con := { io := false, I := .unit, ownI := [], A := (.pair (.pair (.int .i64) (.pair (.int .i64) (.pair (.int .i64) (.pair (.int .i64) (.pair (.int .i64) (.pair (.int .i64) (.pair (.int .i64) (.pair (.int .i64) (.pair (.list (.pair (.int .i64) .str)) (.pair (.int .i64) (.pair (.list (.int .i64)) (.pair (.list (.int .i64)) (.list (.int .i64)))))))))))))) (.int .i64)), shA := [.agg 13, .one], ownA := [], backA := [], B := .unit, R := (.int .i64), shR := [(false, 1)], fresh := [], newR := false, pre := fun _ a => (pSz_Core a.1 a.2), f := some fun _ a => ((fSz_Core a.1 a.2), ((), ())) }
def laws_szCore.F  (a0 : (Int × (Int × (Int × (Int × (Int × (Int × (Int × (Int × ((List (Int × (List UInt8))) × (Int × ((List Int) × ((List Int) × (List Int)))))))))))))) (a1 : Int) : Prop := ((pSz_EntryS a0.2.2.2.2.2.2.2.2.1 a1) ∧ ∀ (r1 : Int × (Unit × Unit)), ((r1 : Int × (Unit × Unit)) = ((fSz_EntryS a0.2.2.2.2.2.2.2.2.1 a1), ((), ()))) → (caseB (decide (r1.1 < (0 : Int))) ((((-1), ((), ())) : Int × (Unit × Unit)) = ((fSz_Core a0 a1), ((), ()))) ((pSz_IntS a0.2.2.2.2.2.2.2.2.2.2.1 r1.1) ∧ ∀ (r2 : Int × (Unit × Unit)), ((r2 : Int × (Unit × Unit)) = ((fSz_IntS a0.2.2.2.2.2.2.2.2.2.2.1 r1.1), ((), ()))) → (caseB (decide (r2.1 < (0 : Int))) ((((-1), ((), ())) : Int × (Unit × Unit)) = ((fSz_Core a0 a1), ((), ()))) ((pSz_IntS a0.2.2.2.2.2.2.2.2.2.2.2.1 r2.1) ∧ ∀ (r3 : Int × (Unit × Unit)), ((r3 : Int × (Unit × Unit)) = ((fSz_IntS a0.2.2.2.2.2.2.2.2.2.2.2.1 r2.1), ((), ()))) → (caseB (decide (r3.1 < (0 : Int))) ((((-1), ((), ())) : Int × (Unit × Unit)) = ((fSz_Core a0 a1), ((), ()))) ((pSz_IntS a0.2.2.2.2.2.2.2.2.2.2.2.2 r3.1) ∧ ∀ (r4 : Int × (Unit × Unit)), ((r4 : Int × (Unit × Unit)) = ((fSz_IntS a0.2.2.2.2.2.2.2.2.2.2.2.2 r3.1), ((), ()))) → (caseB (decide (r4.1 < (0 : Int))) ((((-1), ((), ())) : Int × (Unit × Unit)) = ((fSz_Core a0 a1), ((), ()))) (((r4.1, ((), ())) : Int × (Unit × Unit)) = ((fSz_Core a0 a1), ((), ())))))))))))
def laws_szCore.L  (a0 : (Int × (Int × (Int × (Int × (Int × (Int × (Int × (Int × ((List (Int × (List UInt8))) × (Int × ((List Int) × ((List Int) × (List Int)))))))))))))) (a1 : Int) : Nat → Option LoopAnn := fun p => Go.Proofs.Ythjlommbnfooaaa.Bv.look p []

theorem laws_szCore.pure  (a0 : (Int × (Int × (Int × (Int × (Int × (Int × (Int × (Int × ((List (Int × (List UInt8))) × (Int × ((List Int) × ((List Int) × (List Int)))))))))))))) (a1 : Int) (h : (pSz_Core a0 a1)) (hw : Wf c_laws_szCore.A (a0, a1)) : laws_szCore.F a0 a1 := by
  unfold laws_szCore.F
  obtain ⟨hwf, p1, p2⟩ := h
  have w8 : WfD (.list (.pair (.int .i64) .str)) a0.2.2.2.2.2.2.2.2.1 := hwf.2.2.2.2.2.2.2.2.1
  have w10 : WfD (.list (.int .i64)) a0.2.2.2.2.2.2.2.2.2.2.1 := hwf.2.2.2.2.2.2.2.2.2.2.1
  have w11 : WfD (.list (.int .i64)) a0.2.2.2.2.2.2.2.2.2.2.2.1 := hwf.2.2.2.2.2.2.2.2.2.2.2.1
  have w12 : WfD (.list (.int .i64)) a0.2.2.2.2.2.2.2.2.2.2.2.2 := hwf.2.2.2.2.2.2.2.2.2.2.2.2
  simp only [forall_eq, true_and, and_true, caseB_iff, Prod.mk.injEq, decide_eq_true_eq, decide_eq_false_iff_not, Bool.not_eq_true', Bool.not_eq_false', bne_iff_ne, ne_eq, beq_iff_eq, Bool.not_true, Bool.not_false, beq_eq_false_iff_ne, bne_eq_false_iff_eq, List.length_append, List.length_cons, List.length_nil, List.append_nil, Nat.zero_add, decide_true, decide_false, eq_self_iff_true, n_Core, fSz_Core, pSz_EntryS, fSz_EntryS, pSz_IntS, fSz_IntS]
  repeat' (with_reducible (first | (refine And.intro ?_ ?_) | intro _))
  all_goals (try simp (disch := omega) only [w64, wu8, tn0, tn1, tm1, tm2, List.length_append, List.length_cons, List.length_nil] at *)
  all_goals (try simp (disch := omega) only [w64, wu8, tn0, tn1, tm1, tm2, List.length_append, List.length_cons, List.length_nil] at *)
  all_goals (try omega)
  all_goals (try grind [fSz])

set_option maxRecDepth 100000 in
theorem laws_szCore.eq (i : El c_laws_szCore.I) (x : El c_laws_szCore.A) : vc tab (gam [(59, c_laws_szEntryS), (60, c_laws_szIntS)] [] eqs) (laws_szCore.L x.1 x.2) (match Try.f15.body with | some c => c | none => .skip) 1 (initSt c_laws_szCore Try.f15.ntmps i x) (bodyK tab c_laws_szCore Try.f15.results.toList [3] i x) = laws_szCore.F x.1 x.2 := by kernel_rfl
theorem laws_szCore.ok : ConOk Try.prog 15 c_laws_szCore :=
  conOk_of_eq (con := c_laws_szCore) (tab := tab) (Γ := (gam [(59, c_laws_szEntryS), (60, c_laws_szIntS)] [] eqs)) (fn := Try.f15) (c := (match Try.f15.body with | some c => c | none => .skip)) (fun i x => laws_szCore.L x.1 x.2) (fun i x => laws_szCore.F x.1 x.2) rfl tabOk (gam_cons ⟨_, Try.func59, rfl, rfl⟩ laws_szEntryS.ok (gam_cons ⟨_, Try.func60, rfl, rfl⟩ laws_szIntS.ok (gam_nil _ [] eqsOk))) Try.func15 rfl [3] (by kernel_rfl) laws_szCore.eq fun i x h hi hw => laws_szCore.pure x.1 x.2 h hw

def pTo_Core (x : (Int × (Int × (Int × (Int × (Int × (Int × (Int × (Int × ((List (Int × (List UInt8))) × (Int × ((List Int) × ((List Int) × (List Int)))))))))))))) : Prop := n_Core x ≤ 1048576
def fTo_Core (x : (Int × (Int × (Int × (Int × (Int × (Int × (Int × (Int × ((List (Int × (List UInt8))) × (Int × ((List Int) × ((List Int) × (List Int)))))))))))))) : (Int × (Int × (Int × (Int × (Int × (Int × (Int × (Int × ((List (Int × (List UInt8))) × (Int × ((List Int) × ((List Int) × (List Int))))))))))))) := x
def c_laws_toCore : Con := { io := false, I := .unit, ownI := [], A := (.pair (.int .i64) (.pair (.int .i64) (.pair (.int .i64) (.pair (.int .i64) (.pair (.int .i64) (.pair (.int .i64) (.pair (.int .i64) (.pair (.int .i64) (.pair (.list (.pair (.int .i64) .str)) (.pair (.int .i64) (.pair (.list (.int .i64)) (.pair (.list (.int .i64)) (.list (.int .i64)))))))))))))), shA := [.agg 13], ownA := [], backA := [], B := .unit, R := (.pair (.int .i64) (.pair (.int .i64) (.pair (.int .i64) (.pair (.int .i64) (.pair (.int .i64) (.pair (.int .i64) (.pair (.int .i64) (.pair (.int .i64) (.pair (.list (.pair (.int .i64) .str)) (.pair (.int .i64) (.pair (.list (.int .i64)) (.pair (.list (.int .i64)) (.list (.int .i64)))))))))))))), shR := [(true, 13)], fresh := [(8, 144), (10, 3), (11, 3), (12, 3)], newR := false, pre := fun _ a => (pTo_Core a), f := some fun _ a => ((fTo_Core a), ((), ())) }
def laws_toCore.F  (a0 : (Int × (Int × (Int × (Int × (Int × (Int × (Int × (Int × ((List (Int × (List UInt8))) × (Int × ((List Int) × ((List Int) × (List Int)))))))))))))) : Prop := ((pTo_EntryS a0.2.2.2.2.2.2.2.2.1) ∧ ∀ (r1 : (List (Int × (List UInt8))) × (Unit × Unit)), ((r1 : (List (Int × (List UInt8))) × (Unit × Unit)) = ((fTo_EntryS a0.2.2.2.2.2.2.2.2.1), ((), ()))) → ((pTo_IntS a0.2.2.2.2.2.2.2.2.2.2.1) ∧ ∀ (r2 : (List Int) × (Unit × Unit)), ((r2 : (List Int) × (Unit × Unit)) = ((fTo_IntS a0.2.2.2.2.2.2.2.2.2.2.1), ((), ()))) → ((pTo_IntS a0.2.2.2.2.2.2.2.2.2.2.2.1) ∧ ∀ (r3 : (List Int) × (Unit × Unit)), ((r3 : (List Int) × (Unit × Unit)) = ((fTo_IntS a0.2.2.2.2.2.2.2.2.2.2.2.1), ((), ()))) → ((pTo_IntS a0.2.2.2.2.2.2.2.2.2.2.2.2) ∧ ∀ (r4 : (List Int) × (Unit × Unit)), ((r4 : (List Int) × (Unit × Unit)) = ((fTo_IntS a0.2.2.2.2.2.2.2.2.2.2.2.2), ((), ()))) → ((((a0.1, (a0.2.1, (a0.2.2.1, (a0.2.2.2.1, (a0.2.2.2.2.1, (a0.2.2.2.2.2.1, (a0.2.2.2.2.2.2.1, (a0.2.2.2.2.2.2.2.1, (r1.1, (a0.2.2.2.2.2.2.2.2.2.1, (r2.1, (r3.1, r4.1)))))))))))), ((), ())) : (Int × (Int × (Int × (Int × (Int × (Int × (Int × (Int × ((List (Int × (List UInt8))) × (Int × ((List Int) × ((List Int) × (List Int))))))))))))) × (Unit × Unit)) = ((fTo_Core a0), ((), ())))))))
def laws_toCore.L  (a0 : (Int × (Int × (Int × (Int × (Int × (Int × (Int × (Int × ((List (Int × (List UInt8))) × (Int × ((List Int) × ((List Int) × (List Int)))))))))))))) : Nat → Option LoopAnn := fun p => Go.Proofs.Ythjlommbnfooaaa.Bv.look p []

theorem laws_toCore.pure  (a0 : (Int × (Int × (Int × (Int × (Int × (Int × (Int × (Int × ((List (Int × (List UInt8))) × (Int × ((List Int) × ((List Int) × (List Int)))))))))))))) (h : (pTo_Core a0)) (hw : Wf c_laws_toCore.A a0) : laws_toCore.F a0 := by
  unfold laws_toCore.F
  have hp : n_Core a0 ≤ 1048576 := h
  simp only [n_Core] at hp
  simp only [forall_eq, true_and, and_true, caseB_iff, Prod.mk.injEq, decide_eq_true_eq, decide_eq_false_iff_not, Bool.not_eq_true', Bool.not_eq_false', bne_iff_ne, ne_eq, beq_iff_eq, Bool.not_true, Bool.not_false, beq_eq_false_iff_ne, bne_eq_false_iff_eq, List.length_append, List.length_cons, List.length_nil, List.append_nil, Nat.zero_add, decide_true, decide_false, eq_self_iff_true, n_Core, fTo_Core, pTo_Core, pTo_EntryS, fTo_EntryS, pTo_IntS, fTo_IntS]
  repeat' (with_reducible (first | (refine And.intro ?_ ?_) | intro _))
  all_goals (try simp (disch := omega) only [w64, wu8, tn0, tn1, tm1, tm2, List.length_append, List.length_cons, List.length_nil] at *)
  all_goals (try simp (disch := omega) only [w64, wu8, tn0, tn1, tm1, tm2, List.length_append, List.length_cons, List.length_nil] at *)
  all_goals (try omega)
  all_goals (try grind [])

set_option maxRecDepth 100000 in
theorem laws_toCore.eq (i : El c_laws_toCore.I) (x : El c_laws_toCore.A) : vc tab (gam [(66, c_laws_toEntryS), (67, c_laws_toIntS)] [] eqs) (laws_toCore.L x) (match Try.f17.body with | some c => c | none => .skip) 1 (initSt c_laws_toCore Try.f17.ntmps i x) (bodyK tab c_laws_toCore Try.f17.results.toList [30] i x) = laws_toCore.F x := by kernel_rfl
theorem laws_toCore.ok : ConOk Try.prog 17 c_laws_toCore :=
  conOk_of_eq (con := c_laws_toCore) (tab := tab) (Γ := (gam [(66, c_laws_toEntryS), (67, c_laws_toIntS)] [] eqs)) (fn := Try.f17) (c := (match Try.f17.body with | some c => c | none => .skip)) (fun i x => laws_toCore.L x) (fun i x => laws_toCore.F x) rfl tabOk (gam_cons ⟨_, Try.func66, rfl, rfl⟩ laws_toEntryS.ok (gam_cons ⟨_, Try.func67, rfl, rfl⟩ laws_toIntS.ok (gam_nil _ [] eqsOk))) Try.func17 rfl [30] (by kernel_rfl) laws_toCore.eq fun i x h hi hw => laws_toCore.pure x h hw

instance dec_Core : DecidableEq (Int × (Int × (Int × (Int × (Int × (Int × (Int × (Int × ((List (Int × (List UInt8))) × (Int × ((List Int) × ((List Int) × (List Int))))))))))))) := by (iterate 20 (all_goals (first | infer_instance | refine @instDecidableEqProd _ _ ?_ ?_)))
def fEq_Core (a b : (Int × (Int × (Int × (Int × (Int × (Int × (Int × (Int × ((List (Int × (List UInt8))) × (Int × ((List Int) × ((List Int) × (List Int)))))))))))))) : Bool := decide (a = b)
def c_laws_eqCore : Con := { io := false, I := .unit, ownI := [], A := (.pair (.pair (.int .i64) (.pair (.int .i64) (.pair (.int .i64) (.pair (.int .i64) (.pair (.int .i64) (.pair (.int .i64) (.pair (.int .i64) (.pair (.int .i64) (.pair (.list (.pair (.int .i64) .str)) (.pair (.int .i64) (.pair (.list (.int .i64)) (.pair (.list (.int .i64)) (.list (.int .i64)))))))))))))) (.pair (.int .i64) (.pair (.int .i64) (.pair (.int .i64) (.pair (.int .i64) (.pair (.int .i64) (.pair (.int .i64) (.pair (.int .i64) (.pair (.int .i64) (.pair (.list (.pair (.int .i64) .str)) (.pair (.int .i64) (.pair (.list (.int .i64)) (.pair (.list (.int .i64)) (.list (.int .i64))))))))))))))), shA := [.agg 13, .agg 13], ownA := [], backA := [], B := .unit, R := .bool, shR := [(false, 1)], fresh := [], newR := false, pre := fun _ a => True, f := some fun _ a => ((fEq_Core a.1 a.2), ((), ())) }
def laws_eqCore.F  (a0 : (Int × (Int × (Int × (Int × (Int × (Int × (Int × (Int × ((List (Int × (List UInt8))) × (Int × ((List Int) × ((List Int) × (List Int)))))))))))))) (a1 : (Int × (Int × (Int × (Int × (Int × (Int × (Int × (Int × ((List (Int × (List UInt8))) × (Int × ((List Int) × ((List Int) × (List Int)))))))))))))) : Prop := (caseB (a0.1 != a1.1) (((false, ((), ())) : Bool × (Unit × Unit)) = ((fEq_Core a0 a1), ((), ()))) (caseB (a0.2.1 != a1.2.1) (((false, ((), ())) : Bool × (Unit × Unit)) = ((fEq_Core a0 a1), ((), ()))) (caseB (a0.2.2.1 != a1.2.2.1) (((false, ((), ())) : Bool × (Unit × Unit)) = ((fEq_Core a0 a1), ((), ()))) (caseB (a0.2.2.2.1 != a1.2.2.2.1) (((false, ((), ())) : Bool × (Unit × Unit)) = ((fEq_Core a0 a1), ((), ()))) (caseB (a0.2.2.2.2.1 != a1.2.2.2.2.1) (((false, ((), ())) : Bool × (Unit × Unit)) = ((fEq_Core a0 a1), ((), ()))) (caseB (a0.2.2.2.2.2.1 != a1.2.2.2.2.2.1) (((false, ((), ())) : Bool × (Unit × Unit)) = ((fEq_Core a0 a1), ((), ()))) (caseB (a0.2.2.2.2.2.2.1 != a1.2.2.2.2.2.2.1) (((false, ((), ())) : Bool × (Unit × Unit)) = ((fEq_Core a0 a1), ((), ()))) (caseB (a0.2.2.2.2.2.2.2.1 != a1.2.2.2.2.2.2.2.1) (((false, ((), ())) : Bool × (Unit × Unit)) = ((fEq_Core a0 a1), ((), ()))) (True ∧ ∀ (r1 : Bool × (Unit × Unit)), ((r1 : Bool × (Unit × Unit)) = ((fEq_EntryS a0.2.2.2.2.2.2.2.2.1 a1.2.2.2.2.2.2.2.2.1), ((), ()))) → (caseB (!r1.1) (((false, ((), ())) : Bool × (Unit × Unit)) = ((fEq_Core a0 a1), ((), ()))) (caseB (a0.2.2.2.2.2.2.2.2.2.1 != a1.2.2.2.2.2.2.2.2.2.1) (((false, ((), ())) : Bool × (Unit × Unit)) = ((fEq_Core a0 a1), ((), ()))) (True ∧ ∀ (r2 : Bool × (Unit × Unit)), ((r2 : Bool × (Unit × Unit)) = ((fEq_IntS a0.2.2.2.2.2.2.2.2.2.2.1 a1.2.2.2.2.2.2.2.2.2.2.1), ((), ()))) → (caseB (!r2.1) (((false, ((), ())) : Bool × (Unit × Unit)) = ((fEq_Core a0 a1), ((), ()))) (True ∧ ∀ (r3 : Bool × (Unit × Unit)), ((r3 : Bool × (Unit × Unit)) = ((fEq_IntS a0.2.2.2.2.2.2.2.2.2.2.2.1 a1.2.2.2.2.2.2.2.2.2.2.2.1), ((), ()))) → (caseB (!r3.1) (((false, ((), ())) : Bool × (Unit × Unit)) = ((fEq_Core a0 a1), ((), ()))) (True ∧ ∀ (r4 : Bool × (Unit × Unit)), ((r4 : Bool × (Unit × Unit)) = ((fEq_IntS a0.2.2.2.2.2.2.2.2.2.2.2.2 a1.2.2.2.2.2.2.2.2.2.2.2.2), ((), ()))) → (caseB (!r4.1) (((false, ((), ())) : Bool × (Unit × Unit)) = ((fEq_Core a0 a1), ((), ()))) (((true, ((), ())) : Bool × (Unit × Unit)) = ((fEq_Core a0 a1), ((), ()))))))))))))))))))))
def laws_eqCore.L  (a0 : (Int × (Int × (Int × (Int × (Int × (Int × (Int × (Int × ((List (Int × (List UInt8))) × (Int × ((List Int) × ((List Int) × (List Int)))))))))))))) (a1 : (Int × (Int × (Int × (Int × (Int × (Int × (Int × (Int × ((List (Int × (List UInt8))) × (Int × ((List Int) × ((List Int) × (List Int)))))))))))))) : Nat → Option LoopAnn := fun p => Go.Proofs.Ythjlommbnfooaaa.Bv.look p []

theorem laws_eqCore.pure  (a0 : (Int × (Int × (Int × (Int × (Int × (Int × (Int × (Int × ((List (Int × (List UInt8))) × (Int × ((List Int) × ((List Int) × (List Int)))))))))))))) (a1 : (Int × (Int × (Int × (Int × (Int × (Int × (Int × (Int × ((List (Int × (List UInt8))) × (Int × ((List Int) × ((List Int) × (List Int)))))))))))))) (h : True) (hw : Wf c_laws_eqCore.A (a0, a1)) : laws_eqCore.F a0 a1 := by
  unfold laws_eqCore.F
  obtain ⟨x1, x2, x3, x4, x5, x6, x7, x8, x9, x10, x11, x12, x13⟩ := a0
  obtain ⟨y1, y2, y3, y4, y5, y6, y7, y8, y9, y10, y11, y12, y13⟩ := a1
  simp only [forall_eq, true_and, and_true, caseB_iff, Prod.mk.injEq, decide_eq_true_eq, decide_eq_false_iff_not, Bool.not_eq_true', Bool.not_eq_false', bne_iff_ne, ne_eq, beq_iff_eq, Bool.not_true, Bool.not_false, beq_eq_false_iff_ne, bne_eq_false_iff_eq, List.length_append, List.length_cons, List.length_nil, List.append_nil, Nat.zero_add, decide_true, decide_false, eq_self_iff_true, fEq_Core, fEq_EntryS, fEq_IntS]
  repeat' (first | (refine And.intro ?_ ?_) | intro _)
  all_goals simp_all

set_option maxRecDepth 100000 in
theorem laws_eqCore.eq (i : El c_laws_eqCore.I) (x : El c_laws_eqCore.A) : vc tab (gam [(75, c_laws_eqEntryS), (76, c_laws_eqIntS)] [] eqs) (laws_eqCore.L x.1 x.2) (match Try.f19.body with | some c => c | none => .skip) 1 (initSt c_laws_eqCore Try.f19.ntmps i x) (bodyK tab c_laws_eqCore Try.f19.results.toList [4] i x) = laws_eqCore.F x.1 x.2 := by kernel_rfl
theorem laws_eqCore.ok : ConOk Try.prog 19 c_laws_eqCore :=
  conOk_of_eq (con := c_laws_eqCore) (tab := tab) (Γ := (gam [(75, c_laws_eqEntryS), (76, c_laws_eqIntS)] [] eqs)) (fn := Try.f19) (c := (match Try.f19.body with | some c => c | none => .skip)) (fun i x => laws_eqCore.L x.1 x.2) (fun i x => laws_eqCore.F x.1 x.2) rfl tabOk (gam_cons ⟨_, Try.func75, rfl, rfl⟩ laws_eqEntryS.ok (gam_cons ⟨_, Try.func76, rfl, rfl⟩ laws_eqIntS.ok (gam_nil _ [] eqsOk))) Try.func19 rfl [4] (by kernel_rfl) laws_eqCore.eq fun i x h hi hw => laws_eqCore.pure x.1 x.2 h hw

def c_mCore (x : (Int × (Int × (Int × (Int × (Int × (Int × (Int × (Int × ((List (Int × (List UInt8))) × (Int × ((List Int) × ((List Int) × (List Int)))))))))))))) : Int := 1 + 1 + 1 + 1 + 1 + 1 + 1 + 1 + cL c_mEntry x.2.2.2.2.2.2.2.2.1 + 1 + cL c_1 x.2.2.2.2.2.2.2.2.2.2.1 + cL c_1 x.2.2.2.2.2.2.2.2.2.2.2.1 + cL c_1 x.2.2.2.2.2.2.2.2.2.2.2.2
def m_Core (x : (Int × (Int × (Int × (Int × (Int × (Int × (Int × (Int × ((List (Int × (List UInt8))) × (Int × ((List Int) × ((List Int) × (List Int)))))))))))))) (k : Int) : (Int × (Int × (Int × (Int × (Int × (Int × (Int × (Int × ((List (Int × (List UInt8))) × (Int × ((List Int) × ((List Int) × (List Int))))))))))))) := (k, (k + 1), ((k + 1) + 1), (((k + 1) + 1) + 1), ((((k + 1) + 1) + 1) + 1), (((((k + 1) + 1) + 1) + 1) + 1), ((((((k + 1) + 1) + 1) + 1) + 1) + 1), (((((((k + 1) + 1) + 1) + 1) + 1) + 1) + 1), (mL c_mEntry m_Entry x.2.2.2.2.2.2.2.2.1 ((((((((k + 1) + 1) + 1) + 1) + 1) + 1) + 1) + 1)), (((((((((k + 1) + 1) + 1) + 1) + 1) + 1) + 1) + 1) + cL c_mEntry x.2.2.2.2.2.2.2.2.1), (mL c_1 m_Int x.2.2.2.2.2.2.2.2.2.2.1 ((((((((((k + 1) + 1) + 1) + 1) + 1) + 1) + 1) + 1) + cL c_mEntry x.2.2.2.2.2.2.2.2.1) + 1)), (mL c_1 m_Int x.2.2.2.2.2.2.2.2.2.2.2.1 (((((((((((k + 1) + 1) + 1) + 1) + 1) + 1) + 1) + 1) + cL c_mEntry x.2.2.2.2.2.2.2.2.1) + 1) + cL c_1 x.2.2.2.2.2.2.2.2.2.2.1)), (mL c_1 m_Int x.2.2.2.2.2.2.2.2.2.2.2.2 ((((((((((((k + 1) + 1) + 1) + 1) + 1) + 1) + 1) + 1) + cL c_mEntry x.2.2.2.2.2.2.2.2.1) + 1) + cL c_1 x.2.2.2.2.2.2.2.2.2.2.1) + cL c_1 x.2.2.2.2.2.2.2.2.2.2.2.1)))
def o_Core (x : (Int × (Int × (Int × (Int × (Int × (Int × (Int × (Int × ((List (Int × (List UInt8))) × (Int × ((List Int) × ((List Int) × (List Int)))))))))))))) (k : Int) : Bool := (decide (x.1 = k)) && (decide (x.2.1 = (k + 1))) && (decide (x.2.2.1 = ((k + 1) + 1))) && (decide (x.2.2.2.1 = (((k + 1) + 1) + 1))) && (decide (x.2.2.2.2.1 = ((((k + 1) + 1) + 1) + 1))) && (decide (x.2.2.2.2.2.1 = (((((k + 1) + 1) + 1) + 1) + 1))) && (decide (x.2.2.2.2.2.2.1 = ((((((k + 1) + 1) + 1) + 1) + 1) + 1))) && (decide (x.2.2.2.2.2.2.2.1 = (((((((k + 1) + 1) + 1) + 1) + 1) + 1) + 1))) && (oL c_mEntry o_Entry x.2.2.2.2.2.2.2.2.1 ((((((((k + 1) + 1) + 1) + 1) + 1) + 1) + 1) + 1)) && (decide (x.2.2.2.2.2.2.2.2.2.1 = (((((((((k + 1) + 1) + 1) + 1) + 1) + 1) + 1) + 1) + cL c_mEntry x.2.2.2.2.2.2.2.2.1))) && (oL c_1 o_Int x.2.2.2.2.2.2.2.2.2.2.1 ((((((((((k + 1) + 1) + 1) + 1) + 1) + 1) + 1) + 1) + cL c_mEntry x.2.2.2.2.2.2.2.2.1) + 1)) && (oL c_1 o_Int x.2.2.2.2.2.2.2.2.2.2.2.1 (((((((((((k + 1) + 1) + 1) + 1) + 1) + 1) + 1) + 1) + cL c_mEntry x.2.2.2.2.2.2.2.2.1) + 1) + cL c_1 x.2.2.2.2.2.2.2.2.2.2.1)) && (oL c_1 o_Int x.2.2.2.2.2.2.2.2.2.2.2.2 ((((((((((((k + 1) + 1) + 1) + 1) + 1) + 1) + 1) + 1) + cL c_mEntry x.2.2.2.2.2.2.2.2.1) + 1) + cL c_1 x.2.2.2.2.2.2.2.2.2.2.1) + cL c_1 x.2.2.2.2.2.2.2.2.2.2.2.1))
theorem ok_Core : ∀ (x : (Int × (Int × (Int × (Int × (Int × (Int × (Int × (Int × ((List (Int × (List UInt8))) × (Int × ((List Int) × ((List Int) × (List Int)))))))))))))) (k : Int), o_Core (m_Core x k) k = true ∧ c_mCore (m_Core x k) = c_mCore x := fun x k => by
  simp [o_Core, m_Core, c_mCore, (oL_mL ok_Entry _ _).1, (oL_mL ok_Entry _ _).2, (oL_mL ok_Int _ _).1, (oL_mL ok_Int _ _).2]
theorem pos_Core : ∀ x : (Int × (Int × (Int × (Int × (Int × (Int × (Int × (Int × ((List (Int × (List UInt8))) × (Int × ((List Int) × ((List Int) × (List Int))))))))))))), 0 ≤ c_mCore x := fun x => by
  have p0 := fun l => cL_pos pos_Entry l
  have p1 := fun l => cL_pos pos_Int l
  have q0 := p0 x.2.2.2.2.2.2.2.2.1
  have q1 := p1 x.2.2.2.2.2.2.2.2.2.2.1
  have q2 := p1 x.2.2.2.2.2.2.2.2.2.2.2.1
  have q3 := p1 x.2.2.2.2.2.2.2.2.2.2.2.2
  unfold c_mCore; omega
end Go.Proofs.Ythjlommbnfooaaa.B
