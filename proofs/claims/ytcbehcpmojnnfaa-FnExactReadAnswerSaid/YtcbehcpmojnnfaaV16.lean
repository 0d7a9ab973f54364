/- The head of a loop: what is held as it is, what is named anew. -/
import Derived.Test.YtcbehcpmojnnfaaV22
namespace Go.Proofs.Ytcbehcpmojnnfaa.Bv
set_option linter.unusedVariables false
set_option linter.unusedSimpArgs false

structure LoopAnn where
  kp : Keep
  T : Ty
  I : St → El T → Prop
  μ : St → El T → Nat

/-! Values out of a state, for what an invariant says. -/
def cellAt (st : St) (s i : Nat) : Option CellV := match st.get s with
  | .val _ cs => cs[i]?
  | .ptr cs => cs[i]?
  | _ => none
def boxCell (st : St) (k i : Nat) : Option CellV := match st.box k with
  | some cs => cs[i]?
  | none => none
def intC : Option CellV → Int
  | some (.int _ n) => n
  | _ => 0
def boolC : Option CellV → Bool
  | some (.bool b) => b
  | _ => false
def strC : Option CellV → List UInt8
  | some (.str s) => s
  | _ => []
def lstC (t : Ty) : Option CellV → List (El t)
  | some (.lst t' l _) => if h : t' = t then h ▸ l else []
  | _ => []

def wk (kp : Keep) (st : St) (s : Nat) : Sv := reS kp st s (st.get s)

/-- The cells of the slots that are named anew. -/
def leavesS (kp : Keep) (st : St) : List Nat → Option (List CellV)
  | [] => some []
  | s :: l => match wk kp st s, leavesS kp st l with
    | .val _ cs, some r => some (cs ++ r)
    | _, _ => none

def leavesB (st : St) : List Nat → Option (List CellV)
  | [] => some []
  | b :: l => match st.box b, leavesB st l with
    | some cs, some r => some (unC cs ++ r)
    | _, _ => none

def leaves (kp : Keep) (st : St) : Option (List CellV) := match leavesS kp st kp.slots, leavesB st kp.boxes with
  | some a, some b => some (a ++ b)
  | _, _ => none

def fillC1 : CellV → CellV → Option CellV
  | .int k _, .int k' n => if k = k' then some (.int k n) else none
  | .bool _, .bool b => some (.bool b)
  | .str _, .str s => some (.str s)
  | .lst t _ tag, .lst t' l _ => if t = t' then some (.lst t' l tag) else none
  | _, _ => none

def fillCs : List CellV → List CellV → Option (List CellV × List CellV)
  | [], cs => some ([], cs)
  | c :: sh, v :: cs => match fillC1 c v, fillCs sh cs with
    | some c', some (r, cs') => some (c' :: r, cs')
    | _, _ => none
  | _ :: _, [] => none

def fillS (kp : Keep) (st0 : St) : List Nat → List CellV → Option (List (Nat × Sv) × List CellV)
  | [], cs => some ([], cs)
  | s :: l, cs => match wk kp st0 s with
    | .val ag sh => match fillCs sh cs with
      | some (c, r) => match fillS kp st0 l r with
        | some (sl, r') => some ((s, .val ag c) :: sl, r')
        | none => none
      | none => none
    | _ => none

def fillB (st0 : St) : List Nat → List CellV → Option (List (Nat × List CellV) × List CellV)
  | [], cs => some ([], cs)
  | b :: l, cs => match st0.box b with
    | some sh => match fillCs (unC sh) cs with
      | some (c, r) => match fillB st0 l r with
        | some (sl, r') => some ((b, c) :: sl, r')
        | none => none
      | none => none
    | _ => none

def heldS (kp : Keep) (st : St) : List Nat → List (Nat × Sv)
  | [] => []
  | s :: l => (s, wk kp st s) :: heldS kp st l

def headSt (kp : Keep) (st0 : St) (cs : List CellV) : Option St := match fillS kp st0 kp.slots cs with
  | some (sl, r) => match fillB st0 kp.boxes r with
    | some (bx, []) => some { nt := st0.nt, slots := heldS kp st0 kp.hold ++ sl, boxes := bx, rows := reRows kp.rows }
    | _ => none
  | none => none

def sameC : CellV → CellV → Bool
  | .int k _, .int k' _ => decide (k = k')
  | .bool _, .bool _ => true
  | .str _, .str _ => true
  | .lst t _ tag, .lst t' _ tag' => decide (t = t') && decide (tag = tag')
  | _, _ => false

def sameCs : List CellV → List CellV → Bool
  | [], [] => true
  | a :: l, b :: r => sameC a b && sameCs l r
  | _, _ => false

def sameSv : Sv → Sv → Bool
  | .val ag cs, .val ag' cs' => decide (ag = ag') && sameCs cs cs'
  | _, _ => false

def sameS (kp : Keep) (st0 st : St) : List Nat → Bool
  | [] => true
  | s :: l => sameSv (wk kp st0 s) (wk kp st s) && sameS kp st0 st l

def sameB (st0 st : St) : List Nat → Bool
  | [] => true
  | b :: l => (match st0.box b, st.box b with
    | some c, some c' => sameCs (unC c) (unC c')
    | _, _ => false) && sameB st0 st l

/-- Back at the head. -/
def again (tab : Tab) (an : LoopAnn) (st0 st : St) (Z : El an.T → Prop) : Prop :=
  match keepOk tab an.kp st && decide (st0.nt = st.nt) && sameS an.kp st0 st an.kp.slots && sameB st0 st an.kp.boxes, leaves an.kp st with
  | true, some cs => match unflat an.T cs with
    | some (y, []) => heldS an.kp st0 an.kp.hold = heldS an.kp st an.kp.hold ∧ Z y
    | _ => False
  | _, _ => False

/-- At the head. -/
def headV (an : LoopAnn) (st0 : St) (x : El an.T) (F : St → Prop) : Prop := match headSt an.kp st0 (flat an.T x) with
  | some st => F st
  | none => False

def unT : CellV → CellV
  | .lst t l _ => .lst t l none
  | c => c

theorem unflat_flat : ∀ (t : Ty) (cs : List CellV) (x : El t) (r : List CellV), unflat t cs = some (x, r) → cs.map unT = flat t x ++ r.map unT
  | .unit, cs, x, r, e => by simp only [unflat, Option.some.injEq, Prod.mk.injEq] at e; obtain ⟨_, rfl⟩ := e; rfl
  | .pair a b, cs, x, r, e => by
    simp only [unflat, Option.bind_eq_some_iff, Option.some.injEq, Prod.mk.injEq] at e
    obtain ⟨⟨xa, ra⟩, ea, ⟨xb, rb⟩, eb, ex, er⟩ := e
    simp only at er ex
    subst er; subst ex
    rw [unflat_flat a _ _ _ ea]
    simp only at eb
    rw [unflat_flat b _ _ _ eb]
    simp [flat]
  | .int k, cs, x, r, e => by
    cases cs with
    | nil => simp [unflat] at e
    | cons c cs => cases c <;> simp [unflat] at e; obtain ⟨rfl, rfl, rfl⟩ := e; rfl
  | .bool, cs, x, r, e => by
    cases cs with
    | nil => simp [unflat] at e
    | cons c cs => cases c <;> simp [unflat] at e; obtain ⟨rfl, rfl⟩ := e; rfl
  | .str, cs, x, r, e => by
    cases cs with
    | nil => simp [unflat] at e
    | cons c cs => cases c <;> simp [unflat] at e; obtain ⟨rfl, rfl⟩ := e; rfl
  | .list t, cs, x, r, e => by
    cases cs with
    | nil => simp [unflat] at e
    | cons c cs =>
      cases c <;> simp [unflat] at e
      rename_i t' l tag
      by_cases ht : t' = t
      · subst ht
        simp at e
        obtain ⟨rfl, rfl⟩ := e
        rfl
      · exact absurd e.1.1 ht

theorem fillC1_same {c d : CellV} (h : sameC c d = true) : fillC1 c (unT d) = some d := by
  cases c <;> cases d <;> simp [sameC] at h
  all_goals simp [fillC1, unT, h]

theorem fillCs_same : ∀ {sh ds : List CellV} (r : List CellV), sameCs sh ds = true → fillCs sh (ds.map unT ++ r) = some (ds, r)
  | [], [], r, _ => rfl
  | c :: sh, [], r, h => by simp [sameCs] at h
  | [], d :: ds, r, h => by simp [sameCs] at h
  | c :: sh, d :: ds, r, h => by
    simp only [sameCs, Bool.and_eq_true] at h
    simp [fillCs, fillC1_same h.1, fillCs_same r h.2]

theorem fillS_same {kp : Keep} {st0 st : St} : ∀ {l : List Nat} {cs : List CellV} (r : List CellV), sameS kp st0 st l = true → leavesS kp st l = some cs → fillS kp st0 l (cs.map unT ++ r) = some (heldS kp st l, r)
  | [], cs, r, _, e => by simp only [leavesS, Option.some.injEq] at e; subst e; rfl
  | s :: l, cs, r, h, e => by
    simp only [sameS, Bool.and_eq_true] at h
    simp only [leavesS] at e
    split at e
    · rename_i ag c r' h1 h2
      cases e
      have hs := h.1
      rw [h1] at hs
      cases hw : wk kp st0 s with
      | val ag' sh =>
        rw [hw] at hs
        simp only [sameSv, Bool.and_eq_true, decide_eq_true_eq] at hs
        obtain ⟨rfl, hs⟩ := hs
        simp only [fillS, hw, List.map_append, List.append_assoc, fillCs_same _ hs, fillS_same r h.2 h2, heldS, h1]
      | _ => rw [hw] at hs; simp [sameSv] at hs
    · cases e

def takeB (st : St) : List Nat → List (Nat × List CellV)
  | [] => []
  | b :: l => match st.box b with
    | some cs => (b, unC cs) :: takeB st l
    | none => takeB st l

theorem fillB_same {st0 st : St} : ∀ {l : List Nat} {cs : List CellV} (r : List CellV), sameB st0 st l = true → leavesB st l = some cs → fillB st0 l (cs.map unT ++ r) = some (reBoxes st l, r)
  | [], cs, r, _, e => by simp only [leavesB, Option.some.injEq] at e; subst e; rfl
  | b :: l, cs, r, h, e => by
    simp only [sameB, Bool.and_eq_true] at h
    simp only [leavesB] at e
    split at e
    · rename_i c r' h1 h2
      cases e
      have hs := h.1
      rw [h1] at hs
      cases hw : st0.box b with
      | some sh =>
        rw [hw] at hs
        simp only at hs
        simp only [fillB, hw, List.map_append, List.append_assoc, fillCs_same _ hs, fillB_same r h.2 h2, reBoxes, h1]
      | none => rw [hw] at hs; cases hs
    · cases e

theorem heldS_eq (kp : Keep) (st : St) : ∀ l, heldS kp st l = reSlots kp st l
  | [] => rfl
  | s :: l => by simp only [heldS, reSlots, heldS_eq kp st l, wk]

theorem reSlots_append (kp : Keep) (st : St) : ∀ l r, reSlots kp st (l ++ r) = reSlots kp st l ++ reSlots kp st r
  | [], r => rfl
  | s :: l, r => by simp only [List.cons_append, reSlots, reSlots_append kp st l r]

/-- The state at the head is what is left of the state that comes there. -/
theorem headSt_same {kp : Keep} {st0 st : St} {cs : List CellV} (hnt : st0.nt = st.nt) (h1 : sameS kp st0 st kp.slots = true) (h2 : sameB st0 st kp.boxes = true) (hc : leaves kp st = some cs)
    (hh : heldS kp st0 kp.hold = heldS kp st kp.hold) : headSt kp st0 (cs.map unT) = some (weaken kp st) := by
  unfold leaves at hc
  split at hc
  · rename_i ca cb ha hb
    cases hc
    unfold headSt
    rw [List.map_append, fillS_same (cb.map unT) h1 ha]
    have := fillB_same (st0 := st0) [] h2 hb
    rw [List.append_nil] at this
    simp only [this, weaken, hnt, hh, heldS_eq, reSlots_append]
  · cases hc

variable {P : Program} {base : World} {M0 : Mem} {ios : List Nat} {σ : Sg} {M : Mem} {w : World} {a : Act} {st : St} {tab : Tab} {Γ : Nat → Option Con}

theorem again_sound (hT : TabOk P tab) {an : LoopAnn} {st0 : St} {Z : El an.T → Prop} (h : again tab an st0 st Z) (hS : Sim P base M0 ios σ M w a st) :
    ∃ y s σ', Z y ∧ headSt an.kp st0 (flat an.T y) = some s ∧ Sim P base M0 ios σ' M w a s := by
  unfold again at h
  split at h
  · rename_i cs hb hl
    split at h
    · rename_i y hy
      simp only [Bool.and_eq_true, decide_eq_true_eq] at hb
      obtain ⟨⟨⟨hk, hnt⟩, h1⟩, h2⟩ := hb
      have hu := unflat_flat _ _ _ _ hy
      simp only [List.map_nil, List.append_nil] at hu
      obtain ⟨σ', hS'⟩ := hS.weaken hT hk
      exact ⟨y, weaken an.kp st, σ', h.2, by rw [← hu]; exact headSt_same hnt h1 h2 hl h.1, hS'⟩
    · exact h.elim
  · exact h.elim

theorem sameC_refl (c : CellV) : sameC c c = true := by cases c <;> simp [sameC]
theorem sameCs_refl : ∀ cs : List CellV, sameCs cs cs = true
  | [] => rfl
  | c :: cs => by simp [sameCs, sameC_refl, sameCs_refl cs]

theorem sameS_refl {kp : Keep} {st : St} : ∀ {l : List Nat} {cs : List CellV}, leavesS kp st l = some cs → sameS kp st st l = true
  | [], _, _ => rfl
  | s :: l, cs, h => by
    simp only [leavesS] at h
    split at h
    · rename_i h1 h2
      simp [sameS, h1, sameSv, sameCs_refl, sameS_refl h2]
    · cases h

theorem sameB_refl {st : St} : ∀ {l : List Nat} {cs : List CellV}, leavesB st l = some cs → sameB st st l = true
  | [], _, _ => rfl
  | b :: l, cs, h => by
    simp only [leavesB] at h
    split at h
    · rename_i h1 h2
      simp [sameB, h1, sameCs_refl, sameB_refl h2]
    · cases h

/-- Come to the head for the first time. -/
def enterV (tab : Tab) (an : LoopAnn) (st : St) (Z : El an.T → Prop) : Prop := match keepOk tab an.kp st, leaves an.kp st with
  | true, some cs => match unflat an.T cs with
    | some (y, []) => Z y
    | _ => False
  | _, _ => False

theorem enter_again {an : LoopAnn} {st : St} {Z : El an.T → Prop} (h : enterV tab an st Z) : again tab an st st Z := by
  unfold enterV at h
  split at h
  · rename_i cs hk hl
    have h1 : sameS an.kp st st an.kp.slots = true ∧ sameB st st an.kp.boxes = true := by
      unfold leaves at hl
      split at hl
      · rename_i ha hb; exact ⟨sameS_refl ha, sameB_refl hb⟩
      · cases hl
    unfold again
    rw [hk, h1.1, h1.2, hl]
    simp only [decide_true, Bool.and_true]
    split at h
    · exact ⟨trivial, h⟩
    · exact h.elim
  · exact h.elim

end Go.Proofs.Ytcbehcpmojnnfaa.Bv
