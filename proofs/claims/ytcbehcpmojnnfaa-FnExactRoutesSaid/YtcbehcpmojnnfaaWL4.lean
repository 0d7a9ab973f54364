/- The head of a loop: what is held as it is, what is named anew. -/
import Derived.Test.YtcbehcpmojnnfaaWL3
namespace Go.Proofs.Ytcbehcpmojnnfaa.Bv
set_option linter.unusedVariables false
set_option linter.unusedSimpArgs false

structure LoopAnn where
  kp : Keep
  T : Ty
  I : St → El T → Prop
  μ : St → El T → Nat

/-! Values out of a state, for what an invariant says. -/
def cellAt (st : St) (s i : Nat) : Option CellV := match st.get s with
  | .val _ cs => cs[i]?
  | .ptr cs => cs[i]?
  | _ => none
def boxCell (st : St) (k i : Nat) : Option CellV := match st.box k with
  | some cs => cs[i]?
  | none => none
def intC : Option CellV → Int
  | some (.int _ n) => n
  | _ => 0
def boolC : Option CellV → Bool
  | some (.bool b) => b
  | _ => false
def strC : Option CellV → List UInt8
  | some (.str s) => s
  | _ => []
def rowL (t : Ty) (st : St) (r : Nat) : List (El t) := match look r st.rows with
  | some (.hot _ t' l _ _ _) => if h : t' = t then castL h l else []
  | some (.frz _ t' l _ _) => if h : t' = t then castL h l else []
  | _ => []
def lstC (t : Ty) (st : St) : Option CellV → List (El t)
  | some (.lst t' l _) => if h : t' = t then castL h l else []
  | some (.own _ r) => rowL t st r
  | _ => []

/-- A cell that is named anew. -/
def leafB : CellV → Bool
  | .int .. => true
  | .bool _ => true
  | .str _ => true
  | .lst .. => true
  | _ => false

def leafCs : List CellV → List CellV
  | [] => []
  | c :: l => match leafB c with
    | true => c :: leafCs l
    | false => leafCs l

def leavesS (s : St) : List Nat → Option (List CellV)
  | [] => some []
  | i :: l => match s.get i, leavesS s l with
    | .val _ cs, some r => some (leafCs cs ++ r)
    | _, _ => none

def leavesB (s : St) : List Nat → Option (List CellV)
  | [] => some []
  | b :: l => match s.box b, leavesB s l with
    | some cs, some r => some (leafCs cs ++ r)
    | _, _ => none

def leavesR (s : St) : List KRow → Option (List CellV)
  | [] => some []
  | kr :: l => match look kr.k s.rows, leavesR s l with
    | some (.hot _ t l _ _ _), some r => some (.lst t l none :: r)
    | some (.cold _), some r => some r
    | _, _ => none

def leaves (kp : Keep) (s : St) : Option (List CellV) := match leavesS s kp.slots, leavesB s kp.boxes, leavesR s kp.rows with
  | some a, some b, some c => some (a ++ (b ++ c))
  | _, _, _ => none

def fillC1 : CellV → CellV → Option CellV
  | .int k _, .int k' n => if k = k' then some (.int k n) else none
  | .bool _, .bool b => some (.bool b)
  | .str _, .str s => some (.str s)
  | .lst t _ tag, .lst t' l _ => if t = t' then some (.lst t' l tag) else none
  | _, _ => none

def fillCs : List CellV → List CellV → Option (List CellV × List CellV)
  | [], cs => some ([], cs)
  | c :: sh, cs => match leafB c with
    | true => match cs with
      | v :: cs => match fillC1 c v, fillCs sh cs with
        | some c', some (r, cs') => some (c' :: r, cs')
        | _, _ => none
      | [] => none
    | false => match fillCs sh cs with
      | some (r, cs') => some (c :: r, cs')
      | none => none

def fillS (s0 : St) : List Nat → List CellV → Option (List (Nat × Sv) × List CellV)
  | [], cs => some ([], cs)
  | s :: l, cs => match s0.get s with
    | .val ag sh => match fillCs sh cs with
      | some (c, r) => match fillS s0 l r with
        | some (sl, r') => some ((s, .val ag c) :: sl, r')
        | none => none
      | none => none
    | _ => none

def fillB (s0 : St) : List Nat → List CellV → Option (List (Nat × List CellV) × List CellV)
  | [], cs => some ([], cs)
  | b :: l, cs => match s0.box b with
    | some sh => match fillCs sh cs with
      | some (c, r) => match fillB s0 l r with
        | some (sl, r') => some ((b, c) :: sl, r')
        | none => none
      | none => none
    | _ => none

def fillR (s0 : St) : List KRow → List CellV → Option (List (Nat × RowV) × List CellV)
  | [], cs => some ([], cs)
  | kr :: l, cs => match look kr.k s0.rows with
    | some (.hot e t _ ver hole z) => match cs with
      | .lst t' x _ :: cs => match decide (t' = t), fillR s0 l cs with
        | true, some (sl, r) => some ((kr.k, .hot e t' x ver hole z) :: sl, r)
        | _, _ => none
      | _ => none
    | some (.cold e) => match fillR s0 l cs with
      | some (sl, r) => some ((kr.k, .cold e) :: sl, r)
      | none => none
    | _ => none

def heldS (s : St) : List Nat → List (Nat × Sv)
  | [] => []
  | i :: l => (i, s.get i) :: heldS s l

def headSt (kp : Keep) (s0 : St) (cs : List CellV) : Option St := match fillS s0 kp.slots cs with
  | some (sl, r) => match fillB s0 kp.boxes r with
    | some (bx, r') => match fillR s0 kp.rows r' with
      | some (rw, []) => some { nt := s0.nt, slots := heldS s0 kp.hold ++ sl, boxes := bx, rows := rw }
      | _ => none
    | _ => none
  | none => none

def sameC : CellV → CellV → Bool
  | .int k _, .int k' _ => decide (k = k')
  | .bool _, .bool _ => true
  | .str _, .str _ => true
  | .lst t _ tag, .lst t' _ tag' => decide (t = t') && decide (tag = tag')
  | .own t r, .own t' r' => decide (t = t') && decide (r = r')
  | .sub t r lo hi, .sub t' r' lo' hi' => decide (t = t') && decide (r = r') && decide (lo = lo') && decide (hi = hi')
  | .emp t, .emp t' => decide (t = t')
  | .und, .und => true
  | _, _ => false

def sameCs : List CellV → List CellV → Bool
  | [], [] => true
  | a :: l, b :: r => sameC a b && sameCs l r
  | _, _ => false

def sameSv : Sv → Sv → Bool
  | .val ag cs, .val ag' cs' => decide (ag = ag') && sameCs cs cs'
  | _, _ => false

def sameS (s0 s : St) : List Nat → Bool
  | [] => true
  | i :: l => sameSv (s0.get i) (s.get i) && sameS s0 s l

def sameB (s0 s : St) : List Nat → Bool
  | [] => true
  | b :: l => (match s0.box b, s.box b with
    | some c, some c' => sameCs c c'
    | _, _ => false) && sameB s0 s l

def sameR (s0 s : St) : List KRow → Bool
  | [] => true
  | kr :: l => (match look kr.k s0.rows, look kr.k s.rows with
    | some (.hot e t _ ver hole z), some (.hot e' t' _ ver' hole' z') => decide (e = e') && decide (t = t') && decide (ver = ver') && decide (hole = hole') && decide (z = z')
    | some (.cold e), some (.cold e') => decide (e = e')
    | _, _ => false) && sameR s0 s l

/-- Back at the head; s0: what was kept when it was come to first. -/
def again (tab : Tab) (an : LoopAnn) (s0 st : St) (Z : El an.T → Prop) : Prop :=
  match keepOk tab an.kp st with
  | true =>
    let s := weaken an.kp st
    match decide (s0.nt = s.nt) && sameS s0 s an.kp.slots && sameB s0 s an.kp.boxes && sameR s0 s an.kp.rows, leaves an.kp s with
    | true, some cs => match unflat an.T cs with
      | some (y, []) => heldS s0 an.kp.hold = heldS s an.kp.hold ∧ Z y
      | _ => False
    | _, _ => False
  | false => False

/-- At the head. -/
def headV (an : LoopAnn) (s0 : St) (x : El an.T) (F : St → Prop) : Prop := match headSt an.kp s0 (flat an.T x) with
  | some st => F st
  | none => False

theorem fillC1_same {c d : CellV} (h : sameC c d = true) (hl : leafB d = true) : fillC1 c (unT d) = some d ∧ leafB c = true := by
  cases c <;> cases d <;> simp [sameC] at h <;> simp [leafB] at hl
  all_goals simp [fillC1, unT, h, leafB]

theorem same_other {c d : CellV} (h : sameC c d = true) (hl : leafB d = false) : c = d ∧ leafB c = false := by
  cases c <;> cases d <;> simp [sameC] at h <;> simp [leafB] at hl
  all_goals simp [h, leafB]

theorem fillCs_same : ∀ {sh ds : List CellV} (r : List CellV), sameCs sh ds = true → fillCs sh ((leafCs ds).map unT ++ r) = some (ds, r)
  | [], [], r, _ => rfl
  | c :: sh, [], r, h => by simp [sameCs] at h
  | [], d :: ds, r, h => by simp [sameCs] at h
  | c :: sh, d :: ds, r, h => by
    simp only [sameCs, Bool.and_eq_true] at h
    cases hl : leafB d with
    | true =>
      obtain ⟨h1, h2⟩ := fillC1_same h.1 hl
      simp only [leafCs, hl, List.map_cons, List.cons_append, fillCs, h2, h1, fillCs_same r h.2]
    | false =>
      obtain ⟨h1, h2⟩ := same_other h.1 hl
      simp only [leafCs, hl, fillCs, h2, fillCs_same r h.2, h1]

theorem fillS_same {s0 s : St} : ∀ {l : List Nat} {cs : List CellV} (r : List CellV), sameS s0 s l = true → leavesS s l = some cs → fillS s0 l (cs.map unT ++ r) = some (heldS s l, r)
  | [], cs, r, _, e => by simp only [leavesS, Option.some.injEq] at e; subst e; rfl
  | i :: l, cs, r, h, e => by
    simp only [sameS, Bool.and_eq_true] at h
    simp only [leavesS] at e
    split at e
    · rename_i ag c r' h1 h2
      cases e
      have hs := h.1
      rw [h1] at hs
      cases hw : s0.get i with
      | val ag' sh =>
        rw [hw] at hs
        simp only [sameSv, Bool.and_eq_true, decide_eq_true_eq] at hs
        obtain ⟨rfl, hs⟩ := hs
        simp only [fillS, hw, List.map_append, List.append_assoc, fillCs_same _ hs, fillS_same r h.2 h2, heldS, h1]
      | _ => rw [hw] at hs; simp [sameSv] at hs
    · cases e

def takeB (s : St) : List Nat → List (Nat × List CellV)
  | [] => []
  | b :: l => match s.box b with
    | some cs => (b, cs) :: takeB s l
    | none => takeB s l

theorem fillB_same {s0 s : St} : ∀ {l : List Nat} {cs : List CellV} (r : List CellV), sameB s0 s l = true → leavesB s l = some cs → fillB s0 l (cs.map unT ++ r) = some (takeB s l, r)
  | [], cs, r, _, e => by simp only [leavesB, Option.some.injEq] at e; subst e; rfl
  | b :: l, cs, r, h, e => by
    simp only [sameB, Bool.and_eq_true] at h
    simp only [leavesB] at e
    split at e
    · rename_i c r' h1 h2
      cases e
      have hs := h.1
      rw [h1] at hs
      cases hw : s0.box b with
      | some sh =>
        rw [hw] at hs
        simp only at hs
        simp only [fillB, hw, List.map_append, List.append_assoc, fillCs_same _ hs, fillB_same r h.2 h2, takeB, h1]
      | none => rw [hw] at hs; cases hs
    · cases e

def takeR (s : St) : List KRow → List (Nat × RowV)
  | [] => []
  | kr :: l => match look kr.k s.rows with
    | some rv => (kr.k, rv) :: takeR s l
    | none => takeR s l

theorem fillR_same {s0 s : St} : ∀ {l : List KRow} {cs : List CellV} (r : List CellV), sameR s0 s l = true → leavesR s l = some cs → fillR s0 l (cs.map unT ++ r) = some (takeR s l, r)
  | [], cs, r, _, e => by simp only [leavesR, Option.some.injEq] at e; subst e; rfl
  | kr :: l, cs, r, h, e => by
    simp only [sameR, Bool.and_eq_true] at h
    simp only [leavesR] at e
    split at e
    · rename_i e1 t x v ho z r' h1 h2
      cases e
      have hs := h.1
      rw [h1] at hs
      split at hs
      · rename_i e0 t0 x0 v0 ho0 z0 e' t' x' v' ho' z' h3 h4
        cases h4
        simp only [Bool.and_eq_true, decide_eq_true_eq] at hs
        obtain ⟨⟨⟨⟨q1, q2⟩, q3⟩, q4⟩, q5⟩ := hs
        subst q1; subst q2; subst q3; subst q4; subst q5
        simp only [List.map_cons, unT, List.cons_append, fillR, h3, decide_true, fillR_same r h.2 h2, takeR, h1]
      · rename_i h4; cases h4
      · cases hs
    · rename_i e1 r' h1 h2
      cases e
      have hs := h.1
      rw [h1] at hs
      split at hs
      · rename_i h4; cases h4
      · rename_i e0 e2 h3 h4
        simp only [Option.some.injEq, RowV.cold.injEq] at h4
        subst h4
        have hs := of_decide_eq_true hs
        subst hs
        simp only [fillR, h3, fillR_same r h.2 h2, takeR, h1]
      · cases hs
    · cases e

theorem look_heldS (s : St) (i : Nat) : ∀ l, look i (heldS s l) = if i ∈ l then some (s.get i) else none
  | [] => rfl
  | j :: l => by
    simp only [heldS, look_cons, look_heldS s i l, List.mem_cons]
    by_cases h : j = i
    · subst h; simp
    · simp [h, Ne.symm h]

theorem look_takeB (s : St) (k : Nat) : ∀ l, look k (takeB s l) = if k ∈ l then s.box k else none
  | [] => rfl
  | b :: l => by
    simp only [takeB]
    cases hb : s.box b with
    | none =>
      rw [look_takeB s k l]
      by_cases h : k = b
      · subst h; simp [hb]
      · simp [h]
    | some cs =>
      rw [look_cons, look_takeB s k l]
      by_cases h : b = k
      · subst h; simp [hb]
      · simp [h, Ne.symm h]

theorem look_takeR (s : St) (k : Nat) : ∀ (l : List KRow), look k (takeR s l) = if k ∈ l.map (·.k) then look k s.rows else none
  | [] => rfl
  | kr :: l => by
    simp only [takeR]
    cases hb : look kr.k s.rows with
    | none =>
      rw [look_takeR s k l]
      by_cases h : k = kr.k
      · subst h; simp [hb]
      · simp [h]
    | some cs =>
      rw [look_cons, look_takeR s k l]
      by_cases h : kr.k = k
      · subst h; simp [hb]
      · simp [h, Ne.symm h]

/-- The state at the head looks like what is left of the state that comes there. -/
theorem headSt_same {kp : Keep} {s0 st s : St} {cs : List CellV} (hs : s = weaken kp st) (hnt : s0.nt = s.nt) (h1 : sameS s0 s kp.slots = true) (h2 : sameB s0 s kp.boxes = true) (h3 : sameR s0 s kp.rows = true) (hc : leaves kp s = some cs)
    (hh : heldS s0 kp.hold = heldS s kp.hold) : ∃ s', headSt kp s0 (cs.map unT) = some s' ∧ Ext s s' := by
  unfold leaves at hc
  split at hc
  · rename_i ca cb cr ha hb hr
    cases hc
    have e3 := fillR_same [] h3 hr
    rw [List.append_nil] at e3
    refine ⟨{ nt := s0.nt, slots := heldS s0 kp.hold ++ heldS s kp.slots, boxes := takeB s kp.boxes, rows := takeR s kp.rows }, ?_, ?_⟩
    · unfold headSt
      rw [List.map_append, fillS_same _ h1 ha, List.map_append]
      simp only [fillB_same _ h2 hb, e3]
    · subst hs
      refine ⟨hnt.symm, fun i => ?_, fun k => ?_, fun r => ?_, fun i => Iff.rfl⟩
      · have e : (⟨s0.nt, heldS s0 kp.hold ++ heldS (weaken kp st) kp.slots, takeB (weaken kp st) kp.boxes, takeR (weaken kp st) kp.rows, []⟩ : St).get i = if i ∈ kp.hold ++ kp.slots then (weaken kp st).get i else .und := by
          simp only [St.get, hh, look_app, look_heldS, List.mem_append]
          by_cases m1 : i ∈ kp.hold
          · simp [m1]
          · by_cases m2 : i ∈ kp.slots
            · simp [m1, m2]
            · simp [m1, m2]
        rw [e]
        by_cases m : i ∈ kp.hold ++ kp.slots
        · rw [if_pos m]
        · rw [if_neg m]
          show (match look i (reSlots kp (rho (ready kp st) kp.rows) (ready kp st) (kp.hold ++ kp.slots)) with | some sv => sv | none => .und) = _
          rw [look_reSlots, if_neg m]
      · show look k (weaken kp st).boxes = look k (takeB (weaken kp st) kp.boxes)
        rw [look_takeB]
        split
        · rfl
        · rename_i m
          show look k (reBoxes kp _ _ kp.boxes) = _
          rw [look_reBoxes, if_neg m]
      · show look r (weaken kp st).rows = look r (takeR (weaken kp st) kp.rows)
        rw [look_takeR]
        split
        · rfl
        · rename_i m
          cases hl : look r (weaken kp st).rows with
          | none => rfl
          | some rv =>
            obtain ⟨kr, hm, e, _⟩ := reRows_mem hl
            exact absurd (List.mem_map.2 ⟨kr, hm, e⟩) m
  · cases hc

variable {P : Program} {base : World} {M0 : Mem} {ios : Ios} {σ : Sg} {M : Mem} {w : World} {a : Act} {st : St} {tab : Tab} {Γ : Gam}

theorem again_sound (hT : TabOk P tab) {an : LoopAnn} {s0 : St} {Z : El an.T → Prop} (h : again tab an s0 st Z) (hS : Sim P base M0 ios σ M w a st) :
    ∃ y s σ' M', Z y ∧ headSt an.kp s0 (flat an.T y) = some s ∧ Sim P base M0 ios σ' M' w a s := by
  unfold again at h
  split at h
  · rename_i hk
    simp only at h
    split at h
    · rename_i cs hb hl
      split at h
      · rename_i y hy
        simp only [Bool.and_eq_true, decide_eq_true_eq] at hb
        obtain ⟨⟨⟨hnt, h1⟩, h2⟩, h3⟩ := hb
        have hu := unflat_flat _ _ _ _ hy
        simp only [List.map_nil, List.append_nil] at hu
        obtain ⟨σ', M', hS'⟩ := hS.weaken hT hk
        obtain ⟨s', e1, e2⟩ := headSt_same rfl hnt h1 h2 h3 hl h.1
        exact ⟨y, s', σ', M', h.2, by rw [← hu]; exact e1, hS'.ext e2⟩
      · exact h.elim
    · exact h.elim
  · exact h.elim

/-- Come to the head for the first time. -/
def enterV (tab : Tab) (an : LoopAnn) (st : St) (Z : St → El an.T → Prop) : Prop := again tab an (weaken an.kp st) st (Z (weaken an.kp st))

end Go.Proofs.Ytcbehcpmojnnfaa.Bv
