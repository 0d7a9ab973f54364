/- A region that may run in any order, by value: what is looked at beforehand; the proof. -/
import Derived.Test.YtcbehcpmojnnfaaWR2
namespace Go.Proofs.Ytcbehcpmojnnfaa.Bv
set_option linter.unusedVariables false
set_option linter.unusedSimpArgs false

variable {P : Program} {base : World} {M0 : Mem} {ios : Ios} {σ : Sg} {M : Mem} {w : World} {a : Act} {st : St} {tab : Tab} {Γ : Gam}

/-! ### What must go before -/

def ancM (ms : List Nat) : List Edge → Nat
  | [] => 0
  | e :: r => match Region.binds .any e with
    | true => (2 ^ e.on ||| ms.getD e.on 0) ||| ancM ms r
    | false => ancM ms r

def masks : List Oper → List Nat → List Nat
  | [], ms => ms
  | o :: l, ms => masks l (ms ++ [ancM ms o.after.toList])

theorem ancM_bit {ms : List Nat} {i : Nat} : ∀ {es : List Edge}, (ancM ms es).testBit i = true → ∃ e ∈ es, Region.binds .any e = true ∧ (e.on = i ∨ (ms.getD e.on 0).testBit i = true)
  | [], h => by simp [ancM] at h
  | e :: r, h => by
    simp only [ancM] at h
    split at h
    · rename_i hb
      simp only [Nat.testBit_or, Bool.or_eq_true, Nat.testBit_two_pow, decide_eq_true_eq] at h
      rcases h with h | h
      · exact ⟨e, by simp, hb, h⟩
      · obtain ⟨e', h1, h2, h3⟩ := ancM_bit h; exact ⟨e', List.mem_cons_of_mem _ h1, h2, h3⟩
    · obtain ⟨e', h1, h2, h3⟩ := ancM_bit h; exact ⟨e', List.mem_cons_of_mem _ h1, h2, h3⟩

def backB (j : Nat) : List Edge → Bool
  | [] => true
  | e :: r => (match Region.binds .any e with | true => decide (e.on < j) | false => true) && backB j r

theorem backB_spec {j : Nat} : ∀ {es : List Edge}, backB j es = true → ∀ e ∈ es, Region.binds .any e = true → e.on < j
  | [], _, e, he, _ => by cases he
  | e :: r, h, e', he, hb => by
    simp only [backB, Bool.and_eq_true] at h
    rcases List.mem_cons.1 he with h1 | h1
    · subst h1; rw [hb] at h; simpa using h.1
    · exact backB_spec h.2 e' h1 hb

/-! ### What touches what -/

def dstL (o : Oper) : List Nat := match o.dst with
  | some d => [d]
  | none => []

theorem dstL_mem {o : Oper} {d : Nat} (h : o.dst = some d) : d ∈ dstL o := by simp [dstL, h]

def clearB (S B R : List Nat) (o : Oper) (x : Option Eff) : Bool := noneIn (dstL o) S && noneIn (tB o x) B && noneIn (tR x) R

theorem clearB_spec {S B R : List Nat} {o : Oper} {x : Option Eff} (h : clearB S B R o x = true) : Clear S B R o x := by
  simp only [clearB, Bool.and_eq_true] at h
  exact ⟨fun d hd => noneIn_spec h.1.1 d (dstL_mem hd), noneIn_spec h.1.2, noneIn_spec h.2⟩

def apartB (o : Oper) (x : Option Eff) (o' : Oper) (x' : Option Eff) : Bool := noneIn (dstL o) (dstL o') && noneIn (tB o x) (tB o' x') && noneIn (tR x) (tR x')

theorem apartB_spec {o o' : Oper} {x x' : Option Eff} (h : apartB o x o' x' = true) : Apart o x o' x' := by
  simp only [apartB, Bool.and_eq_true] at h
  exact ⟨fun d hd e => noneIn_spec h.1.1 d (dstL_mem hd) (dstL_mem e), noneIn_spec h.1.2, noneIn_spec h.2⟩

/-! ### Nobody bears a key -/

def dropK : Option Eff → Option Eff
  | some e => some { e with krow := [] }
  | none => none

def dropAll : List (Oper × Option Eff) → List (Oper × Option Eff)
  | [] => []
  | (o, x) :: l => (o, dropK x) :: dropAll l

structure Sub (s s' : St) : Prop where
  slots : ∀ p ∈ s.slots, p ∈ s'.slots
  boxes : ∀ p ∈ s.boxes, p ∈ s'.boxes
  rows : ∀ p ∈ s.rows, p ∈ s'.rows

theorem noBoxSlots_iff {k : Nat} : ∀ {l : List (Nat × Sv)}, noBoxSlots k l = true ↔ ∀ p ∈ l, noBoxS k p.2 = true
  | [] => by simp [noBoxSlots]
  | p :: l => by simp [noBoxSlots, noBoxSlots_iff (l := l)]
theorem noTagSlots_iff {k : Nat} : ∀ {l : List (Nat × Sv)}, noTagSlots k l = true ↔ ∀ p ∈ l, noTagS k p.2 = true
  | [] => by simp [noTagSlots]
  | p :: l => by simp [noTagSlots, noTagSlots_iff (l := l)]
theorem noTagBoxes_iff {k : Nat} : ∀ {l : List (Nat × List CellV)}, noTagBoxes k l = true ↔ ∀ p ∈ l, noTagC k p.2 = true
  | [] => by simp [noTagBoxes]
  | p :: l => by simp [noTagBoxes, noTagBoxes_iff (l := l)]

theorem noVerSlots_iff {r ver : Nat} : ∀ {l : List (Nat × Sv)}, noVerSlots r ver l = true ↔ ∀ p ∈ l, noVerS r ver p.2 = true
  | [] => by simp [noVerSlots]
  | p :: l => by simp [noVerSlots, noVerSlots_iff (l := l)]
theorem noVerBoxes_iff {r ver : Nat} : ∀ {l : List (Nat × List CellV)}, noVerBoxes r ver l = true ↔ ∀ p ∈ l, noVerC r ver p.2 = true
  | [] => by simp [noVerBoxes]
  | p :: l => by simp [noVerBoxes, noVerBoxes_iff (l := l)]

theorem Sub.noVers {s s' : St} (h : Sub s s') : ∀ {l : List (Nat × RowV)}, noVers s' l = true → noVers s l = true
  | [], _ => rfl
  | (r, .hot _ _ _ ver _ _) :: l, hn => by
    simp only [Bv.noVers, Bool.and_eq_true] at hn ⊢
    exact ⟨⟨noVerSlots_iff.2 fun p hp => noVerSlots_iff.1 hn.1.1 p (h.slots p hp), noVerBoxes_iff.2 fun p hp => noVerBoxes_iff.1 hn.1.2 p (h.boxes p hp)⟩, h.noVers hn.2⟩
  | (r, .cold _) :: l, hn => by simp only [Bv.noVers] at hn ⊢; exact h.noVers hn
  | (r, .frz _ _ _ _ _) :: l, hn => by simp only [Bv.noVers] at hn ⊢; exact h.noVers hn

theorem Sub.noTag {s s' : St} (h : Sub s s') {r : Nat} (hn : noTag r s' = true) : noTag r s = true := by
  unfold Bv.noTag at hn ⊢
  simp only [Bool.and_eq_true, Bool.not_eq_true'] at hn ⊢
  refine ⟨⟨noTagSlots_iff.2 fun p hp => noTagSlots_iff.1 hn.1.1 p (h.slots p hp), noTagBoxes_iff.2 fun p hp => noTagBoxes_iff.1 hn.1.2 p (h.boxes p hp)⟩, ?_⟩
  cases hs : (look r s.rows).isSome with
  | false => rfl
  | true =>
    obtain ⟨x, hx⟩ := look_in.1 hs
    have : (look r s'.rows).isSome = true := look_in.2 ⟨x, h.rows _ hx⟩
    rw [this] at hn; exact absurd hn.2 (by simp)

theorem Sub.noTags {s s' : St} (h : Sub s s') : ∀ {l : List (Nat × RowV)}, noTags s' l = true → noTags s l = true
  | [], _ => rfl
  | p :: l, hn => by
    simp only [Bv.noTags, Bool.and_eq_true] at hn ⊢
    exact ⟨h.noTag hn.1, h.noTags hn.2⟩

theorem Sub.fresh {s s' : St} (h : Sub s s') {e : Eff} {d : Option Nat} (hf : freshEff e d s' = true) : freshEff e d s = true := by
  unfold freshEff at hf ⊢
  simp only [Bool.and_eq_true] at hf ⊢
  refine ⟨⟨⟨?_, h.noTags hf.1.1.2⟩, h.noVers hf.1.2⟩, hf.2⟩
  have h1 := hf.1.1.1
  split at h1
  · exact noBoxSlots_iff.2 fun p hp => noBoxSlots_iff.1 h1 p (h.slots p hp)
  · rfl

theorem rowsOf_sub {e : Eff} {rows rows' : List (Nat × RowV)} (h : ∀ p ∈ rows, p ∈ rows') : ∀ p ∈ e.rowsOf rows, p ∈ ({ e with krow := [] } : Eff).rowsOf rows' := fun p hp => by
  rw [rowsOf_eq] at hp ⊢
  rcases List.mem_append.1 hp with h1 | h1
  · exact List.mem_append.2 (.inl h1)
  · refine List.mem_append.2 (.inr ?_)
    have h2 := (List.mem_filter.1 h1).1
    refine List.mem_filter.2 ⟨?_, rfl⟩
    rcases List.mem_append.1 h2 with h3 | h3
    · exact List.mem_append.2 (.inl h3)
    · exact List.mem_append.2 (.inr (h p h3))

theorem rowsOf_keep {e : Eff} {rows : List (Nat × RowV)} : ∀ p ∈ rows, p ∈ ({ e with krow := [] } : Eff).rowsOf rows := fun p hp => by
  rw [rowsOf_eq]
  exact List.mem_append.2 (.inr (List.mem_filter.2 ⟨List.mem_append.2 (.inr hp), rfl⟩))

theorem Sub.both {s s' : St} (h : Sub s s') (o : Oper) (x : Option Eff) : Sub (applyO o x s) (applyO o (dropK x) s') := by
  cases x with
  | none =>
    simp only [applyO, dropK, skipSt]
    cases o.dst with
    | none => exact h
    | some d =>
      refine ⟨fun p hp => ?_, h.boxes, h.rows⟩
      rcases List.mem_cons.1 hp with e | e
      · exact e ▸ List.mem_cons_self
      · exact List.mem_cons_of_mem _ (h.slots p e)
  | some e =>
    simp only [applyO, dropK, Eff.apply]
    refine ⟨?_, ?_, ?_⟩
    · intro p hp
      cases hd : o.dst with
      | none => rw [hd] at hp; exact h.slots p hp
      | some d =>
        rw [hd] at hp
        rcases List.mem_cons.1 hp with e2 | e2
        · exact e2 ▸ List.mem_cons_self
        · exact List.mem_cons_of_mem _ (h.slots p e2)
    · intro p hp
      simp only at hp ⊢
      cases hs : e.sbox <;> cases hd : o.dst <;> cases hn : e.nbox <;> simp only [hs, hd, hn, List.mem_cons] at hp ⊢
      all_goals first
        | exact h.boxes p hp
        | (rcases hp with e2 | e2
           · exact .inl e2
           · first
             | exact .inr (h.boxes p e2)
             | (rcases e2 with e3 | e3
                · exact .inr (.inl e3)
                · exact .inr (.inr (h.boxes p e3))))
    · exact rowsOf_sub h.rows

theorem Sub.right {s s' : St} (h : Sub s s') (o : Oper) (x : Option Eff) : Sub s (applyO o (dropK x) s') := by
  cases x with
  | none =>
    simp only [applyO, dropK, skipSt]
    cases o.dst with
    | none => exact h
    | some d => exact ⟨fun p hp => List.mem_cons_of_mem _ (h.slots p hp), h.boxes, h.rows⟩
  | some e =>
    simp only [applyO, dropK, Eff.apply]
    refine ⟨?_, ?_, ?_⟩
    · intro p hp
      cases hd : o.dst with
      | none => exact h.slots p hp
      | some d => exact List.mem_cons_of_mem _ (h.slots p hp)
    · intro p hp
      have := h.boxes p hp
      cases hs : e.sbox <;> cases hd : o.dst <;> cases hn : e.nbox <;> simp [this]
    · exact fun p hp => rowsOf_keep p (h.rows p hp)

theorem Sub.mix {L L' : Nat → Bool} (hL : ∀ i, L i = true → L' i = true) : ∀ {l : List (Oper × Option Eff)} {k : Nat} {s s' : St}, Sub s s' → Sub (mixI L k l s) (mixI L' k (dropAll l) s')
  | [], _, _, _, h => h
  | (o, x) :: l, k, s, s', h => by
    simp only [mixI, dropAll]
    refine Sub.mix hL ?_
    cases h1 : L k
    · cases h2 : L' k
      · exact h
      · exact h.right o x
    · rw [hL k h1]; exact h.both o x

/-! ### The look beforehand -/

def pairOk (ms : List Nat) (zl : List (Oper × Option Eff)) (S B R : List Nat) (o : Oper) (x : Option Eff) (j : Nat) : Nat → Bool
  | 0 => true
  | i + 1 => (i == j || (ms.getD j 0).testBit i || (ms.getD i 0).testBit j || (match zl[i]? with
      | some (o', x') => clearB S B R o' x' && apartB o x o' x'
      | none => false)) && pairOk ms zl S B R o x j i

theorem pairOk_spec {ms : List Nat} {zl : List (Oper × Option Eff)} {S B R : List Nat} {o : Oper} {x : Option Eff} {j : Nat} : ∀ {n : Nat}, pairOk ms zl S B R o x j n = true →
    ∀ i < n, i ≠ j → (ms.getD j 0).testBit i = false → (ms.getD i 0).testBit j = false → ∀ o' x', zl[i]? = some (o', x') → Clear S B R o' x' ∧ Apart o x o' x'
  | 0, _, i, hi, _, _, _, _, _, _ => by omega
  | n + 1, h, i, hi, hne, h1, h2, o', x', hz => by
    simp only [pairOk, Bool.and_eq_true, Bool.or_eq_true, beq_iff_eq] at h
    by_cases he : i = n
    · subst he
      rcases h.1 with ((h3 | h3) | h3) | h3
      · exact absurd h3 hne
      · rw [h1] at h3; cases h3
      · rw [h2] at h3; cases h3
      · rw [hz] at h3
        simp only [Bool.and_eq_true] at h3
        exact ⟨clearB_spec h3.1, apartB_spec h3.2⟩
    · exact pairOk_spec h.2 i (by omega) hne h1 h2 o' x' hz

def lookB (s : St) (o : Oper) : List Nat := opsB s o.op.operands.toList
def lookR (s : St) (o : Oper) : List Nat := opsR s o.op.operands.toList
def lookS (all : List Oper) (o : Oper) : List Nat := tmpsOf o.op.operands.toList ++ guardS all o

def oneOk (all : List Oper) (ms : List Nat) (zl : List (Oper × Option Eff)) (s0 : St) (j : Nat) (o : Oper) (x : Option Eff) : Bool :=
  backB j o.after.toList && (ms.getD j 0 == ancM ms o.after.toList) && decide (ms.getD j 0 < 2 ^ j) &&
  pairOk ms zl (lookS all o) (lookB (runAll (zl.take j) s0) o) (lookR (runAll (zl.take j) s0) o) o x j zl.length &&
  (match x with | some e => freshEff e o.dst (mixI (fun i => !(i == j || (ms.getD i 0).testBit j)) 0 (dropAll zl) s0) | none => true)

def allOk (all : List Oper) (ms : List Nat) (zl : List (Oper × Option Eff)) (s0 : St) : Nat → List (Oper × Option Eff) → Bool
  | _, [] => true
  | j, (o, x) :: l => oneOk all ms zl s0 j o x && allOk all ms zl s0 (j + 1) l

theorem allOk_spec {all : List Oper} {ms : List Nat} {zl : List (Oper × Option Eff)} {s0 : St} : ∀ {l : List (Oper × Option Eff)} {k : Nat}, allOk all ms zl s0 k l = true → ∀ j o x, l[j]? = some (o, x) → oneOk all ms zl s0 (k + j) o x = true
  | [], _, _, j, o, x, hj => by simp at hj
  | (o, x) :: l, k, h, j, o', x', hj => by
    simp only [allOk, Bool.and_eq_true] at h
    cases j with
    | zero => simp at hj; obtain ⟨rfl, rfl⟩ := hj; exact h.1
    | succ j => rw [show k + (j + 1) = k + 1 + j by omega]; exact allOk_spec h.2 j o' x' (by simpa using hj)

def mixOk (all : List Oper) (outs : List (Option Eff)) (s0 : St) : Bool := allOk all (masks all []) (all.zip outs) s0 0 (all.zip outs)

end Go.Proofs.Ytcbehcpmojnnfaa.Bv
