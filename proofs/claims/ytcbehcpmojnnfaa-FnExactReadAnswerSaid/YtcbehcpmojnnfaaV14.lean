/- What is forgotten at a loop's head; what code comes to, by value. -/
import Derived.Test.YtcbehcpmojnnfaaV13
namespace Go.Proofs.Ytcbehcpmojnnfaa.Bv
set_option linter.unusedVariables false
set_option linter.unusedSimpArgs false

/-- What is kept at a loop's head: slots, variables, rows (slot, cell, new key, element type). -/
structure Keep where
  hold : List Nat := []
  slots : List Nat
  boxes : List Nat := []
  rows : List (Nat × Nat × Nat × TypeId) := []

def tagAt (st : St) (s i : Nat) : Option Nat := match st.get s with
  | .val _ cs => match cs[i]? with
    | some (.lst _ _ tag) => tag
    | _ => none
  | _ => none

/-- A kept row is nothing, or alive. -/
def aliveAt (st : St) (s i : Nat) (e : TypeId) : Bool := match tagAt st s i with
  | some r => r == 0 || (match st.row r with | some e' => e' == e | none => false)
  | none => false

def keyFor (rows : List (Nat × Nat × Nat × TypeId)) (s i : Nat) : Option Nat := match rows with
  | [] => none
  | (s', i', k, _) :: r => if s' = s ∧ i' = i then some k else keyFor r s i

def reC (rows : List (Nat × Nat × Nat × TypeId)) (s : Nat) : Nat → List CellV → List CellV
  | _, [] => []
  | i, .lst t l _ :: cs => .lst t l (keyFor rows s i) :: reC rows s (i + 1) cs
  | i, c :: cs => c :: reC rows s (i + 1) cs

def unC : List CellV → List CellV
  | [] => []
  | .lst t l _ :: cs => .lst t l none :: unC cs
  | c :: cs => c :: unC cs

def reS (kp : Keep) (st : St) (s : Nat) : Sv → Sv
  | .val ag cs => .val ag (reC kp.rows s 0 cs)
  | .box k off => if kp.boxes.contains k && (st.box k).isSome then .box k off else .und
  | .ptr cs => .ptr (unC cs)
  | .tup l => .und
  | sv => sv

def reSlots (kp : Keep) (st : St) : List Nat → List (Nat × Sv)
  | [] => []
  | s :: l => (s, reS kp st s (st.get s)) :: reSlots kp st l

def reBoxes (st : St) : List Nat → List (Nat × List CellV)
  | [] => []
  | b :: l => match st.box b with
    | some cs => (b, unC cs) :: reBoxes st l
    | none => reBoxes st l

def reRows : List (Nat × Nat × Nat × TypeId) → List (Nat × TypeId)
  | [] => []
  | (_, _, k, e) :: l => (k, e) :: reRows l

def weaken (kp : Keep) (st : St) : St := { nt := st.nt, slots := reSlots kp st (kp.hold ++ kp.slots), boxes := reBoxes st kp.boxes, rows := reRows kp.rows }

def notMem (k : Nat) : List Nat → Bool
  | [] => true
  | j :: l => !(j == k) && notMem k l

def nodupB : List Nat → Bool
  | [] => true
  | k :: l => notMem k l && nodupB l

def tagsOf (st : St) : List (Nat × Nat × Nat × TypeId) → List Nat
  | [] => []
  | (s, i, _, _) :: l => match tagAt st s i with
    | some 0 => tagsOf st l
    | some r => r :: tagsOf st l
    | none => tagsOf st l

def aliveAll (st : St) (tab : Tab) : List (Nat × Nat × Nat × TypeId) → Bool
  | [] => true
  | (s, i, k, e) :: l => aliveAt st s i e && !(k == 0) && (look e tab).isSome && aliveAll st tab l

def keepOk (tab : Tab) (kp : Keep) (st : St) : Bool := aliveAll st tab kp.rows && nodupB ((reRows kp.rows).map (·.1)) && nodupB (tagsOf st kp.rows)

/-! ### It is kept -/

variable {P : Program} {base : World} {M0 : Mem} {ios : List Nat} {σ : Sg} {M : Mem} {w : World} {a : Act} {st : St} {tab : Tab}

theorem notMem_iff {k : Nat} {l : List Nat} : notMem k l = true ↔ k ∉ l := by
  induction l with
  | nil => simp [notMem]
  | cons j l ih =>
    simp only [notMem, Bool.and_eq_true, ih, List.mem_cons, not_or, Bool.not_eq_true', beq_eq_false_iff_ne, ne_eq]
    exact ⟨fun h => ⟨fun e => h.1 e.symm, h.2⟩, fun h => ⟨fun e => h.1 e.symm, h.2⟩⟩

theorem look_reSlots (kp : Keep) (st : St) (i : Nat) : ∀ l, look i (reSlots kp st l) = if i ∈ l then some (reS kp st i (st.get i)) else none
  | [] => rfl
  | s :: l => by
    simp only [reSlots, look_cons, look_reSlots kp st i l, List.mem_cons]
    by_cases h : s = i
    · subst h; simp
    · simp [h, Ne.symm h]

theorem look_reBoxes (st : St) (k : Nat) : ∀ l, look k (reBoxes st l) = if k ∈ l then (st.box k).map unC else none
  | [] => rfl
  | b :: l => by
    simp only [reBoxes]
    cases hb : st.box b with
    | none =>
      rw [look_reBoxes st k l]
      by_cases h : k = b
      · subst h; simp [hb]
      · simp [h]
    | some cs =>
      rw [look_cons, look_reBoxes st k l]
      by_cases h : b = k
      · subst h; simp [hb]
      · simp [h, Ne.symm h]

theorem row_mem : ∀ {rows : List (Nat × Nat × Nat × TypeId)} {k : Nat} {e : TypeId}, look k (reRows rows) = some e → ∃ s i, (s, i, k, e) ∈ rows
  | [], k, e, h => by cases h
  | (s, i, k', e') :: l, k, e, h => by
    simp only [reRows, look_cons] at h
    split at h
    · rename_i hk; subst hk; cases h; exact ⟨s, i, by simp⟩
    · obtain ⟨s', i', hm⟩ := row_mem h; exact ⟨s', i', List.mem_cons_of_mem _ hm⟩

theorem alive_mem : ∀ {rows : List (Nat × Nat × Nat × TypeId)}, aliveAll st tab rows = true → ∀ {s i k e}, (s, i, k, e) ∈ rows → aliveAt st s i e = true ∧ k ≠ 0 ∧ (look e tab).isSome = true
  | [], _, s, i, k, e, hm => by cases hm
  | (s', i', k', e') :: l, h, s, i, k, e, hm => by
    simp only [aliveAll, Bool.and_eq_true] at h
    simp only [List.mem_cons] at hm
    rcases hm with hm | hm
    · cases hm; exact ⟨h.1.1.1, by simpa using h.1.1.2, h.1.2⟩
    · exact alive_mem h.2 hm

theorem key_mem : ∀ {rows : List (Nat × Nat × Nat × TypeId)} {s i k : Nat}, keyFor rows s i = some k → ∃ e, (s, i, k, e) ∈ rows
  | [], s, i, k, h => by cases h
  | (s', i', k', e') :: l, s, i, k, h => by
    simp only [keyFor] at h
    split at h
    · rename_i hc; cases h; obtain ⟨rfl, rfl⟩ := hc; exact ⟨e', by simp⟩
    · obtain ⟨e, hm⟩ := key_mem h; exact ⟨e, List.mem_cons_of_mem _ hm⟩

/-- Where a key comes from. -/
def srcOf : List (Nat × Nat × Nat × TypeId) → Nat → Option (Nat × Nat)
  | [], _ => none
  | (s, i, k', _) :: l, k => if k' = k then some (s, i) else srcOf l k

theorem src_of_mem : ∀ {rows : List (Nat × Nat × Nat × TypeId)}, nodupB ((reRows rows).map (·.1)) = true → ∀ {s i k e}, (s, i, k, e) ∈ rows → srcOf rows k = some (s, i) ∧ look k (reRows rows) = some e
  | [], _, s, i, k, e, hm => by cases hm
  | (s', i', k', e') :: l, h, s, i, k, e, hm => by
    simp only [reRows, List.map_cons, nodupB, Bool.and_eq_true] at h
    simp only [List.mem_cons] at hm
    rcases hm with hm | hm
    · cases hm; simp [srcOf, reRows, look_cons]
    · obtain ⟨h1, h2⟩ := src_of_mem h.2 hm
      have hne : k' ≠ k := by
        intro e2
        subst e2
        have := notMem_iff.1 h.1
        exact this (List.mem_map.2 ⟨(k', e), look_mem h2, rfl⟩)
      simp only [srcOf, reRows, look_cons, if_neg hne]
      exact ⟨h1, h2⟩

theorem tags_mem : ∀ {rows : List (Nat × Nat × Nat × TypeId)} {s i k e r}, (s, i, k, e) ∈ rows → tagAt st s i = some r → r ≠ 0 → r ∈ tagsOf st rows
  | [], s, i, k, e, r, hm, _, _ => by cases hm
  | (s', i', k', e') :: l, s, i, k, e, r, hm, ht, h0 => by
    simp only [List.mem_cons] at hm
    simp only [tagsOf]
    rcases hm with hm | hm
    · cases hm
      rw [ht]
      match r, h0 with
      | r + 1, _ => simp
    · have := tags_mem hm ht h0
      split
      · exact this
      · exact List.mem_cons_of_mem _ this
      · exact this

/-- Two keys of one row are one key. -/
theorem key_of_tag : ∀ {rows : List (Nat × Nat × Nat × TypeId)}, nodupB (tagsOf st rows) = true → ∀ {s i k e s' i' k' e' r}, (s, i, k, e) ∈ rows → (s', i', k', e') ∈ rows → tagAt st s i = some r → tagAt st s' i' = some r → r ≠ 0 → k = k'
  | [], _, _, _, _, _, _, _, _, _, _, hm, _, _, _, _ => by cases hm
  | (s0, i0, k0, e0) :: l, h, s, i, k, e, s', i', k', e', r, hm, hm', ht, ht', h0 => by
    simp only [List.mem_cons] at hm hm'
    rcases hm with hm | hm <;> rcases hm' with hm' | hm'
    · cases hm; cases hm'; rfl
    · cases hm
      simp only [tagsOf, ht] at h
      match r, h0, ht, ht', h with
      | r + 1, h0, ht, ht', h =>
        simp only [nodupB, Bool.and_eq_true] at h
        exact absurd (tags_mem hm' ht' (by omega)) (notMem_iff.1 h.1)
    · cases hm'
      simp only [tagsOf, ht'] at h
      match r, h0, ht, ht', h with
      | r + 1, h0, ht, ht', h =>
        simp only [nodupB, Bool.and_eq_true] at h
        exact absurd (tags_mem hm ht (by omega)) (notMem_iff.1 h.1)
    · refine key_of_tag (rows := l) ?_ hm hm' ht ht' h0
      simp only [tagsOf] at h
      split at h
      · exact h
      · simp only [nodupB, Bool.and_eq_true] at h; exact h.2
      · exact h

theorem unC_rep {rows : List (Nat × TypeId)} {σ' : Sg} {rows' : List (Nat × TypeId)} {vs : List Value} {cs : List CellV} (h : All2 (RdT σ rows M) vs cs) : All2 (RdT σ' rows' M) vs (unC cs) := by
  induction h with
  | nil => exact .nil
  | @cons v c vs cs hx hr ih =>
    cases c with
    | lst t l tag =>
      exact .cons ⟨hx.1, trivial⟩ ih
    | _ => exact .cons ⟨hx.1, trivial⟩ ih

theorem reC_rep {rows : List (Nat × TypeId)} {σ' : Sg} {rows' : List (Nat × TypeId)} {kr : List (Nat × Nat × Nat × TypeId)} {s : Nat} {vs : List Value} {cs : List CellV} (h : All2 (RdT σ rows M) vs cs) :
    ∀ (i : Nat), (∀ (j : Nat) (v : Value) k, vs[j]? = some v → keyFor kr s (i + j) = some k → k ≠ 0 ∧ σ'.row k = v) → All2 (RdT σ' rows' M) vs (reC kr s i cs) := by
  induction h with
  | nil => intro i _; exact .nil
  | @cons v c vs cs hx hr ih =>
    intro i hk
    have ih' := ih (i + 1) (fun j u k hu he => hk (j + 1) u k (by simpa using hu) (by rw [show i + (j + 1) = i + 1 + j by omega]; exact he))
    cases c with
    | lst t l tag =>
      simp only [reC]
      refine .cons ⟨hx.1, ?_⟩ ih'
      cases he : keyFor kr s i with
      | some k =>
        obtain ⟨h0, h1⟩ := hk 0 v k (by simp) (by simpa using he)
        simp only [tagOk, if_neg h0]
        intro _; exact h1.symm
      | none => trivial
    | _ => exact .cons ⟨hx.1, trivial⟩ ih'

theorem Sim.weaken (hT : TabOk P tab) (h : Sim P base M0 ios σ M w a st) {kp : Keep} (hk : keepOk tab kp st = true) : ∃ σ', Sim P base M0 ios σ' M w a (Bv.weaken kp st) := by
  unfold keepOk at hk
  rw [Bool.and_eq_true, Bool.and_eq_true] at hk
  obtain ⟨⟨hal, hnk⟩, hnt⟩ := hk
  -- the value that a key keeps
  let val : Nat → Nat → Value := fun s i => ((a.tmps.getD s undef).cells.toList.getD i undef)
  let σ' : Sg := { box := σ.box, row := fun k => match srcOf kp.rows k with | some (s, i) => val s i | none => σ.row k }
  have hσ : ∀ {s i k e}, (s, i, k, e) ∈ kp.rows → σ'.row k = val s i := fun hm => by
    have := (src_of_mem hnk hm).1
    show (match srcOf kp.rows _ with | some (s, i) => val s i | none => σ.row _) = _
    rw [this]
  -- what stands at a kept place
  have hplace : ∀ {s i k e}, (s, i, k, e) ∈ kp.rows → ∃ r, tagAt st s i = some r ∧ ((r = 0 ∧ val s i = .slice none 0 0) ∨ (r ≠ 0 ∧ st.row r = some e ∧ val s i = σ.row r)) := by
    intro s i k e hm
    have h1 := (alive_mem hal hm).1
    unfold aliveAt at h1
    cases ht : tagAt st s i with
    | none => rw [ht] at h1; cases h1
    | some r =>
      refine ⟨r, rfl, ?_⟩
      rw [ht] at h1
      simp only [Bool.or_eq_true, beq_iff_eq] at h1
      -- the cell
      unfold tagAt at ht
      have hs := h.slots s
      cases hg : st.get s with
      | val ag cs =>
        rw [hg] at ht hs
        simp only at ht
        cases hc : cs[i]? with
        | none => rw [hc] at ht; cases ht
        | some c =>
          rw [hc] at ht
          cases c with
          | lst t l tag =>
            simp only at ht
            subst ht
            obtain ⟨v, hv, hr⟩ := hs.1.get hc
            have hval : val s i = v := by
              show ((a.tmps.getD s undef).cells.toList.getD i undef) = v
              rw [List.getD_eq_getElem?_getD, hv]; rfl
            have htag := hr.2
            rcases Nat.eq_zero_or_pos r with h0 | h0
            · subst h0
              left; refine ⟨rfl, ?_⟩
              rw [hval]; simpa [tagOk] using htag
            · right
              have hre : st.row r = some e := by
                rcases h1 with h1 | h1
                · omega
                · split at h1
                  · rename_i e' he; rw [he]; simpa using h1
                  · cases h1
              refine ⟨by omega, hre, ?_⟩
              rw [hval]
              simp only [tagOk, if_neg (by omega : ¬ r = 0)] at htag
              exact htag (by show (st.row r).isSome = true; rw [hre]; rfl)
          | _ => simp at ht
      | _ => rw [hg] at ht; simp at ht
  have hbox : ∀ k, ((Bv.weaken kp st).box k).isSome = true → (st.box k).isSome = true := by
    intro k hs
    show (st.box k).isSome = true
    have : look k (reBoxes st kp.boxes) = if k ∈ kp.boxes then (st.box k).map unC else none := look_reBoxes st k kp.boxes
    simp only [St.box, Bv.weaken] at hs
    rw [this] at hs
    split at hs
    · simpa using hs
    · simp at hs
  have hrow : ∀ k e, (Bv.weaken kp st).row k = some e → ∃ s i, (s, i, k, e) ∈ kp.rows := fun k e hr => row_mem hr
  refine ⟨σ', ?_⟩
  exact {
    mem := h.mem
    nt := h.nt
    slots := fun i => by
      show RepSv σ' _ _ M _ ((Bv.weaken kp st).get i)
      have hget : (Bv.weaken kp st).get i = if i ∈ kp.hold ++ kp.slots then reS kp st i (st.get i) else .und := by
        simp only [St.get, Bv.weaken, look_reSlots]
        split
        · rename_i sv hs
          split at hs
          · rename_i hm; rw [if_pos hm]; cases hs; rfl
          · cases hs
        · rename_i hs
          split at hs
          · cases hs
          · rename_i hm; rw [if_neg hm]
      rw [hget]
      split
      · have hs := h.slots i
        cases hg : st.get i with
        | und => trivial
        | nil => rw [hg] at hs; exact hs
        | tup l => trivial
        | fn f caps => rw [hg] at hs; exact hs
        | ptr cs =>
          rw [hg] at hs
          obtain ⟨ad, hv, hc⟩ := hs
          obtain ⟨vs, h1, h2⟩ := ptr_cells (σ := σ) (rows := st.rows) (ad := ad) (cs := cs) (o := 0) (by simpa using hc)
          refine ⟨ad, hv, fun j c hj => ?_⟩
          obtain ⟨u, hu, hr⟩ := (unC_rep (σ' := σ') (rows' := (Bv.weaken kp st).rows) h1).get hj
          exact ⟨u, by simpa using h2 j u hu, hr⟩
        | box k off =>
          rw [hg] at hs
          simp only [reS]
          split
          · rename_i hc
            rw [Bool.and_eq_true] at hc
            refine ⟨hs.1, ?_⟩
            show (look k (reBoxes st kp.boxes)).isSome = true
            rw [look_reBoxes, if_pos (by simpa using hc.1)]
            simpa using hc.2
          · trivial
        | val ag cs =>
          rw [hg] at hs
          refine ⟨reC_rep (σ' := σ') hs.1 0 (fun j v k hv hkf => ?_), hs.2⟩
          rw [Nat.zero_add] at hkf
          obtain ⟨e, hm⟩ := key_mem hkf
          refine ⟨(alive_mem hal hm).2.1, ?_⟩
          rw [hσ hm]
          show ((a.tmps.getD i undef).cells.toList.getD j undef) = v
          rw [List.getD_eq_getElem?_getD, hv]; rfl
      · trivial
    boxes := fun k cs hk => by
      have e : (Bv.weaken kp st).box k = if k ∈ kp.boxes then (st.box k).map unC else none := look_reBoxes st k kp.boxes
      rw [e] at hk
      split at hk
      · cases hb : st.box k with
        | none => rw [hb] at hk; cases hk
        | some cs' =>
          rw [hb] at hk
          cases hk
          obtain ⟨arr, E, h1, h2⟩ := h.boxes k cs' hb
          exact ⟨arr, E, h1, unC_rep h2⟩
      · cases hk
    boxM := fun k hk => h.boxM k (hbox k hk)
    boxInj := fun k k' h1 h2 => h.boxInj k k' (hbox k h1) (hbox k' h2)
    boxBase := fun k hk => h.boxBase k (hbox k hk)
    rows := fun k e hr => by
      obtain ⟨s, i, hm⟩ := hrow k e hr
      rw [hσ hm]
      obtain ⟨r, _, hv⟩ := hplace hm
      rcases hv with ⟨_, hv⟩ | ⟨h0, hre, hv⟩
      · rw [hv]
        obtain ⟨te, hte⟩ := Option.isSome_iff_exists.1 (alive_mem hal hm).2.2
        obtain ⟨inf, z, hi, _⟩ := (hT e te hte).info
        exact ⟨⟨0, [], inf, hi, World.ownsRow_nil _ _ _ _, fun g hg => by cases hg⟩⟩
      · rw [hv]; exact h.rows r e hre
    rowBox := fun k b hr hb => by
      obtain ⟨e, he⟩ := Option.isSome_iff_exists.1 hr
      obtain ⟨s, i, hm⟩ := hrow k e he
      rw [hσ hm]
      obtain ⟨r, _, hv⟩ := hplace hm
      rcases hv with ⟨_, hv⟩ | ⟨h0, hre, hv⟩
      · rw [hv]; intro h2; cases h2
      · rw [hv]; exact h.rowBox r b (by rw [hre]; rfl) (hbox b hb)
    rowInj := fun k k' h1 h2 hne => by
      obtain ⟨e, he⟩ := Option.isSome_iff_exists.1 h1
      obtain ⟨e', he'⟩ := Option.isSome_iff_exists.1 h2
      obtain ⟨s, i, hm⟩ := hrow k e he
      obtain ⟨s', i', hm'⟩ := hrow k' e' he'
      rw [hσ hm, hσ hm']
      obtain ⟨r, ht, hv⟩ := hplace hm
      obtain ⟨r', ht', hv'⟩ := hplace hm'
      rcases hv with ⟨_, hv⟩ | ⟨h0, hre, hv⟩
      · rw [hv]; exact .inl rfl
      · rcases hv' with ⟨_, hv'⟩ | ⟨h0', hre', hv'⟩
        · rw [hv, hv']
          cases hb : (σ.row r).ownBlock with
          | none => exact .inl rfl
          | some g => right; intro h3; cases h3
        · rw [hv, hv']
          refine h.rowInj r r' (by rw [hre]; rfl) (by rw [hre']; rfl) ?_
          intro e2
          subst e2
          exact hne (key_of_tag hnt hm hm' ht ht' h0)
    fr := h.fr
    defers := h.defers
    old := h.old
    le := h.le
    pin := h.pin }

end Go.Proofs.Ytcbehcpmojnnfaa.Bv
