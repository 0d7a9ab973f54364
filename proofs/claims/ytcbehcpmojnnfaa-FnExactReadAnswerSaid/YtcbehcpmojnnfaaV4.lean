/- How a local state by value is kept by what an operation does to memory. -/
import Derived.Test.YtcbehcpmojnnfaaV3
namespace Go.Proofs.Ytcbehcpmojnnfaa.Bv
set_option linter.unusedVariables false
set_option linter.unusedSimpArgs false

variable {P : Program} {base : World} {M0 : Mem} {ios : List Nat} {σ : Sg} {M : Mem} {w : World} {a : Act} {st : St}

theorem getD_put (a : Act) (d : Nat) (v : Value) (i : Nat) (hd : d < a.tmps.size) : (a.put (some d) v).tmps.getD i undef = if i = d then v else a.tmps.getD i undef := by
  simp only [Act.put, Array.getD_eq_getD_getElem?, Array.getElem?_setIfInBounds]
  by_cases h : d = i
  · subst h; simp [hd]
  · simp [h, Ne.symm h]

theorem look_cons {α : Type} (k j : Nat) (x : α) (r : List (Nat × α)) : look k ((j, x) :: r) = if j = k then some x else look k r := rfl

theorem get_put (st : St) (d : Nat) (sv : Sv) (i : Nat) : (st.put d sv).get i = if i = d then sv else st.get i := by
  simp only [St.get, St.put, look_cons]
  by_cases h : d = i
  · subst h; simp
  · simp only [if_neg h, if_neg (Ne.symm h)]

theorem Sim.put (h : Sim P base M0 ios σ M w a st) {d : Nat} {v : Value} {sv : Sv} (hd : d < st.nt) (hv : RepSv σ st.rows st.boxes M v sv) :
    Sim P base M0 ios σ M w (a.put (some d) v) (st.put d sv) where
  mem := h.mem
  nt := by simp [Act.put, St.put]; exact h.nt
  slots := fun i => by
    rw [getD_put a d v i (by rw [h.nt]; exact hd), get_put]
    split
    · exact hv
    · exact h.slots i
  boxes := h.boxes
  boxM := h.boxM
  boxInj := h.boxInj
  boxBase := h.boxBase
  rows := h.rows
  rowBox := h.rowBox
  rowInj := h.rowInj
  fr := h.fr
  defers := by simp [Act.put]; exact h.defers
  old := h.old
  le := h.le
  pin := h.pin

theorem cell_heap {w w' : World} (h : w'.heap = w.heap) (ad : Addr) : w'.cell? ad = w.cell? ad := by simp [World.cell?, h]

theorem ownsRow_heap {w w' : World} (h : w'.heap = w.heap) {b : Nat} {e : TypeId} {s : Nat} {v : Value} {n : Nat} {xs : List Value} (ho : w.ownsRow b e s v n xs) : w'.ownsRow b e s v n xs := by
  unfold World.ownsRow at *; rw [h]; exact ho

theorem Sim.sameHeap (h : Sim P base M0 ios σ M w a st) {w' : World} (hh : w'.heap = w.heap) (ho : w'.os = w.os) (ht : w'.tape = w.tape) (hu : w'.output = w.output) : Sim P base M0 ios σ M w' a st where
  mem := fun ad v hv => by rw [cell_heap hh]; exact h.mem ad v hv
  nt := h.nt
  slots := h.slots
  boxes := fun k cs hk => by rw [hh]; exact h.boxes k cs hk
  boxM := h.boxM
  boxInj := h.boxInj
  boxBase := h.boxBase
  rows := fun r e hr => by
    obtain ⟨n, xs, i, hi, ho', hm⟩ := (h.rows r e hr).own
    exact ⟨⟨n, xs, i, hi, ownsRow_heap hh ho', hm⟩⟩
  rowBox := h.rowBox
  rowInj := h.rowInj
  fr := h.fr.trans ⟨ho, ht, hu, by rw [hh]; exact Nat.le_refl _, fun k _ _ => by rw [hh]⟩
  defers := h.defers
  old := h.old
  le := h.le
  pin := h.pin

theorem Sim.drew (h : Sim P base M0 ios σ M w a st) : Sim P base M0 ios σ M { w with drawn := w.drawn + 1 } a st := h.sameHeap rfl rfl rfl rfl

theorem Sim.mem_lt (h : Sim P base M0 ios σ M w a st) {ad : Addr} {v : Value} (hv : M ad = some v) : ad.block < w.heap.size :=
  World.block_lt_of_cell? w ad (h.mem ad v hv)

theorem Sim.box_lt (h : Sim P base M0 ios σ M w a st) {k : Nat} (hk : (st.box k).isSome = true) : σ.box k < w.heap.size := by
  obtain ⟨cs, hcs⟩ := Option.isSome_iff_exists.1 hk
  obtain ⟨arr, E, he, _⟩ := h.boxes k cs hcs
  exact (Array.getElem?_eq_some_iff.1 he).1

theorem Sim.row_lt (h : Sim P base M0 ios σ M w a st) {r : Nat} (hr : (st.row r).isSome = true) {g : Nat} (hg : (σ.row r).ownBlock = some g) : base.heap.size ≤ g ∧ g < w.heap.size := by
  obtain ⟨e, he⟩ := Option.isSome_iff_exists.1 hr
  obtain ⟨n, xs, i, _, ho, _⟩ := (h.rows r e he).own
  exact ho.lt g hg

theorem cell_alloc_lt {w : World} {o : Obj} {ad : Addr} (h : ad.block < w.heap.size) : (w.alloc o).cell? ad = w.cell? ad := World.cell?_alloc_lt w o ad h

theorem box_slot {k : Nat} (hnb : noBox k st = true) {i k' off : Nat} (hs : st.get i = .box k' off) : k' ≠ k := by
  rcases get_mem (st := st) (i := i) with h | h
  · rw [hs] at h; cases h
  · have := noBoxSlots_mem hnb h
    rw [hs] at this
    simpa [noBoxS] using this

/-- A new variable. -/
theorem Sim.allocBox (h : Sim P base M0 ios σ M w a st) {d : Nat} (hd0 : d ≠ 0) (hnb : noBox d st = true) {arr : Array Value} {E : TypeId} {cs : List CellV} (hcs : All2 (RdT σ st.rows M) arr.toList cs) :
    Sim P base M0 ios { σ with box := fun k => if k = d then w.heap.size else σ.box k } M (w.alloc (.cells arr E)) a { st with boxes := (d, cs) :: st.boxes } where
  mem := fun ad v hv => by rw [cell_alloc_lt (h.mem_lt hv)]; exact h.mem ad v hv
  nt := h.nt
  slots := fun i => by
    have hs := h.slots i
    show RepSv _ st.rows ((d, cs) :: st.boxes) M _ (st.get i)
    refine RepSv.carry (σ := σ) (boxes := st.boxes) (σ' := { σ with box := fun k => if k = d then w.heap.size else σ.box k }) (ok := fun _ => True) ⟨Mem.le_refl M, fun r _ hr => ⟨hr, rfl⟩⟩ hs ?_ ?_
    · cases st.get i <;> simp [okS]
    · intro k off he
      have hne := box_slot hnb he
      refine ⟨by simp [hne], fun hk => ?_⟩
      rw [look_cons, if_neg (Ne.symm hne)]; exact hk
  boxes := fun k cs' hk => by
    simp only [St.box, look_cons] at hk
    by_cases he : d = k
    · subst he
      rw [if_pos rfl] at hk; cases hk
      refine ⟨arr, E, ?_, ?_⟩
      · simp only [if_pos]; exact heap_alloc_new w _
      · exact carryC (ok := fun _ => True) ⟨Mem.le_refl M, fun r _ hr => ⟨hr, rfl⟩⟩ hcs (fun _ _ _ _ => trivial)
    · rw [if_neg he] at hk
      obtain ⟨arr', E', h1, h2⟩ := h.boxes k cs' hk
      refine ⟨arr', E', ?_, carryC (ok := fun _ => True) ⟨Mem.le_refl M, fun r _ hr => ⟨hr, rfl⟩⟩ h2 (fun _ _ _ _ => trivial)⟩
      simp only [if_neg (Ne.symm he)]
      rw [heap_alloc_old w _ (Array.getElem?_eq_some_iff.1 h1).1]; exact h1
  boxM := fun k hk ad had => by
    simp only [St.box, look_cons] at hk
    by_cases he : d = k
    · subst he
      simp only [if_pos] at had
      cases hM : M ad with
      | none => rfl
      | some v => have := h.mem_lt hM; omega
    · rw [if_neg he] at hk
      simp only [if_neg (Ne.symm he)] at had
      exact h.boxM k hk ad had
  boxInj := fun k k' hk hk' he => by
    simp only [St.box, look_cons] at hk hk'
    by_cases e1 : d = k <;> by_cases e2 : d = k'
    · omega
    · subst e1; rw [if_neg e2] at hk'
      simp only [if_pos, if_neg (Ne.symm e2)] at he
      have := h.box_lt hk'; omega
    · subst e2; rw [if_neg e1] at hk
      simp only [if_pos, if_neg (Ne.symm e1)] at he
      have := h.box_lt hk; omega
    · rw [if_neg e1] at hk; rw [if_neg e2] at hk'
      simp only [if_neg (Ne.symm e1), if_neg (Ne.symm e2)] at he
      exact h.boxInj k k' hk hk' he
  boxBase := fun k hk => by
    simp only [St.box, look_cons] at hk
    by_cases he : d = k
    · subst he; left; simp only [if_pos]; exact h.fr.size
    · rw [if_neg he] at hk; simp only [if_neg (Ne.symm he)]; exact h.boxBase k hk
  rows := fun r e hr => by
    obtain ⟨n, xs, i, hi, ho, hm⟩ := (h.rows r e hr).own
    exact ⟨⟨n, xs, i, hi, ho.alloc _, hm⟩⟩
  rowBox := fun r k hr hk => by
    simp only [St.box, look_cons] at hk
    by_cases he : d = k
    · subst he; simp only [if_pos]
      intro hg
      have := (h.row_lt hr hg).2; omega
    · rw [if_neg he] at hk; simp only [if_neg (Ne.symm he)]; exact h.rowBox r k hr hk
  rowInj := h.rowInj
  fr := h.fr.of_grown (World.grownBy_alloc w _ none) (fun _ e => by cases e)
  defers := h.defers
  old := h.old
  le := h.le
  pin := fun b hb => by show (if 0 = d then _ else σ.box 0) = b; rw [if_neg (Ne.symm hd0)]; exact h.pin b hb

/-- More memory that is no longer written. -/
theorem Sim.moreMem (h : Sim P base M0 ios σ M w a st) {M' : Mem} (hle : M.le M') (hm : ∀ ad v, M' ad = some v → w.cell? ad = some v)
    (hb : ∀ k, (st.box k).isSome = true → ∀ ad, ad.block = σ.box k → M' ad = none) (ho : ∀ ad, ad.block < base.heap.size → M0 ad = none → M' ad = none)
    (hr : ∀ r e, st.row r = some e → ∀ n xs i, P.info? e = some i → w.ownsRow base.heap.size e i.size (σ.row r) n xs → (∀ g, (σ.row r).ownBlock = some g → ∀ ad, ad.block = g → n * i.size ≤ ad.off → M ad = none) → ∀ g, (σ.row r).ownBlock = some g → ∀ ad, ad.block = g → n * i.size ≤ ad.off → M' ad = none) :
    Sim P base M0 ios σ M' w a st where
  mem := hm
  nt := h.nt
  slots := fun i => (h.slots i).carry (ok := fun _ => True) ⟨hle, fun r _ hr => ⟨hr, rfl⟩⟩ (by cases st.get i <;> simp [okS]) (fun k off _ => ⟨rfl, id⟩)
  boxes := fun k cs hk => by
    obtain ⟨arr, E, h1, h2⟩ := h.boxes k cs hk
    exact ⟨arr, E, h1, carryC (ok := fun _ => True) ⟨hle, fun r _ hr => ⟨hr, rfl⟩⟩ h2 (fun _ _ _ _ => trivial)⟩
  boxM := hb
  boxInj := h.boxInj
  boxBase := h.boxBase
  rows := fun r e he => by
    obtain ⟨n, xs, i, hi, ho, hm'⟩ := (h.rows r e he).own
    exact ⟨⟨n, xs, i, hi, ho, hr r e he n xs i hi ho hm'⟩⟩
  rowBox := h.rowBox
  rowInj := h.rowInj
  fr := h.fr
  defers := h.defers
  old := ho
  le := Mem.le_trans h.le hle
  pin := h.pin

theorem slot_noTag {r : Nat} (hn : noTag r st = true) (i : Nat) : okS (fun r' => r' ≠ r) (st.get i) := by
  unfold noTag at hn
  rw [Bool.and_eq_true, Bool.and_eq_true] at hn
  rcases get_mem (st := st) (i := i) with h | h
  · rw [h]; trivial
  · exact noTag_okS (noTagSlots_mem hn.1.1 h)

theorem box_noTag {r : Nat} (hn : noTag r st = true) {k : Nat} {cs : List CellV} (hk : st.box k = some cs) : ∀ t l r', CellV.lst t l (some r') ∈ cs → r' ≠ r := by
  unfold noTag at hn
  rw [Bool.and_eq_true, Bool.and_eq_true] at hn
  intro t l r' hm
  exact noTagC_mem (noTagBoxes_mem hn.1.2 (look_mem hk)) hm

theorem row_noTag {r : Nat} (hn : noTag r st = true) : st.row r = none := by
  unfold noTag at hn
  rw [Bool.and_eq_true, Bool.and_eq_true] at hn
  have := hn.2
  unfold St.row
  cases h : look r st.rows with
  | none => rfl
  | some e => rw [h] at this; simp at this

/-- A new row is kept under a key that nobody bears. -/
theorem Sim.newRow (h : Sim P base M0 ios σ M w a st) {r : Nat} {e : TypeId} {v : Value} (hn : noTag r st = true)
    (hv : RowOk P base.heap.size M w v e) (hb : ∀ k, (st.box k).isSome = true → v.ownBlock ≠ some (σ.box k))
    (hr : ∀ r', (st.row r').isSome = true → (σ.row r').ownBlock = none ∨ (σ.row r').ownBlock ≠ v.ownBlock) :
    Sim P base M0 ios { σ with row := fun k => if k = r then v else σ.row k } M w a { st with rows := (r, e) :: st.rows } := by
  have hc : Carry σ st.rows M { σ with row := fun k => if k = r then v else σ.row k } ((r, e) :: st.rows) M (fun r' => r' ≠ r) :=
    ⟨Mem.le_refl M, fun r' hne hs => by
      rw [look_cons, if_neg (Ne.symm hne)] at hs
      exact ⟨hs, by simp [hne]⟩⟩
  exact {
    mem := h.mem
    nt := h.nt
    slots := fun i => (h.slots i).carry hc (slot_noTag hn i) (fun k off _ => ⟨rfl, id⟩)
    boxes := fun k cs hk => by
      obtain ⟨arr, E, h1, h2⟩ := h.boxes k cs hk
      exact ⟨arr, E, h1, carryC hc h2 (box_noTag hn hk)⟩
    boxM := h.boxM
    boxInj := h.boxInj
    boxBase := h.boxBase
    rows := fun r' e' hr' => by
      simp only [St.row, look_cons] at hr'
      by_cases he : r = r'
      · subst he; rw [if_pos rfl] at hr'; cases hr'; simp only [if_pos]; exact hv
      · rw [if_neg he] at hr'; simp only [if_neg (Ne.symm he)]; exact h.rows r' e' hr'
    rowBox := fun r' k hr' hk => by
      simp only [St.row, look_cons] at hr'
      by_cases he : r = r'
      · subst he; simp only [if_pos]; exact hb k hk
      · rw [if_neg he] at hr'; simp only [if_neg (Ne.symm he)]; exact h.rowBox r' k hr' hk
    rowInj := fun r1 r2 h1 h2 hne => by
      simp only [St.row, look_cons] at h1 h2
      by_cases e1 : r = r1 <;> by_cases e2 : r = r2
      · omega
      · subst e1; rw [if_neg e2] at h2
        simp only [if_pos, if_neg (Ne.symm e2)]
        rcases hr r2 h2 with hx | hx
        · by_cases hvn : v.ownBlock = none
          · exact .inl hvn
          · exact .inr (by rw [hx]; exact hvn)
        · exact .inr (Ne.symm hx)
      · subst e2; rw [if_neg e1] at h1
        simp only [if_pos, if_neg (Ne.symm e1)]
        exact hr r1 h1
      · rw [if_neg e1] at h1; rw [if_neg e2] at h2
        simp only [if_neg (Ne.symm e1), if_neg (Ne.symm e2)]
        exact h.rowInj r1 r2 h1 h2 hne
    fr := h.fr
    defers := h.defers
    old := h.old
    le := h.le
    pin := h.pin }

theorem look_filter {α : Type} (r k : Nat) (l : List (Nat × α)) : look k (l.filter fun p => !(p.1 == r)) = if k = r then none else look k l := by
  induction l with
  | nil => simp [look]
  | cons p rest ih =>
    obtain ⟨j, x⟩ := p
    by_cases hj : j = r
    · subst hj
      simp only [List.filter_cons, beq_self_eq_true, Bool.not_true]
      rw [if_neg (by simp), ih]
      split
      · rfl
      · rename_i hk; rw [look_cons, if_neg (Ne.symm hk)]
    · simp only [List.filter_cons]
      rw [if_pos (by simp [hj])]
      rw [look_cons, look_cons, ih]
      by_cases hk : j = k
      · subst hk; simp [hj]
      · simp only [if_neg hk]

/-- A row is given up. -/
theorem Sim.killRow (h : Sim P base M0 ios σ M w a st) (r : Nat) : Sim P base M0 ios σ M w a { st with rows := st.rows.filter (fun p => !(p.1 == r)) } := by
  have hsub : ∀ k, (look k (st.rows.filter fun p => !(p.1 == r))).isSome = true → (look k st.rows).isSome = true ∧ look k (st.rows.filter fun p => !(p.1 == r)) = look k st.rows := by
    intro k hk
    rw [look_filter] at hk ⊢
    split at hk
    · simp at hk
    · rename_i hne; rw [if_neg hne]; exact ⟨hk, rfl⟩
  have hc : Carry σ st.rows M σ (st.rows.filter fun p => !(p.1 == r)) M (fun _ => True) := ⟨Mem.le_refl M, fun r' _ hs => ⟨(hsub r' hs).1, rfl⟩⟩
  exact {
    mem := h.mem
    nt := h.nt
    slots := fun i => (h.slots i).carry hc (by show okS _ (st.get i); cases st.get i <;> simp [okS]) (fun k off _ => ⟨rfl, id⟩)
    boxes := fun k cs hk => by
      obtain ⟨arr, E, h1, h2⟩ := h.boxes k cs hk
      exact ⟨arr, E, h1, carryC hc h2 (fun _ _ _ _ => trivial)⟩
    boxM := h.boxM
    boxInj := h.boxInj
    boxBase := h.boxBase
    rows := fun r' e' hr' => h.rows r' e' (by unfold St.row at hr' ⊢; rw [← (hsub r' (by rw [hr']; rfl)).2]; exact hr')
    rowBox := fun r' k hr' hk => h.rowBox r' k (hsub r' hr').1 hk
    rowInj := fun r1 r2 h1 h2 hne => h.rowInj r1 r2 (hsub r1 h1).1 (hsub r2 h2).1 hne
    fr := h.fr
    defers := h.defers
    old := h.old
    le := h.le
    pin := h.pin }

end Go.Proofs.Ytcbehcpmojnnfaa.Bv
