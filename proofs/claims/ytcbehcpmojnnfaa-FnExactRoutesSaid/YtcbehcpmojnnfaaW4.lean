/- How a local state by value is kept by what an operation does to memory. -/
import Derived.Test.YtcbehcpmojnnfaaW3
namespace Go.Proofs.Ytcbehcpmojnnfaa.Bv
set_option linter.unusedVariables false
set_option linter.unusedSimpArgs false

variable {P : Program} {base : World} {M0 : Mem} {ios : Ios} {σ : Sg} {M : Mem} {w : World} {a : Act} {st : St}

theorem look_cons {α : Type} (k j : Nat) (x : α) (r : List (Nat × α)) : look k ((j, x) :: r) = if j = k then some x else look k r := rfl

theorem look_app {α : Type} (k : Nat) : ∀ (l r : List (Nat × α)), look k (l ++ r) = match look k l with | some x => some x | none => look k r
  | [], r => rfl
  | (j, x) :: l, r => by
    simp only [List.cons_append, look_cons]
    split
    · rfl
    · exact look_app k l r

theorem look_filt {α : Type} (r : Nat) (ks : List Nat) : ∀ (l : List (Nat × α)), look r (l.filter fun p => notMem p.1 ks) = if notMem r ks = true then look r l else none
  | [] => by simp [look]
  | (j, x) :: l => by
    simp only [List.filter_cons]
    by_cases hj : notMem j ks = true
    · rw [if_pos hj, look_cons, look_cons, look_filt r ks l]
      by_cases e : j = r
      · subst e; simp [hj]
      · simp only [if_neg e]
    · rw [if_neg hj, look_cons, look_filt r ks l]
      by_cases e : j = r
      · subst e; simp [hj]
      · simp only [if_neg e]

theorem coldOf_of {r : Nat} {rows : List (Nat × RowV)} {e : TypeId} (h : coldOf r rows = some e) : ∃ rv, look r rows = some rv ∧ rv.cold? = some e := by
  unfold coldOf at h
  split at h
  · rename_i rv hr; exact ⟨rv, hr, h⟩
  · cases h
theorem coldOf_mk {r : Nat} {rows : List (Nat × RowV)} {e : TypeId} {rv : RowV} (h : look r rows = some rv) (hc : rv.cold? = some e) : coldOf r rows = some e := by simp [coldOf, h, hc]
theorem row_some {r : Nat} (h : (st.row r).isSome = true) : (look r st.rows).isSome = true := by
  obtain ⟨e, he⟩ := Option.isSome_iff_exists.1 h
  obtain ⟨rv, h1, _⟩ := coldOf_of he
  rw [h1]; rfl
theorem hot_not_cold {r : Nat} (h : isHot r st.rows) : st.row r = none := by
  obtain ⟨e, t, l, ver, hole, z, h⟩ := h
  simp [St.row, coldOf, h, RowV.cold?]

/-! ### Rows that may be written are kept -/

theorem heap_cell {w w' : World} {ad : Addr} (h : w'.heap[ad.block]? = w.heap[ad.block]?) : w'.cell? ad = w.cell? ad := World.cell?_of_block h

theorem OwnH.frame {t : Ty} {v : Value} {l : List (El t)} {hole : Option (Nat × Nat)} {bs : List Nat} (h : OwnH w t v l hole bs) {w' : World} (hw : ∀ g ∈ bs, w'.heap[g]? = w.heap[g]?) : OwnH w' t v l hole bs := by
  cases hole with
  | none => exact OwnL.frame h hw
  | some p =>
    obtain ⟨i, off⟩ := p
    obtain ⟨g, o, cap, arr, e, h1, h2, h3, h4, h5, h6, h7⟩ := h
    have hgb : g ∈ bs := by
      rcases h7.cases with ⟨ad, k1, k2, _⟩ | ⟨g', o', cap', arr', e', b1, k1, k2, _⟩
      · subst k2; simp at h3
      · rw [h1] at k1; injection k1 with k3; injection k3 with k4; injection k4 with k5
        subst k5; rw [k2]; simp
    refine ⟨g, o, cap, arr, e, h1, by rw [hw g hgb]; exact h2, h3, h4, h5, h6, h7.frame fun b hb => ?_⟩
    by_cases hbg : b = g
    · subst hbg
      rw [setRow_heap _ _ arr _ e _ (by rw [hw _ hgb]; exact h2), setRow_heap _ _ arr _ e _ h2]
    · rw [setRow_other _ _ _ _ hbg, setRow_other _ _ _ _ hbg]; exact hw b hb

theorem ownsRow_at {w w' : World} {b : Nat} {e : TypeId} {s : Nat} {v : Value} {n : Nat} {xs : List Value} (ho : w.ownsRow b e s v n xs) (h : ∀ g, v.ownBlock = some g → w'.heap[g]? = w.heap[g]?) : w'.ownsRow b e s v n xs := by
  refine ⟨ho.1, ?_⟩
  rcases ho.2 with h0 | ⟨g, cap, cur, rfl, h1, h2, h3⟩
  · exact .inl h0
  · exact .inr ⟨g, cap, cur, rfl, h1, by rw [h g rfl]; exact h2, h3⟩

theorem HotOk.frame {r : Nat} {e : TypeId} {t : Ty} {l : List (El t)} {hole : Option (Nat × Nat)} {z : Bool} (h : HotOk P base σ w r e t l hole z) {σ' : Sg} {w' : World} (h1 : σ'.row r = σ.row r) (h2 : σ'.foot r = σ.foot r) (h3 : σ'.mem r = σ.mem r)
    (hw : ∀ g ∈ σ.foot r, w'.heap[g]? = w.heap[g]?) : HotOk P base σ' w' r e t l hole z where
  info := h.info
  pos := h.pos
  own := by rw [h1, h2]; exact h.own.frame hw
  nodup := by rw [h2]; exact h.nodup
  mem := fun ad u hu => by
    rw [h3] at hu
    obtain ⟨k1, k2, k3⟩ := h.mem ad u hu
    exact ⟨by rw [heap_cell (hw _ k2)]; exact k1, by rw [h2]; exact k2, by rw [h1]; exact k3⟩
  full := fun hh ad u hb ht hu => by
    rw [h2] at hb
    rw [h1] at ht
    rw [h3]
    exact h.full hh ad u hb ht (by rw [← heap_cell (hw _ hb)]; exact hu)
  z := fun hz => by
    obtain ⟨⟨n, xs, ho⟩, hb⟩ := h.z hz
    rw [h1, h2]
    exact ⟨⟨n, xs, ownsRow_at ho fun g hg => hw g (hb g hg)⟩, hb⟩

theorem HotS.keep (h : HotS P base ios σ M w st) {σ' : Sg} {M' : Mem} {w' : World} {st' : St} (hsz : w.heap.size ≤ w'.heap.size) (hM : M.le M')
    (hr : ∀ r rv v, look r st'.rows = some rv → rv.ver? = some v → look r st.rows = some rv ∧ σ'.row r = σ.row r ∧ σ'.foot r = σ.foot r ∧ σ'.mem r = σ.mem r)
    (hw : ∀ r, isHot r st'.rows → ∀ g ∈ σ.foot r, w'.heap[g]? = w.heap[g]?)
    (hN : ∀ r, isHot r st'.rows → ∀ g ∈ σ.foot r, ∀ ad, ad.block = g → M' ad = none)
    (hb : ∀ r, isHot r st'.rows → ∀ k, (st'.box k).isSome = true → σ'.box k ∉ σ.foot r)
    (hc : ∀ r, isHot r st'.rows → ∀ r', (st'.row r').isSome = true → ∀ g, (σ'.row r').ownBlock = some g → g ∉ σ.foot r) : HotS P base ios σ' M' w' st' := by
  have hh : ∀ r, isHot r st'.rows → isHot r st.rows ∧ σ'.row r = σ.row r ∧ σ'.foot r = σ.foot r ∧ σ'.mem r = σ.mem r := fun r ⟨e, t, l, ver, hole, z, hl⟩ => by
    obtain ⟨k1, k2⟩ := hr r _ ver hl rfl
    exact ⟨⟨e, t, l, ver, hole, z, k1⟩, k2⟩
  exact {
    ok := fun r e t l ver hole z hl => by
      obtain ⟨k1, k2, k3, k4⟩ := hr r _ ver hl rfl
      exact (h.ok r e t l ver hole z k1).frame k2 k3 k4 (hw r ⟨e, t, l, ver, hole, z, hl⟩)
    base := fun r hr' g hg => by obtain ⟨k1, _, k3, _⟩ := hh r hr'; rw [k3] at hg; exact h.base r k1 g hg
    noM := fun r hr' g hg => by obtain ⟨k1, _, k3, _⟩ := hh r hr'; rw [k3] at hg; exact hN r hr' g hg
    noBox := fun r hr' k hk => by obtain ⟨k1, _, k3, _⟩ := hh r hr'; rw [k3]; exact hb r hr' k hk
    noRow := fun r hr' r' hr2 g hg => by obtain ⟨k1, _, k3, _⟩ := hh r hr'; rw [k3]; exact hc r hr' r' hr2 g hg
    apart := fun r r' h1 h2 hne g hg => by
      obtain ⟨k1, _, k3, _⟩ := hh r h1
      obtain ⟨m1, _, m3, _⟩ := hh r' h2
      rw [k3] at hg; rw [m3]
      exact h.apart r r' k1 m1 hne g hg
    lt := fun r hr' g hg => by obtain ⟨k1, _, k3, _⟩ := hh r hr'; rw [k3] at hg; exact Nat.lt_of_lt_of_le (h.lt r k1 g hg) hsz
    frz := fun r e t l ver z hl => by
      obtain ⟨k1, k2, _, k4⟩ := hr r _ ver hl rfl
      obtain ⟨m1, m2⟩ := h.frz r e t l ver z k1
      exact ⟨by rw [k2]; exact m1.mono hM, by rw [k4]; exact Mem.le_trans m2 hM⟩ }

/-- Nothing of it is touched. -/
theorem HotS.still (h : HotS P base ios σ M w st) {st' : St} (h1 : st'.rows = st.rows) (h2 : ∀ k, (st'.box k).isSome = true → (st.box k).isSome = true) : HotS P base ios σ M w st' := by
  refine h.keep (Nat.le_refl _) (Mem.le_refl M) (fun r rv v hl _ => ⟨by rw [← h1]; exact hl, rfl, rfl, rfl⟩) (fun _ _ _ _ => rfl) (fun r hr => h.noM r (h1 ▸ hr)) (fun r hr k hk => h.noBox r (h1 ▸ hr) k (h2 k hk))
    (fun r hr r' hr' g hg => h.noRow r (h1 ▸ hr) r' (by unfold St.row at hr' ⊢; rw [← h1]; exact hr') g hg)

theorem getD_put (a : Act) (d : Nat) (v : Value) (i : Nat) (hd : d < a.tmps.size) : (a.put (some d) v).tmps.getD i undef = if i = d then v else a.tmps.getD i undef := by
  simp only [Act.put, Array.getD_eq_getD_getElem?, Array.getElem?_setIfInBounds]
  by_cases h : d = i
  · subst h; simp [hd]
  · simp [h, Ne.symm h]

theorem get_put (st : St) (d : Nat) (sv : Sv) (i : Nat) : (st.put d sv).get i = if i = d then sv else st.get i := by
  simp only [St.get, St.put, look_cons]
  by_cases h : d = i
  · subst h; simp
  · simp only [if_neg h, if_neg (Ne.symm h)]

theorem Sim.put (h : Sim P base M0 ios σ M w a st) {d : Nat} {v : Value} {sv : Sv} (hd : d < st.nt) (hv : RepSv σ st.rows st.boxes M v sv) :
    Sim P base M0 ios σ M w (a.put (some d) v) (st.put d sv) where
  mem := h.mem
  nt := by simp [Act.put, St.put]; exact h.nt
  slots := fun i => by
    rw [getD_put a d v i (by rw [h.nt]; exact hd), get_put]
    split
    · exact hv
    · exact h.slots i
  boxes := h.boxes
  boxM := h.boxM
  boxInj := h.boxInj
  boxBase := h.boxBase
  rows := h.rows
  rowBox := h.rowBox
  rowInj := h.rowInj
  hot := h.hot.still rfl fun _ hk => hk
  fr := h.fr
  defers := by simp [Act.put]; exact h.defers
  old := h.old
  le := h.le
  pin := h.pin
  pins := h.pins
  olds := fun i hi => by
    have hm := List.mem_filter.1 hi
    have hne : i ≠ d := by simpa using hm.2
    have h0 := h.olds i hm.1
    rw [getD_put a d v i (by rw [h.nt]; exact hd), get_put]
    split
    · rename_i e; first | exact absurd e hne | exact absurd e.symm hne
    · exact h0

theorem cell_heap {w w' : World} (h : w'.heap = w.heap) (ad : Addr) : w'.cell? ad = w.cell? ad := by simp [World.cell?, h]

theorem ownsRow_heap {w w' : World} (h : w'.heap = w.heap) {b : Nat} {e : TypeId} {s : Nat} {v : Value} {n : Nat} {xs : List Value} (ho : w.ownsRow b e s v n xs) : w'.ownsRow b e s v n xs := by
  unfold World.ownsRow at *; rw [h]; exact ho

theorem Sim.sameHeap (h : Sim P base M0 ios σ M w a st) {w' : World} (hh : w'.heap = w.heap) (ho : w'.os = w.os) (ht : w'.tape = w.tape) (hu : w'.output = w.output) : Sim P base M0 ios σ M w' a st where
  mem := fun ad v hv => by rw [cell_heap hh]; exact h.mem ad v hv
  nt := h.nt
  slots := h.slots
  boxes := fun k cs hk => by rw [hh]; exact h.boxes k cs hk
  boxM := h.boxM
  boxInj := h.boxInj
  boxBase := h.boxBase
  rows := fun r e hr => by
    obtain ⟨n, xs, i, hi, ho', hm⟩ := (h.rows r e hr).own
    exact ⟨⟨n, xs, i, hi, ownsRow_heap hh ho', hm⟩⟩
  rowBox := h.rowBox
  rowInj := h.rowInj
  hot := h.hot.keep (by rw [hh]; exact Nat.le_refl _) (Mem.le_refl M) (fun r rv v hl _ => ⟨hl, rfl, rfl, rfl⟩) (fun _ _ _ _ => by rw [hh]) h.hot.noM h.hot.noBox h.hot.noRow
  fr := h.fr.trans ⟨ho, ht, hu, by rw [hh]; exact Nat.le_refl _, fun k _ _ => by rw [hh]⟩
  defers := h.defers
  old := h.old
  le := h.le
  pin := h.pin
  pins := h.pins
  olds := h.olds

theorem Sim.drew (h : Sim P base M0 ios σ M w a st) : Sim P base M0 ios σ M { w with drawn := w.drawn + 1 } a st := h.sameHeap rfl rfl rfl rfl

theorem Sim.mem_lt (h : Sim P base M0 ios σ M w a st) {ad : Addr} {v : Value} (hv : M ad = some v) : ad.block < w.heap.size :=
  World.block_lt_of_cell? w ad (h.mem ad v hv)

theorem Sim.box_lt (h : Sim P base M0 ios σ M w a st) {k : Nat} (hk : (st.box k).isSome = true) : σ.box k < w.heap.size := by
  obtain ⟨cs, hcs⟩ := Option.isSome_iff_exists.1 hk
  obtain ⟨arr, E, he, _⟩ := h.boxes k cs hcs
  exact (Array.getElem?_eq_some_iff.1 he).1

theorem Sim.row_lt (h : Sim P base M0 ios σ M w a st) {r : Nat} (hr : (st.row r).isSome = true) {g : Nat} (hg : (σ.row r).ownBlock = some g) : base.heap.size ≤ g ∧ g < w.heap.size := by
  obtain ⟨e, he⟩ := Option.isSome_iff_exists.1 hr
  obtain ⟨n, xs, i, _, ho, _⟩ := (h.rows r e he).own
  exact ho.lt g hg

theorem cell_alloc_lt {w : World} {o : Obj} {ad : Addr} (h : ad.block < w.heap.size) : (w.alloc o).cell? ad = w.cell? ad := World.cell?_alloc_lt w o ad h

theorem box_slot {k : Nat} (hnb : noBox k st = true) {i k' : Nat} (hs : k' ∈ boxesSv (st.get i)) : k' ≠ k := by
  rcases get_mem (st := st) (i := i) with h | h
  · rw [h] at hs; cases hs
  · intro e; subst e
    exact notMem_iff.1 (noBoxSlots_mem hnb h) hs

/-- A new variable. -/
theorem Sim.allocBox (h : Sim P base M0 ios σ M w a st) {d : Nat} (hd0 : d ≠ 0) (hnb : noBox d st = true) {arr : Array Value} {E : TypeId} {cs : List CellV} (hcs : All2 (RdT σ st.rows M) arr.toList cs) :
    Sim P base M0 ios { σ with box := fun k => if k = d then w.heap.size else σ.box k } M (w.alloc (.cells arr E)) a { st with boxes := (d, cs) :: st.boxes } := by
  have hca : Carry σ st.rows M { σ with box := fun k => if k = d then w.heap.size else σ.box k } st.rows M (fun _ => True) (fun _ _ => True) := ⟨Mem.le_refl M, fun r _ hr => ⟨hr, rfl⟩, fun r ver rv' _ _ hl hv => ⟨rv', hl, hv, Mem.le_refl _, .inl rfl⟩⟩
  exact {
  mem := fun ad v hv => by rw [cell_alloc_lt (h.mem_lt hv)]; exact h.mem ad v hv
  nt := h.nt
  slots := fun i => by
    have hs := h.slots i
    show RepSv _ st.rows ((d, cs) :: st.boxes) M _ (st.get i)
    refine RepSv.carry (boxes := st.boxes) hca hs (okS_true _) ?_
    intro k hk
    have hne := box_slot hnb hk
    refine ⟨by simp [hne], fun hk => ?_⟩
    rw [look_cons, if_neg (Ne.symm hne)]; exact hk
  boxes := fun k cs' hk => by
    simp only [St.box, look_cons] at hk
    by_cases he : d = k
    · subst he
      rw [if_pos rfl] at hk; cases hk
      refine ⟨arr, E, ?_, ?_⟩
      · simp only [if_pos]; exact heap_alloc_new w _
      · exact carryC hca hcs (fun c _ => okC_true c)
    · rw [if_neg he] at hk
      obtain ⟨arr', E', h1, h2⟩ := h.boxes k cs' hk
      refine ⟨arr', E', ?_, carryC hca h2 (fun c _ => okC_true c)⟩
      simp only [if_neg (Ne.symm he)]
      rw [heap_alloc_old w _ (Array.getElem?_eq_some_iff.1 h1).1]; exact h1
  boxM := fun k hk ad had => by
    simp only [St.box, look_cons] at hk
    by_cases he : d = k
    · subst he
      simp only [if_pos] at had
      cases hM : M ad with
      | none => rfl
      | some v => have := h.mem_lt hM; omega
    · rw [if_neg he] at hk
      simp only [if_neg (Ne.symm he)] at had
      exact h.boxM k hk ad had
  boxInj := fun k k' hk hk' he => by
    simp only [St.box, look_cons] at hk hk'
    by_cases e1 : d = k <;> by_cases e2 : d = k'
    · omega
    · subst e1; rw [if_neg e2] at hk'
      simp only [if_pos, if_neg (Ne.symm e2)] at he
      have := h.box_lt hk'; omega
    · subst e2; rw [if_neg e1] at hk
      simp only [if_pos, if_neg (Ne.symm e1)] at he
      have := h.box_lt hk; omega
    · rw [if_neg e1] at hk; rw [if_neg e2] at hk'
      simp only [if_neg (Ne.symm e1), if_neg (Ne.symm e2)] at he
      exact h.boxInj k k' hk hk' he
  boxBase := fun k hk => by
    simp only [St.box, look_cons] at hk
    by_cases he : d = k
    · subst he; left; simp only [if_pos]; exact h.fr.size
    · rw [if_neg he] at hk; simp only [if_neg (Ne.symm he)]; exact h.boxBase k hk
  rows := fun r e hr => by
    obtain ⟨n, xs, i, hi, ho, hm⟩ := (h.rows r e hr).own
    exact ⟨⟨n, xs, i, hi, ho.alloc _, hm⟩⟩
  rowBox := fun r k hr hk => by
    simp only [St.box, look_cons] at hk
    by_cases he : d = k
    · subst he; simp only [if_pos]
      intro hg
      have := (h.row_lt hr hg).2; omega
    · rw [if_neg he] at hk; simp only [if_neg (Ne.symm he)]; exact h.rowBox r k hr hk
  rowInj := h.rowInj
  hot := by
    refine h.hot.keep (by simp) (Mem.le_refl M) (fun r rv v hl _ => ⟨hl, rfl, rfl, rfl⟩) (fun r hr g hg => heap_alloc_old w _ (h.hot.lt r hr g hg)) h.hot.noM (fun r hr k hk => ?_) h.hot.noRow
    simp only [St.box, look_cons] at hk
    by_cases he : d = k
    · subst he; simp only [if_pos]; intro hg; have := h.hot.lt r hr _ hg; omega
    · rw [if_neg he] at hk; simp only [if_neg (Ne.symm he)]; exact h.hot.noBox r hr k hk
  fr := h.fr.of_grown (World.grownBy_alloc w _ none) (fun _ e => by cases e)
  defers := h.defers
  old := h.old
  le := h.le
  pin := fun b hb => by show (if 0 = d then _ else σ.box 0) = b; rw [if_neg (Ne.symm hd0)]; exact h.pin b hb
  pins := h.pins
  olds := h.olds }

/-- More memory that is no longer written. -/
theorem Sim.moreMem (h : Sim P base M0 ios σ M w a st) {M' : Mem} (hle : M.le M') (hm : ∀ ad v, M' ad = some v → w.cell? ad = some v)
    (hb : ∀ k, (st.box k).isSome = true → ∀ ad, ad.block = σ.box k → M' ad = none) (ho : ∀ ad, ad.block < base.heap.size → ad.block ∉ ios.blk → M0 ad = none → M' ad = none)
    (hr : ∀ r e, st.row r = some e → ∀ n xs i, P.info? e = some i → w.ownsRow base.heap.size e i.size (σ.row r) n xs → (∀ g, (σ.row r).ownBlock = some g → ∀ ad, ad.block = g → n * i.size ≤ ad.off → M ad = none) → ∀ g, (σ.row r).ownBlock = some g → ∀ ad, ad.block = g → n * i.size ≤ ad.off → M' ad = none)
    (hh : ∀ r, isHot r st.rows → ∀ g ∈ σ.foot r, ∀ ad, ad.block = g → M' ad = none) :
    Sim P base M0 ios σ M' w a st where
  mem := hm
  nt := h.nt
  slots := fun i => (h.slots i).carry (Carry.same σ st.rows hle) (okS_true _) (fun k _ => ⟨rfl, id⟩)
  boxes := fun k cs hk => by
    obtain ⟨arr, E, h1, h2⟩ := h.boxes k cs hk
    exact ⟨arr, E, h1, carryC (Carry.same σ st.rows hle) h2 (fun c _ => okC_true c)⟩
  boxM := hb
  boxInj := h.boxInj
  boxBase := h.boxBase
  rows := fun r e he => by
    obtain ⟨n, xs, i, hi, ho, hm'⟩ := (h.rows r e he).own
    exact ⟨⟨n, xs, i, hi, ho, hr r e he n xs i hi ho hm'⟩⟩
  rowBox := h.rowBox
  rowInj := h.rowInj
  hot := h.hot.keep (Nat.le_refl _) hle (fun r rv v hl _ => ⟨hl, rfl, rfl, rfl⟩) (fun _ _ _ _ => rfl) hh h.hot.noBox h.hot.noRow
  fr := h.fr
  defers := h.defers
  old := ho
  le := Mem.le_trans h.le hle
  pin := h.pin
  pins := h.pins
  olds := h.olds

theorem slot_noTag {r : Nat} (hn : noTag r st = true) (i : Nat) : okS (fun r' => r' ≠ r) (fun _ _ => True) (st.get i) := by
  unfold noTag at hn
  rw [Bool.and_eq_true, Bool.and_eq_true] at hn
  rcases get_mem (st := st) (i := i) with h | h
  · rw [h]; trivial
  · exact noTag_okS (noTagSlots_mem hn.1.1 h)

theorem box_noTag {r : Nat} (hn : noTag r st = true) {k : Nat} {cs : List CellV} (hk : st.box k = some cs) : ∀ c ∈ cs, okC (fun r' => r' ≠ r) (fun _ _ => True) c := by
  unfold noTag at hn
  rw [Bool.and_eq_true, Bool.and_eq_true] at hn
  exact fun c hc => ⟨fun r' hr' e => by subst e; exact notMem_iff.1 (noTagBoxes_mem hn.1.2 (look_mem hk)) (keysC_mem hc hr'), fun _ _ _ _ _ _ => trivial⟩

theorem look_noTag {r : Nat} (hn : noTag r st = true) : look r st.rows = none := by
  unfold noTag at hn
  rw [Bool.and_eq_true, Bool.and_eq_true] at hn
  have := hn.2
  cases h : look r st.rows with
  | none => rfl
  | some e => rw [h] at this; simp at this

theorem row_noTag {r : Nat} (hn : noTag r st = true) : st.row r = none := by simp [St.row, coldOf, look_noTag hn]

/-- A state with one more row. -/
theorem isHot_cons {r r' : Nat} {rv : RowV} (h : isHot r' ((r, rv) :: st.rows)) : (r' = r ∧ ∃ e t l ver hole z, rv = .hot e t l ver hole z) ∨ (r' ≠ r ∧ isHot r' st.rows) := by
  obtain ⟨e, t, l, ver, hole, z, h⟩ := h
  rw [look_cons] at h
  split at h
  · rename_i e1; cases h; exact .inl ⟨e1.symm, _, _, _, _, _, _, rfl⟩
  · rename_i e1; exact .inr ⟨fun e => e1 e.symm, e, t, l, ver, hole, z, h⟩

/-- A new row that may grow is kept under a key that nobody bears. -/
theorem Sim.newRow (h : Sim P base M0 ios σ M w a st) {r : Nat} {e : TypeId} {v : Value} (hn : noTag r st = true) (hp : r % 2 = 1)
    (hv : RowOk P base.heap.size M w v e) (hb : ∀ k, (st.box k).isSome = true → v.ownBlock ≠ some (σ.box k))
    (hr : ∀ r', (st.row r').isSome = true → (σ.row r').ownBlock = none ∨ (σ.row r').ownBlock ≠ v.ownBlock)
    (hh : ∀ r', isHot r' st.rows → ∀ g, v.ownBlock = some g → g ∉ σ.foot r') :
    Sim P base M0 ios { σ with row := fun k => if k = r then v else σ.row k } M w a { st with rows := (r, .cold e) :: st.rows } := by
  have hc : Carry σ st.rows M { σ with row := fun k => if k = r then v else σ.row k } ((r, .cold e) :: st.rows) M (fun r' => r' ≠ r) (fun _ _ => True) :=
    ⟨Mem.le_refl M, fun r' hne hs => by
      rw [look_cons, if_neg (Ne.symm hne)] at hs
      exact ⟨hs, by simp [hne]⟩, fun r' ver rv' hne _ hl hv => by
      rw [look_cons, if_neg (Ne.symm hne)] at hl
      exact ⟨rv', hl, hv, Mem.le_refl _, .inl rfl⟩⟩
  have hrow : ∀ r', ({ st with rows := (r, .cold e) :: st.rows } : St).row r' = if r = r' then some e else st.row r' := fun r' => by
    simp only [St.row, coldOf, look_cons]
    by_cases he : r = r'
    · simp [he, RowV.cold?]
    · simp only [if_neg he]
  exact {
    mem := h.mem
    nt := h.nt
    slots := fun i => (h.slots i).carry hc (slot_noTag hn i) (fun k _ => ⟨rfl, id⟩)
    boxes := fun k cs hk => by
      obtain ⟨arr, E, h1, h2⟩ := h.boxes k cs hk
      exact ⟨arr, E, h1, carryC hc h2 (box_noTag hn hk)⟩
    boxM := h.boxM
    boxInj := h.boxInj
    boxBase := h.boxBase
    rows := fun r' e' hr' => by
      rw [hrow] at hr'
      by_cases he : r = r'
      · subst he; rw [if_pos rfl] at hr'; cases hr'; simp only [if_pos]; exact hv
      · rw [if_neg he] at hr'; simp only [if_neg (Ne.symm he)]; exact h.rows r' e' hr'
    rowBox := fun r' k hr' hk => by
      rw [hrow] at hr'
      by_cases he : r = r'
      · subst he; simp only [if_pos]; exact hb k hk
      · rw [if_neg he] at hr'; simp only [if_neg (Ne.symm he)]; exact h.rowBox r' k hr' hk
    rowInj := fun r1 r2 h1 h2 hne => by
      rw [hrow] at h1 h2
      by_cases e1 : r = r1 <;> by_cases e2 : r = r2
      · omega
      · subst e1; rw [if_neg e2] at h2
        simp only [if_pos, if_neg (Ne.symm e2)]
        rcases hr r2 h2 with hx | hx
        · by_cases hvn : v.ownBlock = none
          · exact .inl hvn
          · exact .inr (by rw [hx]; exact hvn)
        · exact .inr (Ne.symm hx)
      · subst e2; rw [if_neg e1] at h1
        simp only [if_pos, if_neg (Ne.symm e1)]
        exact hr r1 h1
      · rw [if_neg e1] at h1; rw [if_neg e2] at h2
        simp only [if_neg (Ne.symm e1), if_neg (Ne.symm e2)]
        exact h.rowInj r1 r2 h1 h2 hne
    hot := by
      refine h.hot.keep (Nat.le_refl _) (Mem.le_refl M) (fun r' rv v' hl hv' => ?_) (fun _ _ _ _ => rfl) (fun r' hr' => ?_) (fun r' hr' => ?_) (fun r' hr' r2 hr2 g hg => ?_)
      · rw [look_cons] at hl
        split at hl
        · cases hl; cases hv'
        · rename_i he; exact ⟨hl, by simp only [if_neg (Ne.symm he)], rfl, rfl⟩
      · rcases isHot_cons hr' with ⟨_, _, _, _, _, _, _, e1⟩ | ⟨_, h1⟩
        · cases e1
        · exact h.hot.noM r' h1
      · rcases isHot_cons hr' with ⟨_, _, _, _, _, _, _, e1⟩ | ⟨_, h1⟩
        · cases e1
        · exact h.hot.noBox r' h1
      · rcases isHot_cons hr' with ⟨_, _, _, _, _, _, _, e1⟩ | ⟨_, h1⟩
        · cases e1
        · rw [hrow] at hr2
          by_cases he : r = r2
          · subst he; simp only [if_pos] at hg; exact hh r' h1 g hg
          · rw [if_neg he] at hr2; simp only [if_neg (Ne.symm he)] at hg; exact h.hot.noRow r' h1 r2 hr2 g hg
    fr := h.fr
    defers := h.defers
    old := h.old
    le := h.le
    pin := h.pin
    pins := fun p hp' hs => by
      have : p.1 ≠ r := fun e => by have := ios.even p hp'; rw [e] at this; omega
      rw [look_cons, if_neg (Ne.symm this)] at hs
      simp only [if_neg this]
      exact h.pins p hp' hs
    olds := h.olds }

end Go.Proofs.Ytcbehcpmojnnfaa.Bv
