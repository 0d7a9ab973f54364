/- Rows that grow, rows that are laid down, variables that are written: how a local state by value is kept. -/
import Derived.Test.YtcbehcpmojnnfaaW5
namespace Go.Proofs.Ytcbehcpmojnnfaa.Bv
set_option linter.unusedVariables false
set_option linter.unusedSimpArgs false

variable {P : Program} {base : World} {M0 : Mem} {ios : Ios} {σ : Sg} {M : Mem} {w : World} {a : Act} {st : St}

/-- The elements' cells of a slice, one behind the other. -/
theorem RdC.cells {τ : Ty} {l : List (El τ)} {v : Value} (h : RdC M (.list τ) [v] l) :
    ∃ ad cap css, v = .slice ad l.length cap ∧ l.length ≤ cap ∧ cap ≤ maxLen ∧ All2 (RdC M τ) css l ∧ (l = [] ∨ ∃ a, ad = some a ∧ ∀ j u, css.flatten[j]? = some u → M (a.add j) = some u) := by
  obtain ⟨ad, cap, e, hl, hm, hc⟩ := h
  cases e
  -- by taking the elements one by one
  have key : ∀ (n : Nat) (hn : n ≤ l.length), ∃ css, All2 (RdC M τ) css (l.take n) ∧ (n = 0 ∨ ∃ a, ad = some a ∧ ∀ j u, css.flatten[j]? = some u → M (a.add j) = some u) ∧ css.flatten.length = n * size τ := by
    intro n
    induction n with
    | zero => intro _; exact ⟨[], by simp; exact .nil, .inl rfl, by simp⟩
    | succ n ih =>
      intro hn
      obtain ⟨css, h1, h2, h3⟩ := ih (by omega)
      obtain ⟨a, vs, ea, ev, em, er⟩ := hc n (by omega)
      refine ⟨css ++ [vs], ?_, .inr ⟨a, ea, ?_⟩, ?_⟩
      · rw [List.take_succ_eq_append_getElem (by omega)]
        exact h1.append (.cons er .nil)
      · intro j u hu
        rw [List.flatten_append] at hu
        by_cases hj : j < css.flatten.length
        · rw [List.getElem?_append_left hj] at hu
          rcases h2 with h0 | ⟨a', ea', h2⟩
          · subst h0; rw [h3] at hj; omega
          · rw [ea] at ea'; cases ea'; exact h2 j u hu
        · rw [List.getElem?_append_right (by omega)] at hu
          simp only [List.flatten_cons, List.flatten_nil, List.append_nil] at hu
          have := em (j - css.flatten.length) u hu
          rw [h3] at this hj
          rw [show n * size τ + (j - n * size τ) = j by omega] at this
          exact this
      · rw [List.flatten_append, List.length_append, h3]
        simp [ev, Nat.add_mul]
  obtain ⟨css, h1, h2, _⟩ := key l.length (Nat.le_refl _)
  rw [List.take_length] at h1
  refine ⟨ad, cap, css, rfl, hl, hm, h1, ?_⟩
  rcases h2 with h0 | h2
  · exact .inl (List.eq_nil_of_length_eq_zero h0)
  · exact .inr h2

theorem All2.flatLen {τ : Ty} : ∀ {css : List (List Value)} {l : List (El τ)}, All2 (RdC M τ) css l → css.flatten.length = l.length * size τ
  | _, _, .nil => by simp
  | _, _, .cons (a := c) (b := x) h hr => by
    have := All2.flatLen hr
    simp only [List.flatten_cons, List.length_append, List.length_cons, this, RdC.length τ _ _ h, Nat.add_mul]; omega

theorem All2.flatOne {τ : Ty} : ∀ {css : List (List Value)} {l : List (El τ)}, All2 (RdC M τ) css l → ∀ u ∈ css.flatten, u.oneCell' = true
  | _, _, .nil => by simp
  | _, _, .cons (a := c) (b := x) h hr => by
    intro u hu
    rw [List.flatten_cons, List.mem_append] at hu
    rcases hu with hu | hu
    · exact RdC.oneCell τ _ _ h u hu
    · exact All2.flatOne hr u hu

/-- And back: cells that lie in order read as a slice. -/
theorem RdC.ofCells {τ : Ty} {css : List (List Value)} {l : List (El τ)} (h : All2 (RdC M τ) css l) {a : Addr} {cap : Nat} (hl : l.length ≤ cap) (hm : cap ≤ maxLen)
    (hc : ∀ j u, css.flatten[j]? = some u → M (a.add j) = some u) : RdC M (.list τ) [.slice (some a) l.length cap] l := by
  refine ⟨some a, cap, rfl, hl, hm, ?_⟩
  -- the i-th element's cells
  have key : ∀ (css : List (List Value)) (l : List (El τ)), All2 (RdC M τ) css l → ∀ i (hi : i < l.length), ∃ vs, css[i]? = some vs ∧ vs.length = size τ ∧ RdC M τ vs (l[i]'hi) ∧ ∀ j u, vs[j]? = some u → css.flatten[i * size τ + j]? = some u := by
    intro css l h
    induction h with
    | nil => intro i hi; simp at hi
    | @cons c x cs ls hx hr ih =>
      intro i hi
      have hcl := RdC.length τ _ _ hx
      cases i with
      | zero =>
        refine ⟨c, by simp, hcl, by simpa using hx, ?_⟩
        intro j u hu
        rw [List.flatten_cons, Nat.zero_mul, Nat.zero_add, List.getElem?_append_left (List.getElem?_eq_some_iff.1 hu).1]
        exact hu
      | succ i =>
        obtain ⟨vs, h1, h2, h3, h4⟩ := ih i (by simp at hi; omega)
        refine ⟨vs, by simpa using h1, h2, by simpa using h3, ?_⟩
        intro j u hu
        rw [List.flatten_cons, List.getElem?_append_right (by rw [hcl, Nat.add_mul]; omega), hcl]
        rw [show (i + 1) * size τ + j - size τ = i * size τ + j by rw [Nat.add_mul]; omega]
        exact h4 j u hu
  intro i hi
  obtain ⟨vs, _, h2, h3, h4⟩ := key css l h i hi
  exact ⟨a, vs, rfl, h2, fun j u hu => hc _ u (h4 j u hu), h3⟩

theorem RdC.nilSlice (M : Mem) (τ : Ty) : RdC M (.list τ) [.slice none 0 0] [] := ⟨none, 0, rfl, by simp, by simp, fun i hi => by simp at hi⟩

/-! ### append -/

theorem run_append_own2 (base : Nat) (t ty e : TypeId) (i : TypeInfo) (z : Value) (ht : P.underlying t = some (.slice e)) (hi : P.info? e = some i) (hz : i.zero = some z)
    (hzs : z.cells.size = i.size) (hsz : 0 < i.size)
    (v : Value) (n : Nat) (xs : List Value) (hown : w.ownsRow base e i.size v n xs)
    (a : Addr) (m c : Nat) (news : List Value) (hl : news.length = m * i.size) (hnews : ∀ j u, news[j]? = some u → w.cell? (a.add j) = some u) (h1 : ∀ u ∈ news, u.oneCell' = true)
    (h63 : n + m ≤ maxLen) (hbytes : (n + m) * i.bytes ≤ 140737488355328) (hbase : base ≤ w.heap.size) :
    ∃ v' w', (Builtin.append_ #[t, t] ty #[v, .slice (some a) m c]).run P w = .ok v' w' ∧ w'.ownsRow base e i.size v' (n + m) (xs ++ news) ∧ w.grownBy w' v.ownBlock ∧
      (∀ ad u, w.cell? ad = some u → (v.ownBlock = some ad.block → ad.off < n * i.size) → w'.cell? ad = some u) ∧
      (v'.ownBlock = v.ownBlock ∨ ∃ g, v'.ownBlock = some g ∧ w.heap.size ≤ g) := by
  have hsmall : n + m ≤ 9223372036854775807 := by simp only [maxLen] at h63; omega
  have hlen : (xs ++ news).length = (n + m) * i.size := by rw [List.length_append, hown.1, hl, Nat.add_mul]
  have grown : ∀ (old : Nat), old < n + m → ∀ (row : Option Nat),
      (w.drew.alloc (.cells (xs.toArray ++ news.toArray ++ Builtin.zeroCells z.cells (grownCap w (n + m) old e - (n + m))) e)).ownsRow base e i.size
        (.slice (some ⟨w.heap.size, 0, none⟩) (n + m) (grownCap w (n + m) old e)) (n + m) (xs ++ news) ∧
      w.grownBy (w.drew.alloc (.cells (xs.toArray ++ news.toArray ++ Builtin.zeroCells z.cells (grownCap w (n + m) old e - (n + m))) e)) row ∧
      (∀ ad u, w.cell? ad = some u → (w.drew.alloc (.cells (xs.toArray ++ news.toArray ++ Builtin.zeroCells z.cells (grownCap w (n + m) old e - (n + m))) e)).cell? ad = some u) := by
    intro old ho row
    have hge := grownCap_ge w (n + m) old e
    have hcm : grownCap w (n + m) old e ≤ maxLen := grownCap_le_maxLen w (n + m) old e h63
    refine ⟨⟨hlen, .inr ⟨w.heap.size, _, _, rfl, hbase, heap_alloc_new w.drew _, hge, hcm, ?_, ?_⟩⟩, ⟨rfl, rfl, rfl, by simp, fun k hk _ => heap_alloc_old w.drew _ hk⟩, ?_⟩
    · simp only [Array.size_append, List.size_toArray, size_zeroCells, hzs, hown.1, hl, ← Nat.add_mul]
      congr 1
      omega
    · simp only [Array.toList_append, List.append_assoc]
      rw [← List.append_assoc, ← hlen]
      exact List.take_left
    · intro ad u hu
      have hlt := World.block_lt_of_cell? w ad hu
      rw [cell_alloc_lt (w := w.drew) hlt]; exact hu
  rcases hown.2 with ⟨rfl, rfl⟩ | ⟨g, cap, cur, rfl, hbg, hg, hnc, hcm, hcs, htake⟩
  · have hx : xs = [] := List.eq_nil_of_length_eq_zero (by simpa using hown.1)
    subst hx
    by_cases hm : m = 0
    · subst hm
      have hn : news = [] := List.eq_nil_of_length_eq_zero (by simpa using hl)
      subst hn
      refine ⟨.slice none 0 0, w, ?_, World.ownsRow_nil w base e i.size, ⟨rfl, rfl, rfl, Nat.le_refl _, fun _ _ _ => rfl⟩, fun ad u hu _ => hu, .inl rfl⟩
      simp [Builtin.append_, run_underlying ht, sizeOf, typeInfo, hi, Builtin.lenOf, Builtin.firstCells, loadCells, loadCellsFrom]
    · have hr := run_append_nil (P := P) w t ty e i z ht hi hz a m c news hl hnews (by omega) (by omega) (by have hb := hbytes; simp only [Nat.zero_add] at hb; omega)
      have hgr := grown 0 (by omega) (Value.ownBlock (.slice none 0 0))
      simp only [Nat.zero_add, List.nil_append, Array.empty_append] at hgr ⊢
      exact ⟨_, _, hr, hgr.1, hgr.2.1, fun ad u hu _ => hgr.2.2 ad u hu, .inr ⟨_, rfl, Nat.le_refl _⟩⟩
  · by_cases hroom : n + m ≤ cap
    · have hfit : n * i.size + news.length ≤ cur.size := by rw [hl, hcs, ← Nat.add_mul]; exact Nat.mul_le_mul_right _ hroom
      have hr := run_append_room (P := P) w t ty e i ht hi g n cap cur hg a m c news hl hnews h1 hroom hfit
      refine ⟨_, _, hr, ⟨hlen, .inr ⟨g, cap, _, rfl, hbg, setRow_heap w g cur _ e _ hg, hroom, hcm, ?_, ?_⟩⟩, ⟨rfl, rfl, rfl, by simp, fun k _ hk => setRow_other w g k _ (fun e => hk (by simp [Value.ownBlock, e]))⟩, ?_, .inl rfl⟩
      · simp only [List.size_toArray, List.length_append, List.length_take, List.length_drop, Array.length_toList]
        omega
      · rw [htake, ← hlen]
        exact List.take_left
      · intro ad u hu hoff
        by_cases hb : ad.block = g
        · have ho := hoff (by simp [Value.ownBlock, hb])
          obtain ⟨bl, off, spot⟩ := ad
          simp only at hb ho
          subst hb
          simp only [World.cell?, hg] at hu
          simp only [World.cell?, setRow_heap w bl cur _ e _ hg]
          split at hu
          · cases hu
          · rename_i hsp
            rw [if_neg hsp]
            rw [List.getElem?_toArray, List.append_assoc, List.getElem?_append_left (by rw [List.length_take, Array.length_toList, hcs]; have := Nat.mul_le_mul_right i.size hnc; omega), List.getElem?_take, if_pos ho]
            simpa using hu
        · rw [World.cell?_of_block (setRow_other w g ad.block _ hb)]; exact hu
    · have holds : ∀ j u, xs[j]? = some u → w.cell? ((⟨g, 0, none⟩ : Addr).add j) = some u := hown.cells (g := g) rfl
      have hr := run_append_grow (P := P) w t ty e i z ht hi hz ⟨g, 0, none⟩ n cap xs hown.1 holds a m c news hl hnews (by omega) (by omega) (growslice_fits (by omega) hbytes)
      have hgr := grown cap (by omega) (Value.ownBlock (.slice (some ⟨g, 0, none⟩) n cap))
      exact ⟨_, _, hr, hgr.1, hgr.2.1, fun ad u hu _ => hgr.2.2 ad u hu, .inr ⟨_, rfl, Nat.le_refl _⟩⟩

/-- An empty tail whose address nobody knows. -/
theorem run_append_none (t ty e : TypeId) (i : TypeInfo) (ht : P.underlying t = some (.slice e)) (hi : P.info? e = some i)
    (ad : Option Addr) (n cap c : Nat) (hn : n ≤ cap) (ady : Option Addr) : (Builtin.append_ #[t, t] ty #[.slice ad n cap, .slice ady 0 c]).run P w = .ok (.slice ad n cap) w := by
  have hf : (Builtin.firstCells i.size 0 (.slice ady 0 c)).run P w = .ok #[] w := by
    cases ady <;> simp [Builtin.firstCells, loadCells, loadCellsFrom]
  cases ad <;> simp [Builtin.append_, run_underlying ht, sizeOf, typeInfo, hi, Builtin.lenOf, hn, hf, storeCells]

theorem Sim.grown (h : Sim P base M0 ios σ M w a st) {w' : World} {row : Option Nat} (hg : w.grownBy w' row) (hM : ∀ ad v, M ad = some v → w'.cell? ad = some v)
    (hb : ∀ k, (st.box k).isSome = true → row ≠ some (σ.box k)) (hr : ∀ r, (st.row r).isSome = true → (σ.row r).ownBlock = none ∨ (σ.row r).ownBlock ≠ row)
    (hbase : ∀ k, row = some k → base.heap.size ≤ k) (hh : ∀ r, isHot r st.rows → ∀ g, row = some g → g ∉ σ.foot r) : Sim P base M0 ios σ M w' a st where
  mem := hM
  nt := h.nt
  slots := h.slots
  boxes := fun k cs hk => by
    obtain ⟨arr, E, h1, h2⟩ := h.boxes k cs hk
    refine ⟨arr, E, ?_, h2⟩
    rw [hg.block (σ.box k) (Array.getElem?_eq_some_iff.1 h1).1 (fun e => hb k (by rw [hk]; rfl) e.symm)]; exact h1
  boxM := h.boxM
  boxInj := h.boxInj
  boxBase := h.boxBase
  rows := fun r e he => by
    obtain ⟨n, xs, i, hi, ho, hm'⟩ := (h.rows r e he).own
    exact ⟨⟨n, xs, i, hi, ho.kept hg (hr r (by rw [he]; rfl)), hm'⟩⟩
  rowBox := h.rowBox
  rowInj := h.rowInj
  hot := h.hot.keep hg.size (Mem.le_refl M) (fun r rv v hl _ => ⟨hl, rfl, rfl, rfl⟩) (fun r hr g hgf => hg.block g (h.hot.lt r hr g hgf) (fun e => hh r hr g e.symm hgf)) h.hot.noM h.hot.noBox h.hot.noRow
  fr := h.fr.of_grown hg hbase
  defers := h.defers
  old := h.old
  le := h.le
  pin := h.pin
  pins := h.pins
  olds := h.olds

theorem Sim.storeBox (h : Sim P base M0 ios σ M w a st) {k : Nat} {cs ds : List CellV} {arr arr' : Array Value} {E : TypeId}
    (hk : st.box k = some cs) (ha : w.heap[σ.box k]? = some (.cells arr E (0, 0))) (hd : All2 (RdT σ st.rows M) arr'.toList ds) :
    Sim P base M0 ios σ M (w.setRow (σ.box k) arr') a { st with boxes := (k, ds) :: st.boxes } where
  mem := fun ad v hv => by
    have hne : ad.block ≠ σ.box k := fun e => by have := h.boxM k (by rw [hk]; rfl) ad e; rw [this] at hv; cases hv
    rw [World.cell?_of_block (setRow_other w (σ.box k) ad.block _ hne)]; exact h.mem ad v hv
  nt := h.nt
  slots := fun i => by
    show RepSv σ st.rows ((k, ds) :: st.boxes) M _ (st.get i)
    refine RepSv.carry (boxes := st.boxes) (Carry.same σ st.rows (Mem.le_refl M)) (h.slots i) (okS_true _) ?_
    · intro k' _
      refine ⟨rfl, fun hs => ?_⟩
      rw [look_cons]; split
      · rfl
      · exact hs
  boxes := fun k' cs' hk' => by
    simp only [St.box, look_cons] at hk'
    by_cases he : k = k'
    · subst he; rw [if_pos rfl] at hk'; cases hk'
      exact ⟨arr', E, setRow_heap w _ arr arr' E _ ha, hd⟩
    · rw [if_neg he] at hk'
      obtain ⟨arr2, E2, h1, h2⟩ := h.boxes k' cs' hk'
      refine ⟨arr2, E2, ?_, h2⟩
      rw [setRow_other]
      · exact h1
      · intro e
        exact he (h.boxInj k k' (by rw [hk]; rfl) (by show (look k' st.boxes).isSome = true; rw [hk']; rfl) e.symm)
  boxM := fun k' hs => h.boxM k' (by
    simp only [St.box, look_cons] at hs
    by_cases he : k = k'
    · subst he; rw [hk]; rfl
    · rw [if_neg he] at hs; exact hs)
  boxInj := fun k1 k2 h1 h2 => h.boxInj k1 k2 (by
      simp only [St.box, look_cons] at h1
      by_cases he : k = k1
      · subst he; rw [hk]; rfl
      · rw [if_neg he] at h1; exact h1) (by
      simp only [St.box, look_cons] at h2
      by_cases he : k = k2
      · subst he; rw [hk]; rfl
      · rw [if_neg he] at h2; exact h2)
  boxBase := fun k1 h1 => h.boxBase k1 (by
      simp only [St.box, look_cons] at h1
      by_cases he : k = k1
      · subst he; rw [hk]; rfl
      · rw [if_neg he] at h1; exact h1)
  rows := fun r e he => by
    obtain ⟨n, xs, i, hi, ho, hm'⟩ := (h.rows r e he).own
    refine ⟨⟨n, xs, i, hi, ?_, hm'⟩⟩
    have hg : w.grownBy (w.setRow (σ.box k) arr') (some (σ.box k)) := ⟨rfl, rfl, rfl, by simp, fun j _ hj => setRow_other w _ j _ (fun e => hj (by rw [e]))⟩
    exact ho.kept hg (.inr (h.rowBox r k (by show (st.row r).isSome = true; have h0 : st.row r = some e := he; rw [h0]; rfl) (by rw [hk]; rfl)))
  rowBox := fun r k1 hr h1 => h.rowBox r k1 hr (by
      simp only [St.box, look_cons] at h1
      by_cases he : k = k1
      · subst he; rw [hk]; rfl
      · rw [if_neg he] at h1; exact h1)
  rowInj := h.rowInj
  hot := by
    refine h.hot.keep (by simp) (Mem.le_refl M) (fun r rv v hl _ => ⟨hl, rfl, rfl, rfl⟩) (fun r hr g hg => setRow_other w _ g _ (fun e => by subst e; exact h.hot.noBox r hr k (by rw [hk]; rfl) hg)) h.hot.noM (fun r hr k1 h1 => h.hot.noBox r hr k1 (by
      simp only [St.box, look_cons] at h1
      by_cases he : k = k1
      · subst he; rw [hk]; rfl
      · rw [if_neg he] at h1; exact h1)) h.hot.noRow
  fr := by
    have h2 : Fr ios.blk w (w.setRow (σ.box k) arr') ∨ True := .inr trivial
    refine ⟨h.fr.os, h.fr.tape, h.fr.output, ?_, ?_⟩
    · simpa using h.fr.size
    · intro j hj hn
      have hb := h.boxBase k (by rw [hk]; rfl)
      rw [setRow_other w _ j _ (fun e => by subst e; rcases hb with hb | hb; · omega
                                            · exact hn hb)]
      exact h.fr.block j hj hn
  defers := h.defers
  old := h.old
  le := h.le
  pin := h.pin
  pins := h.pins
  olds := h.olds


/-! ### A row is laid down: it is no longer written -/

def Mem.plus (M N : Mem) : Mem := fun ad => match M ad with
  | some v => some v
  | none => N ad
theorem Mem.le_plus (M N : Mem) : M.le (M.plus N) := fun ad v h => by simp [Mem.plus, h]
theorem Mem.plus_right {M N : Mem} (h : ∀ ad v u, M ad = some v → N ad = some u → v = u) : N.le (M.plus N) := fun ad v hv => by
  unfold Mem.plus
  cases hm : M ad with
  | none => exact hv
  | some u => rw [h ad u v hm hv]
theorem Mem.plus_none {M N : Mem} {ad : Addr} (h1 : M ad = none) (h2 : N ad = none) : M.plus N ad = none := by simp [Mem.plus, h1, h2]
theorem Mem.plus_cases {M N : Mem} {ad : Addr} {v : Value} (h : M.plus N ad = some v) : M ad = some v ∨ N ad = some v := by
  unfold Mem.plus at h
  cases hm : M ad with
  | none => rw [hm] at h; exact .inr h
  | some u => rw [hm] at h; exact .inl h

/-- A row reads as what it is, out of its elements' cells alone. -/
theorem OwnL.rdTop {t : Ty} {v : Value} {l : List (El t)} {bs : List Nat} (h : OwnL w t v l bs) (hnd : bs.Nodup) {N : Mem} (hN : ∀ ad u, ad.block ∈ bs → topOk t v ad → w.cell? ad = some u → N ad = some u) : RdC N (.list t) [v] l := by
  rcases h.cases with ⟨ad, rfl, rfl, rfl⟩ | ⟨g, o, cap, arr, e, b1, rfl, rfl, hg, h2, h3, h4, h5⟩
  · exact ⟨ad, 0, rfl, by simp, by simp, fun i hi => by simp at hi⟩
  · have hgb := (List.nodup_cons.1 hnd).1
    have hc := h5.rd (N := N) fun ad u hb hu => hN ad u (by simp [hb]) (fun a n c e he => by
      injection e with e1 e2 e3; injection e1 with e1; subst e1
      exact absurd (by rw [← show ad.block = g from he]; exact hb) hgb) hu
    refine ⟨some ⟨g, o, none⟩, cap, rfl, h2, h3, fun i hi => ?_⟩
    have hci := (hc.drop (i * size t)).take (size t)
    rw [← flatAll_drop] at hci
    have hx : (flatAll t (List.drop i l)).take (size t) = flat t (List.get l ⟨i, hi⟩) := by
      rw [List.drop_eq_getElem_cons hi, flatAll_cons, List.take_append_of_le_length (by rw [flat_length]; exact Nat.le_refl _), List.take_of_length_le (by rw [flat_length]; exact Nat.le_refl _)]
      rfl
    rw [hx] at hci
    refine ⟨_, _, rfl, ?_, ?_, flat_rd t _ _ hci⟩
    · have := hci.length; rw [this, flat_length]
    · intro j u hu
      rw [getElem_drop_take] at hu
      split at hu
      · rename_i hjs
        rw [List.getElem?_take] at hu
        split at hu
        · rename_i hlt
          rw [addLit]
          refine hN _ u (by simp) (fun a n c e he => ?_) (cellAtArr hg hu)
          injection e with e1 e2 e3; injection e1 with e1; subst e1; subst e2
          show o + (i * size t + j) < o + List.length l * size t
          omega
        · cases hu
      · cases hu

theorem Sim.freeze (h : Sim P base M0 ios σ M w a st) {r : Nat} {e : TypeId} {t : Ty} {l : List (El t)} {ver : Nat} {z : Bool} (hr : look r st.rows = some (.hot e t l ver none z)) :
    Sim P base M0 ios σ (M.plus (σ.mem r)) w a { st with rows := (r, .frz e t l ver z) :: st.rows } := by
  have hh : isHot r st.rows := ⟨e, t, l, ver, none, z, hr⟩
  have hok := h.hot.ok r e t l ver none z hr
  have hNone : ∀ ad, ad.block ∉ σ.foot r → M ad = none → M.plus (σ.mem r) ad = none := fun ad hb hm => Mem.plus_none hm (by
    cases hx : σ.mem r ad with
    | none => rfl
    | some u => exact absurd (hok.mem ad u hx).2.1 hb)
  have hle : M.le (M.plus (σ.mem r)) := Mem.le_plus _ _
  have hmem : (σ.mem r).le (M.plus (σ.mem r)) := Mem.plus_right fun ad v u h1 h2 => by
    have := h.hot.noM r hh _ (hok.mem ad u h2).2.1 ad rfl
    rw [this] at h1; cases h1
  have hrd : RdC (M.plus (σ.mem r)) (.list t) [σ.row r] l := (OwnL.rdTop (N := σ.mem r) hok.own hok.nodup fun ad u hb ht hu => hok.full rfl ad u hb ht hu).mono hmem
  have hin : ∀ ad v, M.plus (σ.mem r) ad = some v → w.cell? ad = some v := fun ad v hv => by
    rcases Mem.plus_cases hv with h1 | h1
    · exact h.mem ad v h1
    · exact (hok.mem ad v h1).1
  have hsome : ∀ r', (look r' ((r, RowV.frz e t l ver z) :: st.rows)).isSome = true → (look r' st.rows).isSome = true := fun r' hs => by
    rw [look_cons] at hs
    by_cases he : r = r'
    · subst he; rw [hr]; rfl
    · rw [if_neg he] at hs; exact hs
  have hca : Carry σ st.rows M σ ((r, .frz e t l ver z) :: st.rows) (M.plus (σ.mem r)) (fun _ => True) (fun _ _ => True) := ⟨hle, fun r' _ hs => ⟨hsome r' hs, rfl⟩, fun r' ver' rv' _ _ hl hv => by
    rw [look_cons] at hl
    by_cases he : r = r'
    · subst he; rw [if_pos rfl] at hl; cases hl; cases hv
      exact ⟨_, hr, rfl, Mem.le_refl _, .inr ⟨e, t, l, ver, z, rfl⟩⟩
    · rw [if_neg he] at hl; exact ⟨rv', hl, hv, Mem.le_refl _, .inl rfl⟩⟩
  have hotOld : ∀ r', isHot r' ((r, RowV.frz e t l ver z) :: st.rows) → r' ≠ r ∧ isHot r' st.rows := fun r' h1 => by
    rcases isHot_cons h1 with ⟨_, _, _, _, _, _, _, e1⟩ | h2
    · cases e1
    · exact h2
  have hrow : ∀ r' e', ({ st with rows := (r, RowV.frz e t l ver z) :: st.rows } : St).row r' = some e' → (r' = r ∧ z = true ∧ e' = e) ∨ (r' ≠ r ∧ st.row r' = some e') := fun r' e' h1 => by
    simp only [St.row, coldOf, look_cons] at h1
    by_cases he : r = r'
    · subst he
      simp only [if_true] at h1
      cases z <;> simp [RowV.cold?] at h1
      exact .inl ⟨rfl, rfl, h1.symm⟩
    · rw [if_neg he] at h1; exact .inr ⟨Ne.symm he, h1⟩
  have blockIn : z = true → ∀ g, (σ.row r).ownBlock = some g → g ∈ σ.foot r := fun hz => (hok.z hz).2
  exact {
    mem := hin
    nt := h.nt
    slots := fun i => (h.slots i).carry hca (okS_true _) (fun k _ => ⟨rfl, id⟩)
    boxes := fun k cs hk => by
      obtain ⟨arr, E, h1, h2⟩ := h.boxes k cs hk
      exact ⟨arr, E, h1, carryC hca h2 (fun c _ => okC_true c)⟩
    boxM := fun k hk ad had => hNone ad (by rw [had]; exact h.hot.noBox r hh k hk) (h.boxM k hk ad had)
    boxInj := h.boxInj
    boxBase := h.boxBase
    rows := fun r' e' h1 => by
      rcases hrow r' e' h1 with ⟨rfl, hz, rfl⟩ | ⟨hne, h2⟩
      · obtain ⟨⟨n, xs, ho⟩, hb⟩ := hok.z hz
        obtain ⟨i, hi, his⟩ := hok.info
        refine ⟨⟨n, xs, i, hi, by rw [his]; exact ho, fun g hg ad had hoff => ?_⟩⟩
        refine Mem.plus_none (h.hot.noM r' hh g (hb g hg) ad had) ?_
        cases hx : σ.mem r' ad with
        | none => rfl
        | some u =>
          have ht := (hok.mem ad u hx).2.2
          rcases ho.2 with ⟨e1, _⟩ | ⟨g', cap, cur, e1, _⟩
          · rw [e1] at hg; cases hg
          · have e2 : g' = g := by rw [e1] at hg; exact Option.some.inj hg
            have := ht _ _ _ e1 (by rw [had, e2])
            simp only [Nat.zero_add] at this
            rw [his] at hoff
            omega
      · obtain ⟨n, xs, i, hi, ho, hm⟩ := (h.rows r' e' h2).own
        exact ⟨⟨n, xs, i, hi, ho, fun g hg ad had hoff => hNone ad (by rw [had]; exact h.hot.noRow r hh r' (by rw [h2]; rfl) g hg) (hm g hg ad had hoff)⟩⟩
    rowBox := fun r' k h1 hk => by
      obtain ⟨e', he'⟩ := Option.isSome_iff_exists.1 h1
      rcases hrow r' e' he' with ⟨rfl, hz, rfl⟩ | ⟨hne, h2⟩
      · intro hg; exact h.hot.noBox r' hh k hk (blockIn hz _ hg)
      · exact h.rowBox r' k (by rw [h2]; rfl) hk
    rowInj := fun r1 r2 h1 h2 hne => by
      obtain ⟨e1, he1⟩ := Option.isSome_iff_exists.1 h1
      obtain ⟨e2, he2⟩ := Option.isSome_iff_exists.1 h2
      rcases hrow r1 e1 he1 with ⟨rfl, hz, rfl⟩ | ⟨n1, k1⟩ <;> rcases hrow r2 e2 he2 with ⟨rfl, hz2, rfl⟩ | ⟨n2, k2⟩
      · exact absurd rfl hne
      · cases hb : (σ.row r1).ownBlock with
        | none => exact .inl rfl
        | some g =>
          right; intro e3
          exact h.hot.noRow r1 hh r2 (by rw [k2]; rfl) g e3.symm (blockIn hz g hb)
      · cases hb : (σ.row r1).ownBlock with
        | none => exact .inl rfl
        | some g =>
          right; intro e3
          exact h.hot.noRow r2 hh r1 (by rw [k1]; rfl) g hb (blockIn hz2 g e3.symm)
      · exact h.rowInj r1 r2 (by rw [k1]; rfl) (by rw [k2]; rfl) hne
    hot := by
      exact {
        ok := fun r' e' t' l' ver' hole' z' hl => by
          rw [look_cons] at hl
          split at hl
          · cases hl
          · exact h.hot.ok r' _ _ _ _ _ _ hl
        base := fun r' h1 => h.hot.base r' (hotOld r' h1).2
        noM := fun r' h1 g hg ad had => hNone ad (by rw [had]; exact h.hot.apart r' r (hotOld r' h1).2 hh (hotOld r' h1).1 g hg) (h.hot.noM r' (hotOld r' h1).2 g hg ad had)
        noBox := fun r' h1 => h.hot.noBox r' (hotOld r' h1).2
        noRow := fun r' h1 r2 h2 g hg hgf => by
          obtain ⟨e2, he2⟩ := Option.isSome_iff_exists.1 h2
          rcases hrow r2 e2 he2 with ⟨rfl, hz, rfl⟩ | ⟨n2, k2⟩
          · exact h.hot.apart r' r2 (hotOld r' h1).2 hh (hotOld r' h1).1 g hgf (blockIn hz g hg)
          · exact h.hot.noRow r' (hotOld r' h1).2 r2 (by rw [k2]; rfl) g hg hgf
        apart := fun r1 r2 h1 h2 => h.hot.apart r1 r2 (hotOld r1 h1).2 (hotOld r2 h2).2
        lt := fun r' h1 => h.hot.lt r' (hotOld r' h1).2
        frz := fun r' e' t' l' ver' z' hl => by
          rw [look_cons] at hl
          split at hl
          · rename_i he; subst he; cases hl; exact ⟨hrd, hmem⟩
          · obtain ⟨k1, k2⟩ := h.hot.frz r' _ _ _ _ _ hl
            exact ⟨k1.mono hle, Mem.le_trans k2 hle⟩ }
    fr := h.fr
    defers := h.defers
    old := fun ad h1 h2 h3 => hNone ad (fun hg => by
      rcases h.hot.base r hh _ hg with h4 | h4
      · omega
      · exact h2 h4) (h.old ad h1 h2 h3)
    le := Mem.le_trans h.le hle
    pin := h.pin
    pins := fun p hp hs => h.pins p hp (hsome _ hs)
    olds := h.olds }

end Go.Proofs.Ytcbehcpmojnnfaa.Bv
