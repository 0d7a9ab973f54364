/- Rows that grow, and variables that are written: how a local state by value is kept. -/
import Derived.Test.YtcbehcpmojnnfaaV4
namespace Go.Proofs.Ytcbehcpmojnnfaa.Bv
set_option linter.unusedVariables false
set_option linter.unusedSimpArgs false

variable {P : Program} {base : World} {M0 : Mem} {ios : List Nat} {σ : Sg} {M : Mem} {w : World} {a : Act} {st : St}

theorem add_lit (g o n : Nat) : (⟨g, o, none⟩ : Addr).add n = ⟨g, o + n, none⟩ := by unfold Addr.add; split <;> simp_all

theorem add_block (a : Addr) (n : Nat) : (a.add n).block = a.block := by unfold Addr.add; split <;> rfl

/-- The elements' cells of a slice, one behind the other. -/
theorem RdC.cells {τ : Ty} {l : List (El τ)} {v : Value} (h : RdC M (.list τ) [v] l) :
    ∃ ad cap css, v = .slice ad l.length cap ∧ l.length ≤ cap ∧ cap ≤ maxLen ∧ All2 (RdC M τ) css l ∧ (l = [] ∨ ∃ a, ad = some a ∧ ∀ j u, css.flatten[j]? = some u → M (a.add j) = some u) := by
  obtain ⟨ad, cap, e, hl, hm, hc⟩ := h
  cases e
  -- by taking the elements one by one
  have key : ∀ (n : Nat) (hn : n ≤ l.length), ∃ css, All2 (RdC M τ) css (l.take n) ∧ (n = 0 ∨ ∃ a, ad = some a ∧ ∀ j u, css.flatten[j]? = some u → M (a.add j) = some u) ∧ css.flatten.length = n * size τ := by
    intro n
    induction n with
    | zero => intro _; exact ⟨[], by simp; exact .nil, .inl rfl, by simp⟩
    | succ n ih =>
      intro hn
      obtain ⟨css, h1, h2, h3⟩ := ih (by omega)
      obtain ⟨a, vs, ea, ev, em, er⟩ := hc n (by omega)
      refine ⟨css ++ [vs], ?_, .inr ⟨a, ea, ?_⟩, ?_⟩
      · rw [List.take_succ_eq_append_getElem (by omega)]
        exact h1.append (.cons er .nil)
      · intro j u hu
        rw [List.flatten_append] at hu
        by_cases hj : j < css.flatten.length
        · rw [List.getElem?_append_left hj] at hu
          rcases h2 with h0 | ⟨a', ea', h2⟩
          · subst h0; rw [h3] at hj; omega
          · rw [ea] at ea'; cases ea'; exact h2 j u hu
        · rw [List.getElem?_append_right (by omega)] at hu
          simp only [List.flatten_cons, List.flatten_nil, List.append_nil] at hu
          have := em (j - css.flatten.length) u hu
          rw [h3] at this hj
          rw [show n * size τ + (j - n * size τ) = j by omega] at this
          exact this
      · rw [List.flatten_append, List.length_append, h3]
        simp [ev, Nat.add_mul]
  obtain ⟨css, h1, h2, _⟩ := key l.length (Nat.le_refl _)
  rw [List.take_length] at h1
  refine ⟨ad, cap, css, rfl, hl, hm, h1, ?_⟩
  rcases h2 with h0 | h2
  · exact .inl (List.eq_nil_of_length_eq_zero h0)
  · exact .inr h2

theorem All2.flatLen {τ : Ty} : ∀ {css : List (List Value)} {l : List (El τ)}, All2 (RdC M τ) css l → css.flatten.length = l.length * size τ
  | _, _, .nil => by simp
  | _, _, .cons (a := c) (b := x) h hr => by
    have := All2.flatLen hr
    simp only [List.flatten_cons, List.length_append, List.length_cons, this, RdC.length τ _ _ h, Nat.add_mul]; omega

theorem All2.flatOne {τ : Ty} : ∀ {css : List (List Value)} {l : List (El τ)}, All2 (RdC M τ) css l → ∀ u ∈ css.flatten, u.oneCell' = true
  | _, _, .nil => by simp
  | _, _, .cons (a := c) (b := x) h hr => by
    intro u hu
    rw [List.flatten_cons, List.mem_append] at hu
    rcases hu with hu | hu
    · exact RdC.oneCell τ _ _ h u hu
    · exact All2.flatOne hr u hu

/-- And back: cells that lie in order read as a slice. -/
theorem RdC.ofCells {τ : Ty} {css : List (List Value)} {l : List (El τ)} (h : All2 (RdC M τ) css l) {a : Addr} {cap : Nat} (hl : l.length ≤ cap) (hm : cap ≤ maxLen)
    (hc : ∀ j u, css.flatten[j]? = some u → M (a.add j) = some u) : RdC M (.list τ) [.slice (some a) l.length cap] l := by
  refine ⟨some a, cap, rfl, hl, hm, ?_⟩
  -- the i-th element's cells
  have key : ∀ (css : List (List Value)) (l : List (El τ)), All2 (RdC M τ) css l → ∀ i (hi : i < l.length), ∃ vs, css[i]? = some vs ∧ vs.length = size τ ∧ RdC M τ vs (l[i]'hi) ∧ ∀ j u, vs[j]? = some u → css.flatten[i * size τ + j]? = some u := by
    intro css l h
    induction h with
    | nil => intro i hi; simp at hi
    | @cons c x cs ls hx hr ih =>
      intro i hi
      have hcl := RdC.length τ _ _ hx
      cases i with
      | zero =>
        refine ⟨c, by simp, hcl, by simpa using hx, ?_⟩
        intro j u hu
        rw [List.flatten_cons, Nat.zero_mul, Nat.zero_add, List.getElem?_append_left (List.getElem?_eq_some_iff.1 hu).1]
        exact hu
      | succ i =>
        obtain ⟨vs, h1, h2, h3, h4⟩ := ih i (by simp at hi; omega)
        refine ⟨vs, by simpa using h1, h2, by simpa using h3, ?_⟩
        intro j u hu
        rw [List.flatten_cons, List.getElem?_append_right (by rw [hcl, Nat.add_mul]; omega), hcl]
        rw [show (i + 1) * size τ + j - size τ = i * size τ + j by rw [Nat.add_mul]; omega]
        exact h4 j u hu
  intro i hi
  obtain ⟨vs, _, h2, h3, h4⟩ := key css l h i hi
  exact ⟨a, vs, rfl, h2, fun j u hu => hc _ u (h4 j u hu), h3⟩

theorem RdC.nilSlice (M : Mem) (τ : Ty) : RdC M (.list τ) [.slice none 0 0] [] := ⟨none, 0, rfl, by simp, by simp, fun i hi => by simp at hi⟩

/-! ### append -/

theorem run_append_own2 (base : Nat) (t ty e : TypeId) (i : TypeInfo) (z : Value) (ht : P.underlying t = some (.slice e)) (hi : P.info? e = some i) (hz : i.zero = some z)
    (hzs : z.cells.size = i.size) (hsz : 0 < i.size)
    (v : Value) (n : Nat) (xs : List Value) (hown : w.ownsRow base e i.size v n xs)
    (a : Addr) (m c : Nat) (news : List Value) (hl : news.length = m * i.size) (hnews : ∀ j u, news[j]? = some u → w.cell? (a.add j) = some u) (h1 : ∀ u ∈ news, u.oneCell' = true)
    (h63 : n + m ≤ maxLen) (hbytes : (n + m) * i.bytes ≤ 140737488355328) (hbase : base ≤ w.heap.size) :
    ∃ v' w', (Builtin.append_ #[t, t] ty #[v, .slice (some a) m c]).run P w = .ok v' w' ∧ w'.ownsRow base e i.size v' (n + m) (xs ++ news) ∧ w.grownBy w' v.ownBlock ∧
      (∀ ad u, w.cell? ad = some u → (v.ownBlock = some ad.block → ad.off < n * i.size) → w'.cell? ad = some u) ∧
      (v'.ownBlock = v.ownBlock ∨ ∃ g, v'.ownBlock = some g ∧ w.heap.size ≤ g) := by
  have hsmall : n + m ≤ 9223372036854775807 := by simp only [maxLen] at h63; omega
  have hlen : (xs ++ news).length = (n + m) * i.size := by rw [List.length_append, hown.1, hl, Nat.add_mul]
  have grown : ∀ (old : Nat), old < n + m → ∀ (row : Option Nat),
      (w.drew.alloc (.cells (xs.toArray ++ news.toArray ++ Builtin.zeroCells z.cells (grownCap w (n + m) old e - (n + m))) e)).ownsRow base e i.size
        (.slice (some ⟨w.heap.size, 0, none⟩) (n + m) (grownCap w (n + m) old e)) (n + m) (xs ++ news) ∧
      w.grownBy (w.drew.alloc (.cells (xs.toArray ++ news.toArray ++ Builtin.zeroCells z.cells (grownCap w (n + m) old e - (n + m))) e)) row ∧
      (∀ ad u, w.cell? ad = some u → (w.drew.alloc (.cells (xs.toArray ++ news.toArray ++ Builtin.zeroCells z.cells (grownCap w (n + m) old e - (n + m))) e)).cell? ad = some u) := by
    intro old ho row
    have hge := grownCap_ge w (n + m) old e
    have hcm : grownCap w (n + m) old e ≤ maxLen := grownCap_le_maxLen w (n + m) old e h63
    refine ⟨⟨hlen, .inr ⟨w.heap.size, _, _, rfl, hbase, heap_alloc_new w.drew _, hge, hcm, ?_, ?_⟩⟩, ⟨rfl, rfl, rfl, by simp, fun k hk _ => heap_alloc_old w.drew _ hk⟩, ?_⟩
    · simp only [Array.size_append, List.size_toArray, size_zeroCells, hzs, hown.1, hl, ← Nat.add_mul]
      congr 1
      omega
    · simp only [Array.toList_append, List.append_assoc]
      rw [← List.append_assoc, ← hlen]
      exact List.take_left
    · intro ad u hu
      have hlt := World.block_lt_of_cell? w ad hu
      rw [cell_alloc_lt (w := w.drew) hlt]; exact hu
  rcases hown.2 with ⟨rfl, rfl⟩ | ⟨g, cap, cur, rfl, hbg, hg, hnc, hcm, hcs, htake⟩
  · have hx : xs = [] := List.eq_nil_of_length_eq_zero (by simpa using hown.1)
    subst hx
    by_cases hm : m = 0
    · subst hm
      have hn : news = [] := List.eq_nil_of_length_eq_zero (by simpa using hl)
      subst hn
      refine ⟨.slice none 0 0, w, ?_, World.ownsRow_nil w base e i.size, ⟨rfl, rfl, rfl, Nat.le_refl _, fun _ _ _ => rfl⟩, fun ad u hu _ => hu, .inl rfl⟩
      simp [Builtin.append_, run_underlying ht, sizeOf, typeInfo, hi, Builtin.lenOf, Builtin.firstCells, loadCells, loadCellsFrom]
    · have hr := run_append_nil (P := P) w t ty e i z ht hi hz a m c news hl hnews (by omega) (by omega) (by have hb := hbytes; simp only [Nat.zero_add] at hb; omega)
      have hgr := grown 0 (by omega) (Value.ownBlock (.slice none 0 0))
      simp only [Nat.zero_add, List.nil_append, Array.empty_append] at hgr ⊢
      exact ⟨_, _, hr, hgr.1, hgr.2.1, fun ad u hu _ => hgr.2.2 ad u hu, .inr ⟨_, rfl, Nat.le_refl _⟩⟩
  · by_cases hroom : n + m ≤ cap
    · have hfit : n * i.size + news.length ≤ cur.size := by rw [hl, hcs, ← Nat.add_mul]; exact Nat.mul_le_mul_right _ hroom
      have hr := run_append_room (P := P) w t ty e i ht hi g n cap cur hg a m c news hl hnews h1 hroom hfit
      refine ⟨_, _, hr, ⟨hlen, .inr ⟨g, cap, _, rfl, hbg, setRow_heap w g cur _ e _ hg, hroom, hcm, ?_, ?_⟩⟩, ⟨rfl, rfl, rfl, by simp, fun k _ hk => setRow_other w g k _ (fun e => hk (by simp [Value.ownBlock, e]))⟩, ?_, .inl rfl⟩
      · simp only [List.size_toArray, List.length_append, List.length_take, List.length_drop, Array.length_toList]
        omega
      · rw [htake, ← hlen]
        exact List.take_left
      · intro ad u hu hoff
        by_cases hb : ad.block = g
        · have ho := hoff (by simp [Value.ownBlock, hb])
          obtain ⟨bl, off, spot⟩ := ad
          simp only at hb ho
          subst hb
          simp only [World.cell?, hg] at hu
          simp only [World.cell?, setRow_heap w bl cur _ e _ hg]
          split at hu
          · cases hu
          · rename_i hsp
            rw [if_neg hsp]
            rw [List.getElem?_toArray, List.append_assoc, List.getElem?_append_left (by rw [List.length_take, Array.length_toList, hcs]; have := Nat.mul_le_mul_right i.size hnc; omega), List.getElem?_take, if_pos ho]
            simpa using hu
        · rw [World.cell?_of_block (setRow_other w g ad.block _ hb)]; exact hu
    · have holds : ∀ j u, xs[j]? = some u → w.cell? ((⟨g, 0, none⟩ : Addr).add j) = some u := hown.cells (g := g) rfl
      have hr := run_append_grow (P := P) w t ty e i z ht hi hz ⟨g, 0, none⟩ n cap xs hown.1 holds a m c news hl hnews (by omega) (by omega) (growslice_fits (by omega) hbytes)
      have hgr := grown cap (by omega) (Value.ownBlock (.slice (some ⟨g, 0, none⟩) n cap))
      exact ⟨_, _, hr, hgr.1, hgr.2.1, fun ad u hu _ => hgr.2.2 ad u hu, .inr ⟨_, rfl, Nat.le_refl _⟩⟩

/-- An empty tail whose address nobody knows. -/
theorem run_append_none (t ty e : TypeId) (i : TypeInfo) (ht : P.underlying t = some (.slice e)) (hi : P.info? e = some i)
    (ad : Option Addr) (n cap c : Nat) (hn : n ≤ cap) (ady : Option Addr) : (Builtin.append_ #[t, t] ty #[.slice ad n cap, .slice ady 0 c]).run P w = .ok (.slice ad n cap) w := by
  have hf : (Builtin.firstCells i.size 0 (.slice ady 0 c)).run P w = .ok #[] w := by
    cases ady <;> simp [Builtin.firstCells, loadCells, loadCellsFrom]
  cases ad <;> simp [Builtin.append_, run_underlying ht, sizeOf, typeInfo, hi, Builtin.lenOf, hn, hf, storeCells]

theorem Sim.grown (h : Sim P base M0 ios σ M w a st) {w' : World} {row : Option Nat} (hg : w.grownBy w' row) (hM : ∀ ad v, M ad = some v → w'.cell? ad = some v)
    (hb : ∀ k, (st.box k).isSome = true → row ≠ some (σ.box k)) (hr : ∀ r, (st.row r).isSome = true → (σ.row r).ownBlock = none ∨ (σ.row r).ownBlock ≠ row)
    (hbase : ∀ k, row = some k → base.heap.size ≤ k) : Sim P base M0 ios σ M w' a st where
  mem := hM
  nt := h.nt
  slots := h.slots
  boxes := fun k cs hk => by
    obtain ⟨arr, E, h1, h2⟩ := h.boxes k cs hk
    refine ⟨arr, E, ?_, h2⟩
    rw [hg.block (σ.box k) (Array.getElem?_eq_some_iff.1 h1).1 (fun e => hb k (by rw [hk]; rfl) e.symm)]; exact h1
  boxM := h.boxM
  boxInj := h.boxInj
  boxBase := h.boxBase
  rows := fun r e he => by
    obtain ⟨n, xs, i, hi, ho, hm'⟩ := (h.rows r e he).own
    exact ⟨⟨n, xs, i, hi, ho.kept hg (hr r (by rw [he]; rfl)), hm'⟩⟩
  rowBox := h.rowBox
  rowInj := h.rowInj
  fr := h.fr.of_grown hg hbase
  defers := h.defers
  old := h.old
  le := h.le
  pin := h.pin

/-! ### a variable that is written -/

theorem Sim.storeBox (h : Sim P base M0 ios σ M w a st) {k : Nat} {cs ds : List CellV} {arr arr' : Array Value} {E : TypeId}
    (hk : st.box k = some cs) (ha : w.heap[σ.box k]? = some (.cells arr E (0, 0))) (hd : All2 (RdT σ st.rows M) arr'.toList ds) :
    Sim P base M0 ios σ M (w.setRow (σ.box k) arr') a { st with boxes := (k, ds) :: st.boxes } where
  mem := fun ad v hv => by
    have hne : ad.block ≠ σ.box k := fun e => by have := h.boxM k (by rw [hk]; rfl) ad e; rw [this] at hv; cases hv
    rw [World.cell?_of_block (setRow_other w (σ.box k) ad.block _ hne)]; exact h.mem ad v hv
  nt := h.nt
  slots := fun i => by
    show RepSv σ st.rows ((k, ds) :: st.boxes) M _ (st.get i)
    refine RepSv.carry (σ := σ) (boxes := st.boxes) (ok := fun _ => True) ⟨Mem.le_refl M, fun r _ hr => ⟨hr, rfl⟩⟩ (h.slots i) ?_ ?_
    · cases st.get i <;> simp [okS]
    · intro k' off _
      refine ⟨rfl, fun hs => ?_⟩
      rw [look_cons]; split
      · rfl
      · exact hs
  boxes := fun k' cs' hk' => by
    simp only [St.box, look_cons] at hk'
    by_cases he : k = k'
    · subst he; rw [if_pos rfl] at hk'; cases hk'
      exact ⟨arr', E, setRow_heap w _ arr arr' E _ ha, hd⟩
    · rw [if_neg he] at hk'
      obtain ⟨arr2, E2, h1, h2⟩ := h.boxes k' cs' hk'
      refine ⟨arr2, E2, ?_, h2⟩
      rw [setRow_other]
      · exact h1
      · intro e
        exact he (h.boxInj k k' (by rw [hk]; rfl) (by show (look k' st.boxes).isSome = true; rw [hk']; rfl) e.symm)
  boxM := fun k' hs => h.boxM k' (by
    simp only [St.box, look_cons] at hs
    by_cases he : k = k'
    · subst he; rw [hk]; rfl
    · rw [if_neg he] at hs; exact hs)
  boxInj := fun k1 k2 h1 h2 => h.boxInj k1 k2 (by
      simp only [St.box, look_cons] at h1
      by_cases he : k = k1
      · subst he; rw [hk]; rfl
      · rw [if_neg he] at h1; exact h1) (by
      simp only [St.box, look_cons] at h2
      by_cases he : k = k2
      · subst he; rw [hk]; rfl
      · rw [if_neg he] at h2; exact h2)
  boxBase := fun k1 h1 => h.boxBase k1 (by
      simp only [St.box, look_cons] at h1
      by_cases he : k = k1
      · subst he; rw [hk]; rfl
      · rw [if_neg he] at h1; exact h1)
  rows := fun r e he => by
    obtain ⟨n, xs, i, hi, ho, hm'⟩ := (h.rows r e he).own
    refine ⟨⟨n, xs, i, hi, ?_, hm'⟩⟩
    have hg : w.grownBy (w.setRow (σ.box k) arr') (some (σ.box k)) := ⟨rfl, rfl, rfl, by simp, fun j _ hj => setRow_other w _ j _ (fun e => hj (by rw [e]))⟩
    exact ho.kept hg (.inr (h.rowBox r k (by show (look r st.rows).isSome = true; have h0 : look r st.rows = some e := he; rw [h0]; rfl) (by rw [hk]; rfl)))
  rowBox := fun r k1 hr h1 => h.rowBox r k1 hr (by
      simp only [St.box, look_cons] at h1
      by_cases he : k = k1
      · subst he; rw [hk]; rfl
      · rw [if_neg he] at h1; exact h1)
  rowInj := h.rowInj
  fr := by
    have h2 : Fr ios w (w.setRow (σ.box k) arr') ∨ True := .inr trivial
    refine ⟨h.fr.os, h.fr.tape, h.fr.output, ?_, ?_⟩
    · simpa using h.fr.size
    · intro j hj hn
      have hb := h.boxBase k (by rw [hk]; rfl)
      rw [setRow_other w _ j _ (fun e => by subst e; rcases hb with hb | hb; · omega
                                            · exact hn hb)]
      exact h.fr.block j hj hn
  defers := h.defers
  old := h.old
  le := h.le
  pin := h.pin

end Go.Proofs.Ytcbehcpmojnnfaa.Bv
