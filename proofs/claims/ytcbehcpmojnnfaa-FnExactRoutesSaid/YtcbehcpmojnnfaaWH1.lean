/- Operations on rows that may be written (1): what is read of them; what is made, append. -/
import Derived.Test.YtcbehcpmojnnfaaW10
import Derived.Laws.MakeOwn
namespace Go.Proofs.Ytcbehcpmojnnfaa.Bv
set_option linter.unusedVariables false
set_option linter.unusedSimpArgs false

variable {P : Program} {base : World} {M0 : Mem} {ios : Ios} {σ : Sg} {M : Mem} {w : World} {a : Act} {st : St} {tab : Tab} {o : Oper} {next : Act → World → Prop} {Q : Exit → Act → World → Prop}

/-- All that is there. -/
def memAll (w : World) : Mem := fun ad => w.cell? ad

theorem Sim.leAll (hS : Sim P base M0 ios σ M w a st) : M.le (memAll w) := fun ad v h => hS.mem ad v h

theorem Sim.hotAt (hS : Sim P base M0 ios σ M w a st) {r : Nat} {e : TypeId} {t : Ty} {l : List (El t)} {ver : Nat} {hole : Option (Nat × Nat)} {z : Bool} (h : look r st.rows = some (.hot e t l ver hole z)) : HotOk P base σ w r e t l hole z := hS.hot.ok r e t l ver hole z h

theorem HotOk.rd {r : Nat} {e : TypeId} {t : Ty} {l : List (El t)} {z : Bool} (h : HotOk P base σ w r e t l none z) : RdC (σ.mem r) (.list t) [σ.row r] l := OwnL.rdTop h.own h.nodup fun ad u hb ht hu => h.full rfl ad u hb ht hu

theorem HotOk.leAll {r : Nat} {e : TypeId} {t : Ty} {l : List (El t)} {hole : Option (Nat × Nat)} {z : Bool} (h : HotOk P base σ w r e t l hole z) : (σ.mem r).le (memAll w) := fun ad v hv => (h.mem ad v hv).1

theorem HotOk.len {r : Nat} {e : TypeId} {t : Ty} {l : List (El t)} {hole : Option (Nat × Nat)} {z : Bool} (h : HotOk P base σ w r e t l hole z) : ∃ ad cap, σ.row r = .slice ad (List.length l) cap := by
  have := h.own
  cases hole with
  | none => obtain ⟨ad, cap, h1, _⟩ := OwnL.slice this; exact ⟨ad, cap, h1⟩
  | some p => obtain ⟨i, off⟩ := p; obtain ⟨g, o, cap, arr, e, h1, _⟩ := this; exact ⟨_, cap, h1⟩

/-- What a cell reads as now. -/
theorem valC_rep (hS : Sim P base M0 ios σ M w a st) {rows : List (Nat × RowV)} (hr : ∀ r rv, look r rows = some rv → look r st.rows = some rv) {v : Value} {c c' : CellV} (h : RdT σ st.rows M v c) (hv : valC rows c = some c') : RdV (memAll w) v c' := by
  cases c with
  | int k n => cases hv; exact h.1
  | bool b => cases hv; exact h.1
  | str s => cases hv; exact h.1
  | lst t l tag => cases hv; exact RdC.mono hS.leAll (.list t) _ _ h.1
  | und => cases hv
  | emp t =>
    cases hv
    obtain ⟨ad, rfl⟩ := h.2
    exact ⟨ad, 0, rfl, by simp, by simp, fun i hi => by simp at hi⟩
  | own t r =>
    simp only [valC] at hv
    split at hv
    · rename_i e t' l ver z hl
      split at hv
      · rename_i ht
        subst ht
        cases hv
        have hl' := hr r _ hl
        have hok := hS.hotAt hl'
        have : v = σ.row r := h.2 (by rw [hl']; rfl)
        rw [this]
        exact RdC.mono hok.leAll (.list _) _ _ hok.rd
      · cases hv
    · cases hv
  | sub t r lo hi =>
    simp only [valC] at hv
    split at hv
    · rename_i e t' l ver z hl
      split at hv
      · rename_i ht
        subst ht
        cases hv
        have hl' := hr r _ hl
        have hok := hS.hotAt hl'
        exact RdC.mono hok.leAll (.list _) _ _ ((show subOf _ (σ.row r) lo hi v from h.2 (by rw [hl']; rfl)).rd hok.rd)
      · cases hv
    · cases hv
  | bor t l r ver p =>
    simp only [valC] at hv
    split at hv
    · rename_i e t' l' ver' z hl
      rw [Bool.cond_eq_ite] at hv
      split at hv
      · rename_i he
        cases hv
        have : ver' = ver := by simpa using he
        subst this
        have hl' := hr r _ hl
        have hok := hS.hotAt hl'
        exact RdC.mono hok.leAll (.list _) _ _ (h.2 _ hl' rfl).1
      · cases hv
    · cases hv

theorem valCs_rep (hS : Sim P base M0 ios σ M w a st) {rows : List (Nat × RowV)} (hr : ∀ r rv, look r rows = some rv → look r st.rows = some rv) {vs : List Value} {cs : List CellV} (h : All2 (RdT σ st.rows M) vs cs) : ∀ {cs'}, valCs rows cs = some cs' → All2 (RdV (memAll w)) vs cs' := by
  induction h with
  | nil => intro cs' e; simp only [valCs, Option.some.injEq] at e; subst e; exact .nil
  | cons x _ ih =>
    intro cs' e
    simp only [valCs] at e
    split at e
    · rename_i c' l' h1 h2
      cases e
      exact .cons (valC_rep hS hr x h1) (ih h2)
    · cases e

theorem listOf_rep (hS : Sim P base M0 ios σ M w a st) {v : Value} {x : In} (hx : RepIn σ st M v x) {τ : Ty} {l : List (El τ)} (h : listOf? x = some ⟨τ, l⟩) : RdC (memAll w) (.list τ) [v] l ∧ isAgg' v = false := by
  unfold listOf? at h
  split at h
  · rename_i c hc
    split at h
    · rename_i t l' tag hv
      cases h
      have hr := hx.rep
      rw [hc] at hr
      exact ⟨valC_rep hS hx.rows (RepVal.one hr) hv, hr.2⟩
    · cases h
  · cases h

/-! ### New rows -/

open Classical in
/-- What may be read of a row. -/
noncomputable def memTop (w : World) (t : Ty) (v : Value) (bs : List Nat) : Mem := fun ad => if ad.block ∈ bs ∧ topOk t v ad then w.cell? ad else none

theorem memTop_some {t : Ty} {v : Value} {bs : List Nat} {ad : Addr} {u : Value} (h : memTop w t v bs ad = some u) : w.cell? ad = some u ∧ ad.block ∈ bs ∧ topOk t v ad := by
  unfold memTop at h; split at h
  · rename_i hc; exact ⟨h, hc⟩
  · cases h
theorem memTop_in {t : Ty} {v : Value} {bs : List Nat} {ad : Addr} (h1 : ad.block ∈ bs) (h2 : topOk t v ad) : memTop w t v bs ad = w.cell? ad := if_pos ⟨h1, h2⟩

noncomputable def Sg.hot (σ : Sg) (w : World) (r : Nat) (t : Ty) (v : Value) (fo : List Nat) : Sg :=
  { σ with row := fun k => if k = r then v else σ.row k, foot := fun k => if k = r then fo else σ.foot k, mem := fun k => if k = r then memTop w t v fo else σ.mem k }

theorem Sg.hot_row {σ : Sg} {w : World} {r : Nat} {t : Ty} {v : Value} {fo : List Nat} : (σ.hot w r t v fo).row r = v := by simp [Sg.hot]

theorem hotOk_new {r : Nat} {e : TypeId} {t : Ty} {l : List (El t)} {v : Value} {fo : List Nat} {z : Bool} (hi : ∃ i, P.info? e = some i ∧ i.size = size t) (hp : 0 < size t) (ho : OwnL w t v l fo) (hn : fo.Nodup)
    (hz : z = true → (∃ n xs, w.ownsRow base.heap.size e (size t) v n xs) ∧ ∀ g, v.ownBlock = some g → g ∈ fo) : HotOk P base (σ.hot w r t v fo) w r e t l none z where
  info := hi
  pos := hp
  own := by simp only [Sg.hot, if_pos]; exact ho
  nodup := by simp only [Sg.hot, if_pos]; exact hn
  mem := fun ad u hu => by simp only [Sg.hot, if_pos] at hu ⊢; exact memTop_some hu
  full := fun _ ad u hb ht hu => by simp only [Sg.hot, if_pos] at hb ht ⊢; rw [memTop_in hb ht]; exact hu
  z := fun h => by simp only [Sg.hot, if_pos]; exact hz h

theorem Free.fresh (h : Sim P base M0 ios σ M w a st) {w' : World} {g : Nat} (h1 : w.heap.size ≤ g) (h2 : g < w'.heap.size) : Free base ios σ M w' st g where
  base := .inl (Nat.le_trans h.fr.size h1)
  noM := fun ad had => by
    cases hm : M ad with
    | none => rfl
    | some v => have := h.mem_lt hm; omega
  noBox := fun k hk e => by have := h.box_lt hk; omega
  noRow := fun r hr e => by have := (h.row_lt hr e).2; omega
  noHot := fun r hr hg => by have := h.hot.lt r hr g hg; omega
  lt := h2

theorem step_nil_mem {upd : List (Nat × RowV)} {ks : List Nat} {rows : List (Nat × RowV)} {r : Nat} {rv : RowV} (h : look r (stepRows upd ks rows) = some rv) : r ∉ ks ∧ (look r upd = some rv ∨ (look r upd = none ∧ look r rows = some rv)) := by
  rw [look_step] at h
  split at h
  · rename_i hk
    refine ⟨notMem_iff.1 hk, ?_⟩
    cases hu : look r upd with
    | none => rw [hu] at h; exact .inr ⟨rfl, h⟩
    | some x => rw [hu] at h; exact .inl h
  · cases h

/-- The blocks of rows that are given up. -/
theorem Free.ofKill (h : Sim P base M0 ios σ M w a st) {w' : World} (hsz : w.heap.size ≤ w'.heap.size) {ks : List Nat} {r : Nat} {g : Nat} (hr : isHot r st.rows) (hk : r ∈ ks) (hg : g ∈ σ.foot r) : Free base ios σ M w' { st with rows := stepRows [] ks st.rows } g where
  base := h.hot.base r hr g hg
  noM := h.hot.noM r hr g hg
  noBox := fun k hk' e => h.hot.noBox r hr k hk' (by rw [e]; exact hg)
  noRow := fun r' hr' e => by
    obtain ⟨e', he'⟩ := Option.isSome_iff_exists.1 hr'
    obtain ⟨rv, h1, h2⟩ := coldOf_of he'
    obtain ⟨_, h3⟩ := step_nil_mem h1
    rcases h3 with h3 | ⟨_, h3⟩
    · cases h3
    · exact h.hot.noRow r hr r' (by rw [show st.row r' = some e' from coldOf_mk h3 h2]; rfl) g e hg
  noHot := fun r' ⟨e, t, l, ver, hole, z, hl⟩ hg' => by
    obtain ⟨h0, h1⟩ := step_nil_mem hl
    rcases h1 with h1 | ⟨_, h1⟩
    · cases h1
    · exact h.hot.apart r r' hr ⟨e, t, l, ver, hole, z, h1⟩ (fun e2 => h0 (by rw [← e2]; exact hk)) g hg hg'
  lt := Nat.lt_of_lt_of_le (h.hot.lt r hr g hg) hsz

theorem Free.ofKillFresh (h : Sim P base M0 ios σ M w a st) {w' : World} {ks : List Nat} {g : Nat} (h1 : w.heap.size ≤ g) (h2 : g < w'.heap.size) : Free base ios σ M w' { st with rows := stepRows [] ks st.rows } g := Free.fresh (h.kill ks) h1 h2

theorem noTag_kill {r : Nat} {ks : List Nat} (h : noTag r st = true) : noTag r { st with rows := stepRows [] ks st.rows } = true := by
  have h0 := look_noTag h
  unfold noTag at h ⊢
  rw [Bool.and_eq_true, Bool.and_eq_true] at h ⊢
  refine ⟨h.1, ?_⟩
  simp only [look_step]
  split <;> simp [h0, look]

/-- Rows are given up, what they had goes into a new one. -/
theorem goes_hot (hS : Sim P base M0 ios σ M w a st) {w' : World} {d : Nat} {ks : List Nat} {S : List Nat} {e : TypeId} {t : Ty} {l : List (El t)} {v : Value} {fo : List Nat} {z : Bool} (hd : o.dst = some d) (hdn : d < st.nt)
    (hsz : w.heap.size ≤ w'.heap.size) (hos : w'.os = w.os) (htp : w'.tape = w.tape) (hou : w'.output = w.output) (hkeep : ∀ k, k < w.heap.size → k ∉ S → w'.heap[k]? = w.heap[k]?)
    (hS' : ∀ g ∈ S, ∃ r ∈ ks, isHot r st.rows ∧ g ∈ σ.foot r) (hfo : ∀ g ∈ fo, g < w'.heap.size ∧ (w.heap.size ≤ g ∨ ∃ r ∈ ks, isHot r st.rows ∧ g ∈ σ.foot r))
    (hi : ∃ i, P.info? e = some i ∧ i.size = size t) (hp : 0 < size t) (ho : OwnL w' t v l fo) (hn : fo.Nodup) (hz : z = true → (∃ n xs, w'.ownsRow base.heap.size e (size t) v n xs) ∧ ∀ g, v.ownBlock = some g → g ∈ fo)
    (hfr : noTag (keyRow d 0) st = true)
    (hgo : Goes P base M0 ios a o st { sv := .val false [.own t (keyRow d 0)], nrow := [(keyRow d 0, .hot e t l 0 none z)], krow := ks } next) : next (a.put o.dst v) w' := by
  have h1 : Sim P base M0 ios σ M w' a { st with rows := stepRows [] ks st.rows } := hS.step (upd := []) (S := S) { sbox := rfl, srow := rfl, sfoot := fun _ _ => ⟨rfl, rfl⟩, size := hsz, os := hos, tape := htp, output := hou, keep := hkeep, touched := fun g hg => (by obtain ⟨r, h1, h2, h3⟩ := hS' g hg; exact ⟨r, h2, h3, .inl h1⟩), updOk := fun r rv hr => (by cases hr), foot := fun r hr => (by cases hr), apart := fun r r' hr => (by cases hr) } rfl
  have h2 := h1.newHot (r := keyRow d 0) (e := e) (t := t) (l := l) (hole := none) (z := z) (v := v) (fo := fo) (m := memTop w' t v fo) (noTag_kill hfr) (keyRow_odd d 0) (fun g hg => by
    obtain ⟨k1, k2⟩ := hfo g hg
    rcases k2 with k2 | ⟨r, m1, m2, m3⟩
    · exact Free.ofKillFresh hS k2 k1
    · exact Free.ofKill hS hsz m2 m1 m3) (hotOk_new (σ := σ) hi hp ho hn hz)
  have h3 := h2.put (d := d) (v := v) (sv := .val false [.own t (keyRow d 0)]) hdn (RepVal.mk1 ⟨by
    obtain ⟨ad, cap, e1, _⟩ := ho.slice; rw [e1]; rfl, by intro _; simp⟩ (by obtain ⟨ad, cap, e1, _⟩ := ho.slice; rw [e1]; rfl))
  unfold Goes at hgo
  rw [hd] at hgo ⊢
  refine hgo v (σ.hot w' (keyRow d 0) t v fo) M w' ?_
  rw [apply_some]
  exact h3

theorem zeros_eq : ∀ t : Ty, zeros t = zerosV t
  | .int _ => rfl
  | .bool => rfl
  | .str => rfl
  | .list _ => rfl
  | .unit => rfl
  | .pair a b => by simp [zeros, zerosV, zeros_eq a, zeros_eq b]

theorem take_flatten_replicate (zs : List Value) : ∀ (n c : Nat), n ≤ c → ((List.replicate c zs).flatten).take (n * zs.length) = (List.replicate n zs).flatten
  | 0, c, _ => by simp
  | n + 1, 0, h => by omega
  | n + 1, c + 1, h => by
    rw [List.replicate_succ, List.flatten_cons, List.replicate_succ, List.flatten_cons, Nat.add_mul, Nat.one_mul, Nat.add_comm (n * zs.length), List.take_length_add_append, take_flatten_replicate zs n c (by omega)]

theorem op_makeSlice (hT : TabOk P tab) (hS : Sim P base M0 ios σ M w a st) {t e : TypeId} {te : TI} {τ : Ty} {fs : List (Nat × TypeId)} {b d : Nat} {x y : Operand} {n m : Int} {kn km : IntKind}
    (ho : o.op = .makeSlice t x y) (hd : o.dst = some d) (hdn : d < st.nt) (h : look t tab = some ⟨.list τ, false, fs, e, b⟩) (he : look e tab = some te) (hte : te.ty = τ) (hpos : 0 < size τ)
    (hx : a.eval x = .int kn n) (hy : a.eval y = .int km m) (h0 : 0 ≤ n) (h1 : n ≤ m) (h63 : m ≤ 9223372036854775807) (hb : (te.bytes : Int) * m ≤ 140737488355328)
    (hfr : noTag (keyRow d 0) st = true)
    (hn : Goes P base M0 ios a o st { sv := .val false [.own τ (keyRow d 0)], nrow := [(keyRow d 0, .hot e τ (List.replicate n.toNat (dfl τ)) 0 none true)] } next) : o.wp P a w next Q := by
  obtain ⟨i, z, hi, hs, hib, hz, hzc⟩ := (hT e te he).info
  rw [hte] at hs hzc
  have hzl : z.cells.size = size τ := by rw [← Array.length_toList, hzc, zeros_length]
  have hrun := run_make (P := P) w t e i z (und_list hT h) hi hz kn km n m h0 h1 (by rw [hib]; omega) h63
  rw [hs] at hrun
  refine wp_val (v := .slice (some ⟨w.heap.size, 0, none⟩) n.toNat m.toNat) (w' := w.alloc (.cells (madeCells z.cells (m.toNat * size τ)) e)) (by simp [execOp, ho, hx, hy, hrun]) ?_
  have harr : (madeCells z.cells (m.toNat * size τ)).toList = (List.replicate m.toNat (zeros τ)).flatten := by
    have h1 := range_zeros (zeros τ) (by rw [zeros_length]; exact hpos) m.toNat
    rw [zeros_length] at h1
    rw [← h1]
    show ((Array.range (m.toNat * size τ)).map (fun j => z.cells[j % z.cells.size]!)).toList = _
    rw [Array.toList_map, Array.toList_range]
    apply List.map_congr_left
    intro j _
    rw [hzl, ← hzc]
    simp only [getElem!_def, Array.getElem?_toList]
  have hl : List.length (List.replicate n.toNat (dfl τ)) = n.toNat := List.length_replicate
  have hmm : m.toNat ≤ maxLen := by simp only [maxLen]; omega
  have hsz : (madeCells z.cells (m.toNat * size τ)).size = m.toNat * size τ := size_madeCells _ _
  refine goes_hot (S := []) (fo := [w.heap.size]) (l := List.replicate n.toNat (dfl τ)) (e := e) (t := τ) (z := true) (ks := []) hS hd hdn (by simp) rfl rfl rfl (fun k hk _ => heap_alloc_old w _ hk) (fun g hg => by cases hg) (fun g hg => by
    rw [List.mem_singleton.1 hg]; exact ⟨by simp, .inl (Nat.le_refl _)⟩) ⟨i, hi, hs⟩ hpos ?_ (by simp) ?_ hfr hn
  · have hmk := OwnL.mk (t := τ) (o := 0) (cap := m.toNat) (l := List.replicate n.toNat (dfl τ)) (b1 := []) (heap_alloc_new w (.cells (madeCells z.cells (m.toNat * size τ)) e)) (by rw [hl]; omega) hmm (by rw [hsz]; omega) (by
      rw [hl, List.drop_zero, harr, show n.toNat * size τ = n.toNat * (zeros τ).length by rw [zeros_length], take_flatten_replicate _ _ _ (by omega), zeros_eq]
      exact OwnCs.zerosN τ n.toNat)
    rw [hl] at hmk
    exact hmk
  · intro _
    refine ⟨⟨n.toNat, _, ?_, .inr ⟨w.heap.size, m.toNat, _, rfl, hS.fr.size, heap_alloc_new w _, by omega, hmm, hsz, rfl⟩⟩, fun g hg => by rw [ownBlock_slice] at hg; cases hg; simp⟩
    rw [List.length_take, Array.length_toList, hsz, Nat.min_eq_left (Nat.mul_le_mul_right _ (by omega))]

end Go.Proofs.Ytcbehcpmojnnfaa.Bv
