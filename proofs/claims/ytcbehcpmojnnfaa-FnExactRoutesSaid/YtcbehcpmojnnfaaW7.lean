/- The operations one by one (1): moves, variables, reads. -/
import Derived.Test.YtcbehcpmojnnfaaW6
namespace Go.Proofs.Ytcbehcpmojnnfaa.Bv
set_option linter.unusedVariables false
set_option linter.unusedSimpArgs false

variable {P : Program} {base : World} {M0 : Mem} {ios : Ios} {σ : Sg} {M : Mem} {w : World} {a : Act} {st : St} {tab : Tab} {o : Oper} {next : Act → World → Prop} {Q : Exit → Act → World → Prop}

/-- What stands behind an operation. -/
def Goes (P : Program) (base : World) (M0 : Mem) (ios : Ios) (a : Act) (o : Oper) (st : St) (e : Eff) (next : Act → World → Prop) : Prop :=
  ∀ v σ' M' w', Sim P base M0 ios σ' M' w' (a.put o.dst v) (e.apply o.dst st) → next (a.put o.dst v) w'

theorem wp_val {v : Value} {w' : World} (hr : (execOp a.eval o).run P w = .ok (.value v) w') (h : next (a.put o.dst v) w') : o.wp P a w next Q := by
  unfold Oper.wp; rw [hr]; exact h

theorem Sim.putO (h : Sim P base M0 ios σ M w a st) (hd : ∀ d, o.dst = some d → d < st.nt) {v : Value} {sv : Sv} (hv : RepSv σ st.rows st.boxes M v sv) :
    Sim P base M0 ios σ M w (a.put o.dst v) (Eff.apply { sv := sv } o.dst st) := by
  cases hdst : o.dst with
  | none => exact h
  | some d => exact h.put (hd d hdst) hv

theorem info_zero (hT : TabOk P tab) {t : TypeId} {ti : TI} (h : look t tab = some ti) (w : World) : ∃ z, (zeroValue t).run P w = .ok z w ∧ z.cells.toList = zeros ti.ty := by
  obtain ⟨i, z, hi, _, _, hz, hc⟩ := (hT t ti h).info
  exact ⟨z, by simp [zeroValue, typeInfo, hi, hz], hc⟩

theorem info_size (hT : TabOk P tab) {t : TypeId} {ti : TI} (h : look t tab = some ti) (w : World) : (sizeOf t).run P w = .ok (size ti.ty) w := by
  obtain ⟨i, z, hi, hs, _, _, _⟩ := (hT t ti h).info
  simp [sizeOf, typeInfo, hi, hs]

theorem zeros_rep (rows : List (Nat × RowV)) : ∀ t : Ty, All2 (RdT σ rows M) (zeros t) (zeroC t)
  | .int _ => .cons ⟨rfl, trivial⟩ .nil
  | .bool => .cons ⟨rfl, trivial⟩ .nil
  | .str => .cons ⟨rfl, trivial⟩ .nil
  | .list τ => .cons ⟨RdC.nilSlice M τ, by simp [tagOk]⟩ .nil
  | .unit => .nil
  | .pair x y => (zeros_rep rows x).append (zeros_rep rows y)

theorem op_alloc (hT : TabOk P tab) (hS : Sim P base M0 ios σ M w a st) {t : TypeId} {ti : TI} {d : Nat} (ho : o.op = .alloc t) (hd : o.dst = some d) (hdn : d < st.nt)
    (ht : look t tab = some ti) (hf : noBox (d + 1) st = true) (hn : Goes P base M0 ios a o st { sv := .box (d + 1) 0, nbox := some (zeroC ti.ty) } next) : o.wp P a w next Q := by
  obtain ⟨z, hz, hzc⟩ := info_zero hT ht w
  refine wp_val (v := .pointer (some ⟨w.heap.size, 0, none⟩)) (w' := w.alloc (.cells z.cells t)) ?_ ?_
  · simp [execOp, ho, Instr.alloc, hz, newVar, newRow, newObj, Sem.run]
  · have hS' := hS.allocBox (d := d + 1) (by omega) hf (arr := z.cells) (E := t) (cs := zeroC ti.ty) (by rw [hzc]; exact zeros_rep _ _)
    refine hn _ { σ with box := fun k => if k = d + 1 then w.heap.size else σ.box k } M _ ?_
    have := hS'.put (d := d) (v := .pointer (some ⟨w.heap.size, 0, none⟩)) (sv := .box (d + 1) 0) hdn ⟨by simp [Addr.add], by simp [look_cons]⟩
    rw [hd]
    exact this

theorem op_box (hS : Sim P base M0 ios σ M w a st) {t : TypeId} {x : Operand} {cs : List CellV} {d : Nat} (ho : o.op = .box t x) (hd : o.dst = some d) (hdn : d < st.nt)
    (hx : All2 (RdT σ st.rows M) (a.eval x).cells.toList cs) (hf : noBox (d + 1) st = true) (hn : Goes P base M0 ios a o st { sv := .box (d + 1) 0, nbox := some cs } next) : o.wp P a w next Q := by
  refine wp_val (v := .pointer (some ⟨w.heap.size, 0, none⟩)) (w' := w.alloc (.cells (a.eval x).cells t)) ?_ ?_
  · simp [execOp, ho, Instr.box, newVar, newRow, newObj, Sem.run]
  · have hS' := hS.allocBox (d := d + 1) (by omega) hf (E := t) hx
    refine hn _ { σ with box := fun k => if k = d + 1 then w.heap.size else σ.box k } M _ ?_
    have := hS'.put (d := d) (v := .pointer (some ⟨w.heap.size, 0, none⟩)) (sv := .box (d + 1) 0) hdn ⟨by simp [Addr.add], by simp [look_cons]⟩
    rw [hd]
    exact this

theorem isAgg_run (hT : TabOk P tab) {t : TypeId} {ti : TI} (h : look t tab = some ti) (w : World) : (isAgg t).run P w = .ok ti.agg w := by
  have hu := (hT t ti h).und
  unfold isAgg
  cases hg : ti.agg with
  | true =>
    rw [hg] at hu
    simp only [if_true] at hu
    obtain ⟨fs, hfs, _⟩ := hu
    simp [run_underlying hfs]
  | false =>
    rw [hg] at hu
    simp only [Bool.false_eq_true, if_false] at hu
    cases hty : ti.ty <;> rw [hty] at hu <;> simp only at hu <;> first | exact hu.elim | simp [run_underlying hu]

/-- Cells in a row at an address are loaded as a value. -/
theorem run_loadVar_cells (hT : TabOk P tab) {t : TypeId} {ti : TI} (h : look t tab = some ti) (hag : ti.agg = true ∨ size ti.ty = 1) (ad : Addr) (vs : List Value) (hl : vs.length = size ti.ty)
    (hc : ∀ j u, vs[j]? = some u → w.cell? (ad.add j) = some u) (h1 : ∀ u ∈ vs, u.oneCell' = true) :
    ∃ v, (loadVar t ad).run P w = .ok v w ∧ v.cells.toList = vs ∧ isAgg' v = ti.agg := by
  unfold loadVar
  rw [Sem.run_bind, isAgg_run hT h]
  simp only [Result.andThen_ok]
  cases hg : ti.agg with
  | true =>
    simp only [if_true]
    have := run_loadCells_list (P := P) w ad vs hc
    rw [hl] at this
    exact ⟨.agg vs.toArray, by simp [info_size hT h, this], by simp [Value.cells], rfl⟩
  | false =>
    rw [hg] at hag
    have hs : size ti.ty = 1 := by simpa using hag
    rw [hs] at hl
    match vs, hl with
    | [u], _ =>
      have hu := hc 0 u (by simp)
      have h1u := h1 u (by simp)
      refine ⟨u, ?_, ?_, ?_⟩
      · simp only [Bool.false_eq_true, if_false]
        have : w.cell? ad = some u := by rw [Addr.add_zero'] at hu; exact hu
        simp [load, Sem.run, this]
      · cases u <;> simp [Value.cells, Value.oneCell'] at h1u ⊢
      · cases u <;> simp [isAgg', Value.oneCell'] at h1u ⊢

theorem All2.getL {α β : Type} {R : α → β → Prop} {as : List α} {bs : List β} (h : All2 R as bs) : ∀ {i : Nat} {x}, as[i]? = some x → ∃ y, bs[i]? = some y ∧ R x y := by
  induction h with
  | nil => intro i b hb; simp at hb
  | cons x _ ih =>
    intro i b hb
    cases i with
    | zero => simp at hb; subst hb; exact ⟨_, by simp, x⟩
    | succ i => simp at hb; obtain ⟨y, hy, hr⟩ := ih hb; exact ⟨y, by simpa using hy, hr⟩

theorem All2.one {σ : Sg} {rows : List (Nat × RowV)} {M : Mem} {vs : List Value} {cs : List CellV} (h : All2 (RdT σ rows M) vs cs) : ∀ u ∈ vs, u.oneCell' = true := by
  intro u hu
  obtain ⟨i, hi⟩ := List.getElem?_of_mem hu
  obtain ⟨c, _, hr⟩ := h.getL hi
  exact hr.1.oneCell

/-- The cells behind a read-only pointer. -/
theorem ptr_cells {rows : List (Nat × RowV)} {ad : Addr} {M : Mem} : ∀ {cs : List CellV} {o : Nat}, (∀ i c, cs[i]? = some c → ∃ u, M (ad.add (o + i)) = some u ∧ RdT σ rows M u c) →
    ∃ vs, All2 (RdT σ rows M) vs cs ∧ ∀ j u, vs[j]? = some u → M (ad.add (o + j)) = some u
  | [], o, _ => ⟨[], .nil, fun j u h => by simp at h⟩
  | c :: r, o, h => by
    obtain ⟨u, hu, hr⟩ := h 0 c (by simp)
    obtain ⟨vs, h1, h2⟩ := ptr_cells (ad := ad) (cs := r) (o := o + 1) (fun i c' hc => by
      have := h (i + 1) c' (by simpa using hc)
      rwa [show o + (i + 1) = o + 1 + i by omega] at this)
    refine ⟨u :: vs, .cons hr h1, ?_⟩
    intro j x hx
    cases j with
    | zero => simp at hx; subst hx; exact hu
    | succ j => simp at hx; have := h2 j x hx; rwa [show o + 1 + j = o + (j + 1) by omega] at this

theorem op_load_box (hT : TabOk P tab) (hS : Sim P base M0 ios σ M w a st) {t : TypeId} {ti : TI} {x : Operand} {k off : Nat} {cs : List CellV} (ho : o.op = .load t x) (hd : ∀ d, o.dst = some d → d < st.nt)
    (ht : look t tab = some ti) (hx : a.eval x = .pointer (some ((⟨σ.box k, 0, none⟩ : Addr).add off))) (hk : st.box k = some cs) (hl : off + size ti.ty ≤ cs.length) (hag : ti.agg = true ∨ size ti.ty = 1)
    (hn : Goes P base M0 ios a o st { sv := .val ti.agg ((cs.drop off).take (size ti.ty)) } next) : o.wp P a w next Q := by
  obtain ⟨arr, E, hh, hc⟩ := hS.boxes k cs hk
  have h2 := (hc.drop off).take (size ti.ty)
  obtain ⟨v, hv, hvc, hva⟩ := run_loadVar_cells (w := w) hT ht hag ((⟨σ.box k, 0, none⟩ : Addr).add off) ((arr.toList.drop off).take (size ti.ty))
    (by rw [List.length_take, List.length_drop, hc.length]; omega)
    (by
      intro j u hu
      rw [add_lit, add_lit, cell_of_row w (σ.box k) _ arr E (0, 0) hh]
      rw [List.getElem?_take] at hu
      split at hu
      · rw [List.getElem?_drop] at hu; rw [Nat.zero_add]; simpa using hu
      · cases hu)
    h2.one
  refine wp_val (v := v) (w' := w) ?_ (hn _ σ M w (hS.putO hd ⟨by rw [hvc]; exact h2, hva⟩))
  simp [execOp, ho, Instr.loadAt, Instr.sureAddr, hx, hv]

theorem op_load_ptr (hT : TabOk P tab) (hS : Sim P base M0 ios σ M w a st) {t : TypeId} {ti : TI} {x : Operand} {cs : List CellV} (ho : o.op = .load t x) (hd : ∀ d, o.dst = some d → d < st.nt)
    (ht : look t tab = some ti) (hx : RepPtr σ st.rows M (a.eval x) cs) (hl : size ti.ty ≤ cs.length) (hag : ti.agg = true ∨ size ti.ty = 1)
    (hn : Goes P base M0 ios a o st { sv := .val ti.agg (cs.take (size ti.ty)) } next) : o.wp P a w next Q := by
  obtain ⟨ad, hx, hc⟩ := hx
  obtain ⟨vs, h1, h2⟩ := ptr_cells (σ := σ) (rows := st.rows) (ad := ad) (cs := cs) (o := 0) (by simpa using hc)
  have h3 := h1.take (size ti.ty)
  obtain ⟨v, hv, hvc, hva⟩ := run_loadVar_cells (w := w) hT ht hag ad (vs.take (size ti.ty))
    (by rw [List.length_take, h1.length]; omega)
    (by
      intro j u hu
      rw [List.getElem?_take] at hu
      split at hu
      · exact hS.mem _ _ (by simpa using h2 j u hu)
      · cases hu)
    h3.one
  refine wp_val (v := v) (w' := w) ?_ (hn _ σ M w (hS.putO hd ⟨by rw [hvc]; exact h3, hva⟩))
  simp [execOp, ho, Instr.loadAt, Instr.sureAddr, hx, hv]

theorem op_store (hT : TabOk P tab) (hS : Sim P base M0 ios σ M w a st) {t : TypeId} {ti : TI} {x y : Operand} {k off : Nat} {cs ds : List CellV} (ho : o.op = .store t x y) (hdn : o.dst = none)
    (ht : look t tab = some ti) (hx : a.eval x = .pointer (some ((⟨σ.box k, 0, none⟩ : Addr).add off))) (hk : st.box k = some cs) (hy : All2 (RdT σ st.rows M) (a.eval y).cells.toList ds)
    (hl : ds.length = size ti.ty) (hl2 : off + ds.length ≤ cs.length)
    (hn : Goes P base M0 ios a o st { sv := .und, sbox := some (k, cs.take off ++ (ds ++ cs.drop (off + ds.length))) } next) : o.wp P a w next Q := by
  obtain ⟨arr, E, hh, hc⟩ := hS.boxes k cs hk
  have hsz : (a.eval y).cells.toList.length = ds.length := hy.length
  have hst := run_storeCells_at P (σ.box k) off E (a.eval y).cells.toList 0 arr w hh (by rw [hsz, Nat.add_zero, ← Array.length_toList, hc.length]; exact hl2) hy.one
  have hS' := hS.storeBox (ds := cs.take off ++ (ds ++ cs.drop (off + ds.length))) (arr' := (arr.toList.take off ++ (a.eval y).cells.toList ++ arr.toList.drop (off + (a.eval y).cells.toList.length)).toArray) hk hh
    (by rw [hsz]; simpa using ((hc.take off).append (hy.append (hc.drop (off + ds.length)))))
  have hgo := hn undef σ M (w.setRow (σ.box k) (arr.toList.take off ++ (a.eval y).cells.toList ++ arr.toList.drop (off + (a.eval y).cells.toList.length)).toArray)
  rw [hdn] at hgo
  unfold Oper.wp
  have hrun : (execOp a.eval o).run P w = .ok .skip (w.setRow (σ.box k) (arr.toList.take off ++ (a.eval y).cells.toList ++ arr.toList.drop (off + (a.eval y).cells.toList.length)).toArray) := by
    simp only [Nat.add_zero] at hst
    have hsz' : (a.eval y).cells.size = size ti.ty := by rw [← Array.length_toList, hsz, hl]
    have hx' : a.eval x = .pointer (some ⟨σ.box k, off, none⟩) := by rw [hx, add_lit, Nat.zero_add]
    simp [execOp, ho, Instr.storeAt, Instr.sureAddr, hx', storeVar, info_size hT ht, hsz']
    simp only [Array.length_toList, List.append_assoc] at hst
    rw [hsz'] at hst
    simp [hst]
  rw [hrun]
  show next (a.put o.dst undef) _
  rw [hdn]
  exact hgo hS'

end Go.Proofs.Ytcbehcpmojnnfaa.Bv
