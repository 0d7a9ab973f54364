/- The operations one by one (4): slices that are written out, append, lengths, conversions. -/
import Derived.Test.YtcbehcpmojnnfaaW9
import Derived.Laws.BytesString
namespace Go.Proofs.Ytcbehcpmojnnfaa.Bv
set_option linter.unusedVariables false
set_option linter.unusedSimpArgs false

variable {P : Program} {base : World} {M0 : Mem} {ios : Ios} {σ : Sg} {M : Mem} {w : World} {a : Act} {st : St} {tab : Tab} {o : Oper} {next : Act → World → Prop} {Q : Exit → Act → World → Prop}

theorem range_zeros (zs : List Value) (h : 0 < zs.length) : ∀ n, (List.range (n * zs.length)).map (fun i => zs[i % zs.length]!) = (List.replicate n zs).flatten
  | 0 => by simp
  | n + 1 => by
    rw [Nat.add_mul, Nat.one_mul, Nat.add_comm, List.range_add, List.map_append, List.replicate_succ, List.flatten_cons, List.map_map, ← range_zeros zs h n]
    congr 1
    · apply List.ext_getElem
      · simp
      · intro i h1 h2
        simp at h1
        simp [Nat.mod_eq_of_lt h1, h1]
    · apply List.map_congr_left
      intro i _
      simp [Nat.add_mod_left]

theorem zerosC_rep {rows : List (Nat × RowV)} (τ : Ty) : ∀ n, All2 (RdT σ rows M) (List.replicate n (zeros τ)).flatten (zerosC τ n)
  | 0 => by simp; exact .nil
  | n + 1 => by rw [List.replicate_succ, List.flatten_cons]; exact (zeros_rep rows τ).append (zerosC_rep τ n)

theorem zeros_length : ∀ t : Ty, (zeros t).length = size t
  | .int _ => rfl
  | .bool => rfl
  | .str => rfl
  | .list _ => rfl
  | .unit => rfl
  | .pair a b => by simp [zeros, size, zeros_length a, zeros_length b]

theorem apply_some (e : Eff) (d : Nat) (st : St) : e.apply (some d) st = { nt := st.nt, slots := (d, e.sv) :: st.slots, boxes := (match e.sbox with
      | some p => p :: (match e.nbox with | some cs => (d + 1, cs) :: st.boxes | none => st.boxes)
      | none => match e.nbox with | some cs => (d + 1, cs) :: st.boxes | none => st.boxes), rows := e.nrow ++ stepRows e.urow e.krow st.rows, olds := st.olds.filter (fun j => !(j == d)) } := by
  unfold Eff.apply
  rw [rowsOf_eq]
  cases e.sbox <;> cases e.nbox <;> rfl

theorem keyRow_odd (d i : Nat) : keyRow d i % 2 = 1 := by unfold keyRow; omega
theorem keyNI_odd (d i : Nat) : keyNI d i % 2 = 1 := by unfold keyNI; omega
theorem keyRow_ne (d i : Nat) : keyRow d i ≠ 0 := by unfold keyRow; omega

theorem op_buildSlice (hT : TabOk P tab) (hS : Sim P base M0 ios σ M w a st) {t e : TypeId} {te : TI} {τ : Ty} {fs : List (Nat × TypeId)} {b n d : Nat} {parts : Array (Nat × Operand)} {ps : List (Nat × List CellV)} {cs : List CellV} {l : List (El τ)}
    (ho : o.op = .buildSlice t n parts) (hd : o.dst = some d) (hdn : d < st.nt) (h : look t tab = some ⟨.list τ, false, fs, e, b⟩) (he : look e tab = some te) (hte : te.ty = τ) (hpos : 0 < size τ) (hlim : n * size τ ≤ 16777216)
    (hp : All2 (fun (p : Nat × Value) (q : Nat × List CellV) => p.1 = q.1 ∧ All2 (RdT σ st.rows M) p.2.cells.toList q.2) (parts.toList.map fun p => (p.1, a.eval p.2)) ps)
    (hf : fillC (fun i => some (i * size τ, size τ)) (zerosC τ n) ps = some cs) (hu : unflatN τ n cs = some (l, []))
    (hfr : noTag (keyRow d 0) st = true)
    (hn : Goes P base M0 ios a o st { sv := .val false [.lst τ l (some (keyRow d 0))], nrow := [(keyRow d 0, .cold e)] } next) : o.wp P a w next Q := by
  obtain ⟨i, z, hi, hs, _, hz, hzc⟩ := (hT e te he).info
  rw [hte] at hs hzc
  have hzl : z.cells.size = size τ := by rw [← Array.length_toList, hzc, zeros_length]
  -- the cells before the parts are laid
  let arr0 : Array Value := (Array.range (n * size τ)).map (fun j => z.cells[j % z.cells.size]!)
  have harr0 : arr0.toList = (List.replicate n (zeros τ)).flatten := by
    have h1 := range_zeros (zeros τ) (by rw [zeros_length]; exact hpos) n
    rw [zeros_length] at h1
    rw [← h1]
    show ((Array.range (n * size τ)).map (fun j => z.cells[j % z.cells.size]!)).toList = _
    rw [Array.toList_map, Array.toList_range]
    apply List.map_congr_left
    intro j _
    rw [hzl, ← hzc]
    simp only [getElem!_def, Array.getElem?_toList]
  obtain ⟨arr', ha, hr⟩ := fill_rep (σ := σ) (M := M) (rows := st.rows) (place' := fun i => some (i * size τ, size τ)) hp (arr := arr0) (by rw [harr0]; exact zerosC_rep τ n) (fun _ _ _ h => h) hf
  obtain ⟨css, vr, hv, hl, hvr, hln⟩ := unflatN_rep hr hu
  have hvr0 : vr = [] := by cases hvr; rfl
  subst hvr0
  simp only [List.append_nil] at hv
  have hsz : arr'.size = n * size τ := by rw [← Array.length_toList, hv, All2.flatLen hl, hln]
  have hrun : (execOp a.eval o).run P w = .ok (.value (.slice (some ⟨w.heap.size, 0, none⟩) n n)) (w.alloc (.cells arr' e)) := by
    have hue := und_list hT h
    have hzv : (zeroValue e).run P w = .ok z w := by simp [zeroValue, typeInfo, hi, hz]
    have hso : (sizeOf e).run P w = .ok (size τ) w := by simp [sizeOf, typeInfo, hi, hs]
    by_cases hn0 : n = 0
    · subst hn0
      have he0 : arr0 = #[] := by apply Array.ext'; simp [harr0]
      rw [he0] at ha
      simp only [execOp, ho, Instr.buildSlice]
      simp [run_underlying hue, hso, newRow, newObj, Sem.run]
      rw [show (Array.map (fun x => (default : Value)) (Array.range 0)) = #[] by apply Array.ext'; simp, ha]
      simp [Sem.run]
    · have hne : ¬ n * size τ = 0 := by
        rw [Nat.mul_eq_zero]; omega
      have hne' : ¬ (n = 0 ∨ size τ = 0) := by omega
      simp only [execOp, ho, Instr.buildSlice]
      simp [run_underlying hue, hso, newRow, newObj, Sem.run, show ¬ 16777216 < n * size τ by omega, hne', hzv, show (Array.map (fun x => z.cells[x % z.cells.size]!) (Array.range (n * size τ))) = arr0 from rfl, ha]
      intro h0
      exact absurd h0 hne
  refine wp_val hrun ?_
  -- the state behind it
  have hg : w.grownBy (w.alloc (.cells arr' e)) none := World.grownBy_alloc w _ none
  have hS1 := hS.grown hg (fun ad v hv => by rw [cell_alloc_lt (hS.mem_lt hv)]; exact hS.mem ad v hv) (fun k _ e => by cases e) (fun r _ => by cases (σ.row r).ownBlock <;> simp) (fun k e => by cases e) (fun r hr g e => by cases e)
  have hnl : n ≤ maxLen := by
    have h1 : n ≤ n * size τ := Nat.le_mul_of_pos_right n hpos
    simp only [maxLen]; omega
  have hown : (w.alloc (.cells arr' e)).ownsRow base.heap.size e i.size (.slice (some ⟨w.heap.size, 0, none⟩) n n) n css.flatten :=
    ⟨by rw [All2.flatLen hl, hln, hs], .inr ⟨w.heap.size, n, arr', rfl, hS.fr.size, heap_alloc_new w _, Nat.le_refl _, hnl, by rw [hsz, hs], by rw [hs, ← hsz, ← hv, ← Array.length_toList, List.take_length]⟩⟩
  obtain ⟨M', hle, hS2, hrep⟩ := hS1.ownRow (r := keyRow d 0) (τ := τ) (css := css) (l := l) (keyRow_ne d 0) hpos hfr (keyRow_odd d 0) (fun r' hr' g hg hgf => by rw [ownBlock_slice] at hg; have h2 := Option.some.inj hg; have := hS.hot.lt r' hr' g hgf; omega) hi hs hown rfl hl
    (fun g hg ad had hoff => by
      rw [ownBlock_slice] at hg; have h2 := Option.some.inj hg
      cases hM : M ad with
      | none => rfl
      | some v => have := hS.mem_lt hM; omega)
    (fun k hk e => by rw [ownBlock_slice] at e; have h2 := Option.some.inj e; have := hS.box_lt hk; omega)
    (fun r' hr' => by
      rw [ownBlock_slice]
      cases hb : (σ.row r').ownBlock with
      | none => exact .inl rfl
      | some g => right; intro e; have h2 := Option.some.inj e; have := (hS.row_lt hr' hb).2; omega)
  have hfin := hS2.put (d := d) hdn hrep
  unfold Goes at hn
  rw [hd] at hn ⊢
  refine hn _ { σ with row := fun k => if k = keyRow d 0 then .slice (some ⟨w.heap.size, 0, none⟩) n n else σ.row k } M' _ ?_
  rw [apply_some]
  simp only [stepRows_nil]
  exact hfin

theorem look_single {α : Type} (k : Nat) (x : α) (r : List (Nat × α)) : look k ((k, x) :: r) = some x := by simp [look_cons]

theorem kill_row {r r' : Nat} (h : (({ st with rows := stepRows [] [r] st.rows } : St).row r').isSome = true) : r' ≠ r ∧ (st.row r').isSome = true := by
  simp only [St.row, coldOf, look_step] at h
  by_cases e : r' = r
  · subst e; simp [notMem] at h
  · have : notMem r' [r] = true := by simp [notMem]; exact fun e2 => e e2.symm
    rw [if_pos this] at h
    exact ⟨e, h⟩
theorem kill_hot {r r' : Nat} (h : isHot r' (stepRows [] [r] st.rows)) : r' ≠ r ∧ isHot r' st.rows := by
  obtain ⟨e, t, l, ver, hole, z, hl⟩ := h
  rw [look_step] at hl
  by_cases e2 : r' = r
  · subst e2; simp [notMem] at hl
  · have : notMem r' [r] = true := by simp [notMem]; exact fun e3 => e2 e3.symm
    rw [if_pos this] at hl
    exact ⟨e2, e, t, l, ver, hole, z, hl⟩

/-- append to a row of the call's own, or to nothing. -/
theorem op_append (hT : TabOk P tab) (hS : Sim P base M0 ios σ M w a st) {t u e ty : TypeId} {te : TI} {τ : Ty} {fs fs2 : List (Nat × TypeId)} {b b2 d r : Nat} {x y : Operand} {l l' : List (El τ)} {tag : Option Nat}
    (ho : o.op = .call { callee := .builtin .append, args := #[x, y], argTypes := #[t, t] }) (hd : o.dst = some d) (hdn : d < st.nt)
    (h : look t tab = some ⟨.list τ, false, fs, e, b⟩) (he : look e tab = some te) (hte : te.ty = τ) (hpos : 0 < size τ)
    (hx : RepSv σ st.rows st.boxes M (a.eval x) (.val false [.lst τ l (some r)])) (hr : r = 0 ∨ st.row r = some e)
    (hy : RepSv σ st.rows st.boxes M (a.eval y) (.val false [.lst τ l' tag]))
    (hlen : l.length + l'.length ≤ 9223372036854775807) (hby : (l.length + l'.length) * te.bytes ≤ 140737488355328)
    (hfr : noTag (keyRow d 0) st = true)
    (hn : Goes P base M0 ios a o st { sv := .val false [.lst τ (l ++ l') (some (keyRow d 0))], nrow := [(keyRow d 0, .cold e)], krow := [r] } next) : o.wp P a w next Q := by
  obtain ⟨i, z, hi, hs, hib, hz, hzc⟩ := (hT e te he).info
  rw [hte] at hs hzc
  have hzl : z.cells.size = i.size := by rw [← Array.length_toList, hzc, zeros_length, hs]
  have hue := und_list hT h
  have hxr := (RepVal.one hx)
  have hyr := (RepVal.one hy)
  obtain ⟨adx, capx, cssx, ex, hlx, hmx, hcx, hax⟩ := RdC.cells hxr.1
  obtain ⟨ady, capy, cssy, ey, hly, hmy, hcy, hay⟩ := RdC.cells hyr.1
  -- what is owned of x
  have hown : ∃ xs, w.ownsRow base.heap.size e i.size (a.eval x) l.length xs ∧ cssx.flatten = xs ∧ (∀ g, (a.eval x).ownBlock = some g → ∀ ad, ad.block = g → l.length * i.size ≤ ad.off → M ad = none) ∧
      (∀ k, (st.box k).isSome = true → (a.eval x).ownBlock ≠ some (σ.box k)) ∧ (∀ r', (st.row r').isSome = true → r' ≠ r → (σ.row r').ownBlock = none ∨ (σ.row r').ownBlock ≠ (a.eval x).ownBlock) ∧ (∀ r', isHot r' st.rows → ∀ g, (a.eval x).ownBlock = some g → g ∉ σ.foot r') := by
    rcases Nat.eq_zero_or_pos r with h0 | h0
    · have hv : a.eval x = .slice none 0 0 := by have := hxr.2; simp only [tagOk, if_pos h0] at this; exact this
      have hl0 : l.length = 0 := by rw [hv] at ex; injection ex with _ e2 _; exact e2.symm
      have hl : l = [] := List.eq_nil_of_length_eq_zero hl0
      subst hl
      cases hcx
      rw [hv]
      exact ⟨[], World.ownsRow_nil _ _ _ _, rfl, fun g hg => by simp [Value.ownBlock] at hg, fun k _ => by simp [Value.ownBlock], fun r' _ _ => (by show _ ∨ _ ≠ none; cases (σ.row r').ownBlock <;> simp), fun r' _ g hg => by simp [Value.ownBlock] at hg⟩
    · have hre : st.row r = some e := by rcases hr with hr | hr; · omega
                                         · exact hr
      have hv : a.eval x = σ.row r := by
        have := hxr.2; simp only [tagOk, if_neg (by omega : ¬ r = 0)] at this
        exact this (row_some (by rw [hre]; rfl))
      obtain ⟨n, xs, i', hi', ho', hm'⟩ := (hS.rows r e hre).own
      rw [hi] at hi'; cases hi'
      rw [← hv] at ho' hm'
      have hn : n = l.length := by
        rcases ho'.2 with ⟨h1, h2⟩ | ⟨g, cap, cur, h1, _⟩
        · rw [h1] at ex; injection ex with _ e2 _; omega
        · rw [h1] at ex; injection ex with _ e2 _
      subst hn
      refine ⟨xs, ho', ?_, hm', fun k hk => by rw [hv]; exact hS.rowBox r k (by rw [hre]; rfl) hk, fun r' hr' hne => ?_, fun r' hr' g hg => by rw [hv] at hg; exact hS.hot.noRow r' hr' r (by rw [hre]; rfl) g hg⟩
      · -- the cells are the same
        rcases ho'.2 with ⟨h1, h2⟩ | ⟨g, cap, cur, h1, _, hgg, _, _, _, htk⟩
        · have hl : l = [] := List.eq_nil_of_length_eq_zero h2
          subst hl; cases hcx
          have : xs = [] := List.eq_nil_of_length_eq_zero (by have := ho'.1; simpa using this)
          simp [this]
        · have hfl : cssx.flatten.length = xs.length := by rw [All2.flatLen hcx, ho'.1, hs]
          apply List.ext_getElem? 
          intro j
          by_cases hj : j < xs.length
          · have hu : cssx.flatten[j]? = some (cssx.flatten[j]'(by omega)) := List.getElem?_eq_getElem _
            rcases hax with hl | ⟨ad, had, hax⟩
            · subst hl; cases hcx; simp at hfl; omega
            · have h2 := hS.mem _ _ (hax j _ hu)
              rw [h1] at ex
              injection ex with e1 _ _
              rw [had] at e1
              cases e1
              have h3 := ho'.cells (g := g) (by rw [h1]; rfl) j (xs[j]) (List.getElem?_eq_getElem hj)
              rw [h2] at h3
              rw [hu, h3, List.getElem?_eq_getElem hj]
          · rw [List.getElem?_eq_none (by omega), List.getElem?_eq_none (by omega)]
      · rw [hv]; exact hS.rowInj r' r hr' (by rw [hre]; rfl) hne
  obtain ⟨xs, hown, hxs, hfree, hbx, hrx, hhx⟩ := hown
  -- the run
  have hrun : ∃ v' w', (Builtin.append_ #[t, t] o.type #[a.eval x, a.eval y]).run P w = .ok v' w' ∧ w'.ownsRow base.heap.size e i.size v' (l.length + l'.length) (xs ++ cssy.flatten) ∧ w.grownBy w' (a.eval x).ownBlock ∧
      (∀ ad u, w.cell? ad = some u → ((a.eval x).ownBlock = some ad.block → ad.off < l.length * i.size) → w'.cell? ad = some u) ∧
      (v'.ownBlock = (a.eval x).ownBlock ∨ ∃ g, v'.ownBlock = some g ∧ w.heap.size ≤ g) := by
    rcases hay with hl' | ⟨ad, had, hay⟩
    · subst hl'
      cases hcy
      refine ⟨a.eval x, w, ?_, by simpa using hown, ⟨rfl, rfl, rfl, Nat.le_refl _, fun _ _ _ => rfl⟩, fun ad u hu _ => hu, .inl rfl⟩
      rw [ex, ey]
      exact run_append_none t o.type e i hue hi adx l.length capx capy hlx ady
    · rw [ey, had]
      exact run_append_own2 base.heap.size t o.type e i z hue hi hz hzl (by rw [hs]; exact hpos) (a.eval x) l.length xs hown ad l'.length capy cssy.flatten (by rw [All2.flatLen hcy, hs])
        (fun j u hu => hS.mem _ _ (hay j u hu)) (All2.flatOne hcy) (by simp only [maxLen]; omega) (by rw [hib]; exact hby) hS.fr.size
  obtain ⟨v', w', hrun, hown', hgr, hkeep, hblk⟩ := hrun
  refine wp_val (v := v') (w' := w') ?_ ?_
  · simp only [execOp, ho, resolve]
    simp [invoke, builtin, hrun]
  -- what is kept
  have hMk : ∀ ad v, M ad = some v → w'.cell? ad = some v := fun ad v hv => hkeep ad v (hS.mem ad v hv) (fun hb => by
    apply Nat.lt_of_not_le
    intro hle
    have := hfree _ hb ad rfl hle
    rw [this] at hv; cases hv)
  have hbase : ∀ k, (a.eval x).ownBlock = some k → base.heap.size ≤ k := fun k hk => (hown.lt k hk).1
  -- the row is given up, then kept anew
  have hS0 := hS.kill [r]
  have hS1 := hS0.grown hgr hMk (fun k hk => hbx k hk) (fun r' hr' => by
      have hr2 : r' ≠ r ∧ (st.row r').isSome = true := kill_row hr'
      exact hrx r' hr2.2 hr2.1) hbase (fun r' hr' g hg => hhx r' (kill_hot hr').2 g hg)
  have hfr' : noTag (keyRow d 0) { st with rows := stepRows [] [r] st.rows } = true := by
    unfold noTag at hfr ⊢
    rw [Bool.and_eq_true, Bool.and_eq_true] at hfr ⊢
    refine ⟨hfr.1, ?_⟩
    have := hfr.2
    simp only [look_step]
    split
    · exact this
    · rfl
  have hcat : All2 (RdC M τ) (cssx ++ cssy) (l ++ l') := hcx.append hcy
  obtain ⟨M', hle, hS2, hrep⟩ := hS1.ownRow (r := keyRow d 0) (τ := τ) (css := cssx ++ cssy) (l := l ++ l') (keyRow_ne d 0) hpos hfr' (keyRow_odd d 0) (fun r' hr' g hg => by
      rcases hblk with hb | ⟨g', hg', hge⟩
      · rw [hb] at hg; exact hhx r' (kill_hot hr').2 g hg
      · rw [hg'] at hg; have h2 := Option.some.inj hg; intro hgf; have := hS.hot.lt r' (kill_hot hr').2 g hgf; omega) hi hs hown' (by rw [List.flatten_append, hxs]) hcat
    (fun g hg ad had hoff => by
      rcases hblk with hb | ⟨g', hg', hge⟩
      · rw [hb] at hg
        exact hfree g hg ad had (Nat.le_trans (Nat.mul_le_mul_right _ (by omega)) hoff)
      · rw [hg'] at hg; have h2 := Option.some.inj hg
        cases hM : M ad with
        | none => rfl
        | some v => have := hS.mem_lt hM; omega)
    (fun k hk e => by
      rcases hblk with hb | ⟨g', hg', hge⟩
      · rw [hb] at e; exact hbx k hk e
      · rw [hg'] at e; have h2 := Option.some.inj e; have := hS.box_lt hk; omega)
    (fun r' hr' => by
      have hr2 : r' ≠ r ∧ (st.row r').isSome = true := kill_row hr'
      rcases hblk with hb | ⟨g', hg', hge⟩
      · rw [hb]; exact hrx r' hr2.2 hr2.1
      · rw [hg']
        cases hb : (σ.row r').ownBlock with
        | none => exact .inl rfl
        | some g => right; intro e; have h2 := Option.some.inj e; have := (hS.row_lt hr2.2 hb).2; omega)
  have hfin := hS2.put (d := d) hdn hrep
  unfold Goes at hn
  rw [hd] at hn ⊢
  refine hn _ { σ with row := fun k => if k = keyRow d 0 then v' else σ.row k } M' _ ?_
  rw [apply_some]
  exact hfin

end Go.Proofs.Ytcbehcpmojnnfaa.Bv
