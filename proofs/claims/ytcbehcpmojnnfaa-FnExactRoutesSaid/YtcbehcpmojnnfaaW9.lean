/- The operations one by one (3): what is built, rows, append. -/
import Derived.Test.YtcbehcpmojnnfaaW8
import Derived.Laws.Tables
namespace Go.Proofs.Ytcbehcpmojnnfaa.Bv
set_option linter.unusedVariables false
set_option linter.unusedSimpArgs false

variable {P : Program} {base : World} {M0 : Mem} {ios : Ios} {σ : Sg} {M : Mem} {w : World} {a : Act} {st : St} {tab : Tab} {o : Oper} {next : Act → World → Prop} {Q : Exit → Act → World → Prop}

/-! ### Parts laid into cells -/

theorem foldl_set : ∀ (vs : List Value) (k off : Nat) (arr : Array Value), off + k + vs.length ≤ arr.size →
    ((vs.zipIdx k).foldl (fun (cs : Array Value) (p : Value × Nat) => cs.setIfInBounds (off + p.2) p.1) arr).toList = arr.toList.take (off + k) ++ (vs ++ arr.toList.drop (off + k + vs.length))
  | [], k, off, arr, _ => by simp
  | v :: vs, k, off, arr, h => by
    simp only [List.length_cons] at h
    rw [List.zipIdx_cons, List.foldl_cons, foldl_set vs (k + 1) off _ (by simp; omega)]
    simp only [Array.toList_setIfInBounds, List.length_cons]
    have hlt : off + k < arr.toList.length := by simpa using (by omega : off + k < arr.size)
    apply List.ext_getElem?
    intro i
    simp only [List.getElem?_append, List.getElem?_take, List.getElem?_set, List.length_take, List.length_set, List.getElem?_drop, List.getElem?_cons, List.length_cons]
    by_cases h1 : i < off + k
    · have : i < min (off + (k + 1)) arr.toList.length := by omega
      have h2 : i < min (off + k) arr.toList.length := by omega
      rw [if_pos this, if_pos h2, if_pos (by omega), if_pos h1, if_neg (by omega)]
    · by_cases h2 : i = off + k
      · subst h2
        have : off + k < min (off + (k + 1)) arr.toList.length := by omega
        have h3 : ¬ off + k < min (off + k) arr.toList.length := by omega
        rw [if_pos this, if_neg h3, if_pos (by omega)]
        have : off + k - min (off + k) arr.toList.length = 0 := by omega
        rw [this]
        simp; omega
      · have h3 : ¬ i < min (off + (k + 1)) arr.toList.length := by omega
        have h4 : ¬ i < min (off + k) arr.toList.length := by omega
        rw [if_neg h3, if_neg h4]
        have e1 : min (off + (k + 1)) arr.toList.length = off + k + 1 := by omega
        have e2 : min (off + k) arr.toList.length = off + k := by omega
        rw [e1, e2]
        clear h3 h4 e1 e2
        have h6 : off + k < i := by omega
        by_cases h5 : i - (off + k + 1) < vs.length
        · have h7 : i - (off + k) < vs.length + 1 := by omega
          have h8 : ¬ i - (off + k) = 0 := by omega
          rw [if_pos h5, if_pos h7, if_neg h8]
          rw [show i - (off + k) - 1 = i - (off + k + 1) by omega]
        · have h7 : ¬ i - (off + k) < vs.length + 1 := by omega
          have h9 : off + (k + 1) + vs.length + (i - (off + k + 1) - vs.length) = off + k + (vs.length + 1) + (i - (off + k) - (vs.length + 1)) := by omega
          rw [if_neg h5, if_neg h7, h9, if_neg (by omega)]

theorem fill_rep {place place' : Nat → Option (Nat × Nat)} {rows : List (Nat × RowV)} : ∀ {parts : List (Nat × Value)} {ps : List (Nat × List CellV)} {arr : Array Value} {cs cs' : List CellV},
    All2 (fun (p : Nat × Value) (q : Nat × List CellV) => p.1 = q.1 ∧ All2 (RdT σ rows M) p.2.cells.toList q.2) parts ps → All2 (RdT σ rows M) arr.toList cs →
    (∀ i off sz, place i = some (off, sz) → place' i = some (off, sz)) → fillC place cs ps = some cs' →
    ∃ arr', Instr.fill place' arr parts = some arr' ∧ All2 (RdT σ rows M) arr'.toList cs'
  | _, _, arr, cs, cs', .nil, h, _, hf => by simp only [fillC, Option.some.injEq] at hf; subst hf; exact ⟨arr, rfl, h⟩
  | _, _, arr, cs, cs', .cons (a := p) (b := q) (as := ps) (bs := qs) hp hr, h, hpl, hf => by
    obtain ⟨i, v⟩ := p
    obtain ⟨j, ds⟩ := q
    obtain ⟨rfl, hv⟩ := hp
    simp only [fillC] at hf
    cases hx : place i with
    | none => rw [hx] at hf; cases hf
    | some os =>
      obtain ⟨off, sz⟩ := os
      rw [hx] at hf
      simp only at hf
      split at hf
      · rename_i hc
        have hlen := hv.length
        have hcl := h.length
        rw [Array.length_toList] at hlen hcl
        have hset := foldl_set v.cells.toList 0 off arr (by rw [Nat.add_zero, Array.length_toList, hlen, hcl]; exact hc.2)
        simp only [Nat.add_zero, Array.length_toList, hlen] at hset
        have h2 := (h.take off).append (hv.append (h.drop (off + ds.length)))
        rw [← hset] at h2
        obtain ⟨arr', ha, hr'⟩ := fill_rep (place' := place') hr h2 hpl hf
        refine ⟨arr', ?_, hr'⟩
        unfold Instr.fill
        rw [hpl i off sz hx]
        simp only
        rw [if_neg (by simp [hlen, hc.1, hcl]; omega)]
        rw [← ha]
        congr 1
        rw [← Array.foldl_toList, Array.toList_zipIdx]
      · cases hf

theorem mapM_places (hT : TabOk P tab) : ∀ (fs : List Field), (∀ f ∈ fs, (look f.type tab).isSome = true) →
    ∃ places, fs.mapM (fun f => (P.info? f.type).map fun i => (f.offset, i.size)) = some places ∧ ∀ (i off tf : Nat) (tif : TI), (fs.map (fun f => (f.offset, f.type)))[i]? = some (off, tf) → look tf tab = some tif → places[i]? = some (off, size tif.ty)
  | [], _ => ⟨[], by simp, fun i off tf tif h => by simp at h⟩
  | f :: fs, h => by
    obtain ⟨places, hp, hq⟩ := mapM_places hT fs fun g hg => h g (List.mem_cons_of_mem _ hg)
    obtain ⟨tif, htif⟩ := Option.isSome_iff_exists.1 (h f (by simp))
    obtain ⟨i, z, hi, hs, _⟩ := (hT f.type tif htif).info
    refine ⟨(f.offset, i.size) :: places, by simp [List.mapM_cons, hi, hp], ?_⟩
    intro j off tf tif' hj htf
    cases j with
    | zero =>
      simp at hj; obtain ⟨rfl, rfl⟩ := hj
      rw [htif] at htf; cases htf
      simp [hs]
    | succ j => simp only [List.map_cons, List.getElem?_cons_succ] at hj ⊢; exact hq j off tf tif' hj htf

theorem op_build (hT : TabOk P tab) (hS : Sim P base M0 ios σ M w a st) {t : TypeId} {ti : TI} {parts : Array (Nat × Operand)} {ps : List (Nat × List CellV)} {cs : List CellV}
    (ho : o.op = .build t parts) (hd : ∀ d, o.dst = some d → d < st.nt) (h : look t tab = some ti) (hg : ti.agg = true)
    (hp : All2 (fun (p : Nat × Value) (q : Nat × List CellV) => p.1 = q.1 ∧ All2 (RdT σ st.rows M) p.2.cells.toList q.2) (parts.toList.map fun p => (p.1, a.eval p.2)) ps)
    (hf : fillC (fun i => (ti.fields[i]?).bind fun f => (look f.2 tab).bind fun tf => some (f.1, size tf.ty)) (zeroC ti.ty) ps = some cs)
    (hn : Goes P base M0 ios a o st { sv := .val true cs } next) : o.wp P a w next Q := by
  obtain ⟨fs, hu, hfs, hall⟩ := und_fields hT h hg
  obtain ⟨i, z, hi, _, _, hz, hzc⟩ := (hT t ti h).info
  obtain ⟨places, hpl, hpq⟩ := mapM_places hT fs.toList (fun f hf' => by
    have := hall (f.offset, f.type) (by rw [← hfs]; exact List.mem_map.2 ⟨f, hf', rfl⟩)
    exact this)
  obtain ⟨arr', ha, hr⟩ := fill_rep (σ := σ) (M := M) (place' := (places.toArray[·]?)) hp (arr := z.cells) (by rw [hzc]; exact zeros_rep _ _) (fun j off sz hj => by
    cases hx : ti.fields[j]? with
    | none => simp [hx] at hj
    | some p =>
      obtain ⟨o1, t1⟩ := p
      simp only [hx, Option.bind_some] at hj
      cases hy : look t1 tab with
      | none => simp [hy] at hj
      | some tf =>
        simp only [hy, Option.bind_some, Option.some.injEq, Prod.mk.injEq] at hj
        obtain ⟨rfl, rfl⟩ := hj
        have := hpq j o1 t1 tf (by rw [hfs]; exact hx) hy
        simpa using this) hf
  have hb : P.built t (parts.toList.map fun p => (p.1, a.eval p.2)) = some arr' := by
    unfold Program.built
    rw [hi, hu]
    simp only [hz, hpl]
    exact ha
  have hrun := run_build (P := P) w t (parts.map fun p => (p.1, a.eval p.2)) arr' (by rw [← hb]; simp)
  refine wp_val (v := .agg arr') (w' := w) ?_ (hn _ σ M w (hS.putO hd ⟨hr, rfl⟩))
  simp only [execOp, ho]
  simp [hrun]

/-! ### Rows -/

theorem unflatN_rep {rows : List (Nat × RowV)} {τ : Ty} : ∀ {n : Nat} {vs : List Value} {cs rest : List CellV} {l : List (El τ)}, All2 (RdT σ rows M) vs cs → unflatN τ n cs = some (l, rest) →
    ∃ css vr, vs = css.flatten ++ vr ∧ All2 (RdC M τ) css l ∧ All2 (RdT σ rows M) vr rest ∧ l.length = n
  | 0, vs, cs, rest, l, h, e => by
    simp only [unflatN, Option.some.injEq, Prod.mk.injEq] at e
    obtain ⟨rfl, rfl⟩ := e
    exact ⟨[], vs, rfl, .nil, h, rfl⟩
  | n + 1, vs, cs, rest, l, h, e => by
    simp only [unflatN, Option.bind_eq_some_iff, Option.some.injEq, Prod.mk.injEq] at e
    obtain ⟨⟨x, r1⟩, e1, ⟨xs, r2⟩, e2, e3, e4⟩ := e
    obtain ⟨c1, c2, hv, hx, hr⟩ := rd_unflat τ vs cs x r1 (h.imp fun _ _ h => h.1) e1
    -- the rest as it was, with its tags
    have hdrop : ∀ (t : Ty) (cs : List CellV) (x : El t) (rest : List CellV), unflat t cs = some (x, rest) → rest = cs.drop (size t) := by
      intro t
      induction t with
      | int k => intro cs x rest e; cases cs with
        | nil => simp [unflat] at e
        | cons c r => cases c <;> simp [unflat] at e; simp [size, e]
      | bool => intro cs x rest e; cases cs with
        | nil => simp [unflat] at e
        | cons c r => cases c <;> simp [unflat] at e; simp [size, e]
      | str => intro cs x rest e; cases cs with
        | nil => simp [unflat] at e
        | cons c r => cases c <;> simp [unflat] at e; simp [size, e]
      | list t _ => intro cs x rest e; cases cs with
        | nil => simp [unflat] at e
        | cons c r => cases c <;> simp [unflat] at e; simp [size, e.2]
      | unit => intro cs x rest e; simp only [unflat, Option.some.injEq, Prod.mk.injEq] at e; simp [size, e.2]
      | pair t1 t2 ih1 ih2 =>
        intro cs x rest e
        simp only [unflat, Option.bind_eq_some_iff, Option.some.injEq, Prod.mk.injEq] at e
        obtain ⟨⟨xa, ra⟩, ea, ⟨xb, rb⟩, eb, _, er⟩ := e
        have h1 := ih1 _ _ _ ea
        have h2 := ih2 _ _ _ eb
        simp only at er h2
        subst er; subst h1; rw [h2, List.drop_drop]; rfl
    have h1 := hdrop τ cs x r1 e1
    have hlen : c1.length = size τ := RdC.length τ _ _ hx
    have hd := h.drop (size τ)
    rw [← h1, hv, ← hlen, List.drop_left] at hd
    obtain ⟨css, vr, f1, f2, f3, f4⟩ := unflatN_rep (n := n) hd e2
    simp only at e4 e3
    subst e4; subst e3
    exact ⟨c1 :: css, vr, by rw [hv, f1]; simp, .cons hx f2, f3, by simp [f4]⟩

/-- Memory with one more row. -/
def Mem.row (M : Mem) (w : World) (g n : Nat) : Mem := fun ad => match M ad with
  | some v => some v
  | none => if ad.block = g ∧ ad.spot = none ∧ ad.off < n then w.cell? ad else none

theorem Mem.le_row (M : Mem) (w : World) (g n : Nat) : M.le (M.row w g n) := fun ad v h => by simp [Mem.row, h]

theorem Mem.row_in {w : World} {g n : Nat} (h : ∀ ad v, M ad = some v → w.cell? ad = some v) : ∀ ad v, M.row w g n ad = some v → w.cell? ad = some v := by
  intro ad v hv
  unfold Mem.row at hv
  split at hv
  · rename_i u hu; cases hv; exact h ad _ hu
  · split at hv
    · exact hv
    · cases hv

theorem Mem.row_none {w : World} {g n : Nat} {ad : Addr} (h : M ad = none) (hb : ad.block ≠ g ∨ n ≤ ad.off) : M.row w g n ad = none := by
  unfold Mem.row
  rw [h]
  simp only
  rw [if_neg]
  rintro ⟨h1, _, h3⟩
  rcases hb with hb | hb
  · exact hb h1
  · omega

theorem Mem.row_at {w : World} {g n j : Nat} (hMw : ∀ ad v, M ad = some v → w.cell? ad = some v) (hj : j < n) {u : Value} (hu : w.cell? ⟨g, j, none⟩ = some u) : M.row w g n ⟨g, j, none⟩ = some u := by
  unfold Mem.row
  split
  · rename_i v hv; rw [← hu]; exact (hMw _ _ hv).symm
  · rw [if_pos ⟨rfl, rfl, hj⟩]; exact hu

theorem ownBlock_slice (b o l c : Nat) (s : Option Nat) : Value.ownBlock (.slice (some ⟨b, o, s⟩) l c) = some b := rfl

/-- A row of the call's own is laid open to reading, and kept. -/
theorem Sim.ownRow (h : Sim P base M0 ios σ M w a st) {r n : Nat} {e : TypeId} {τ : Ty} {i : TypeInfo} {v : Value} {xs : List Value} {css : List (List Value)} {l : List (El τ)} (hr0 : r ≠ 0) (hpos : 0 < size τ)
    (hn : noTag r st = true) (hod : r % 2 = 1) (hh : ∀ r', isHot r' st.rows → ∀ g, v.ownBlock = some g → g ∉ σ.foot r') (hi : P.info? e = some i) (hs : i.size = size τ) (hown : w.ownsRow base.heap.size e i.size v n xs) (hc : css.flatten = xs) (hl : All2 (RdC M τ) css l)
    (hfree : ∀ g, v.ownBlock = some g → ∀ ad, ad.block = g → n * i.size ≤ ad.off → M ad = none)
    (hb : ∀ k, (st.box k).isSome = true → v.ownBlock ≠ some (σ.box k))
    (hr : ∀ r', (st.row r').isSome = true → (σ.row r').ownBlock = none ∨ (σ.row r').ownBlock ≠ v.ownBlock) :
    ∃ M', M.le M' ∧ Sim P base M0 ios { σ with row := fun k => if k = r then v else σ.row k } M' w a { st with rows := (r, .cold e) :: st.rows } ∧
      RepSv { σ with row := fun k => if k = r then v else σ.row k } ((r, .cold e) :: st.rows) st.boxes M' v (.val false [.lst τ l (some r)]) := by
  have hlen : l.length = n := by
    have h1 := All2.flatLen hl
    rw [hc, hown.1, hs] at h1
    exact (Nat.eq_of_mul_eq_mul_right hpos h1).symm
  rcases hown.2 with ⟨rfl, hn0⟩ | ⟨g, cap, cur, rfl, hbg, hg, hnc, hcm, hcs, htake⟩
  · -- nothing is there
    have hl0 : l = [] := List.eq_nil_of_length_eq_zero (by rw [hlen]; exact hn0)
    subst hl0
    refine ⟨M, Mem.le_refl M, h.newRow hn hod ⟨n, xs, i, hi, hown, hfree⟩ hb hr hh, RepVal.mk1 ⟨RdC.nilSlice M τ, ?_⟩ rfl⟩
    simp only [tagOk, if_neg hr0]
    intro _; simp
  · have hb' : ∀ k, (st.box k).isSome = true → σ.box k ≠ g := fun k hk e => hb k hk (by rw [ownBlock_slice, e])
    have hM : Sim P base M0 ios σ (M.row w g (n * i.size)) w a st := by
      refine h.moreMem (Mem.le_row _ _ _ _) (Mem.row_in h.mem) (fun k hk ad had => ?_) (fun ad had hk hk2 => ?_) (fun r' e' he' n' xs' i' hi' ho' hm' g' hg' ad had hoff => ?_) (fun r' hr' g' hg' ad had => ?_)
      · exact Mem.row_none (h.boxM k hk ad had) (.inl (by rw [had]; exact hb' k hk))
      · exact Mem.row_none (h.old ad had hk hk2) (.inl (by omega))
      · refine Mem.row_none (hm' g' hg' ad had hoff) (.inl ?_)
        intro e2
        rcases hr r' (by rw [he']; rfl) with h0 | h0
        · rw [hg'] at h0; cases h0
        · exact h0 (by rw [hg', ownBlock_slice]; congr 1; omega)
      · exact Mem.row_none (h.hot.noM r' hr' g' hg' ad had) (.inl fun e2 => hh r' hr' g (by rw [ownBlock_slice]) (by rw [← e2, had]; exact hg'))
    refine ⟨M.row w g (n * i.size), Mem.le_row _ _ _ _, hM.newRow hn hod ⟨n, xs, i, hi, hown, ?_⟩ hb hr hh, RepVal.mk1 ⟨?_, ?_⟩ rfl⟩
    · intro g' hg' ad had hoff
      rw [ownBlock_slice] at hg'; cases hg'
      exact Mem.row_none (hfree g rfl ad had hoff) (.inr hoff)
    · show RdC _ (.list τ) [_] l
      rw [← hlen]
      refine RdC.ofCells (hl.imp fun c x hx => hx.mono (Mem.le_row _ _ _ _)) (by omega) hcm ?_
      intro j u hu
      rw [add_lit, Nat.zero_add]
      have hjl : j < xs.length := by rw [← hc]; exact (List.getElem?_eq_some_iff.1 hu).1
      refine Mem.row_at h.mem (by rw [hlen] at *; rw [hown.1] at hjl; exact hjl) ?_
      have := hown.cells (g := g) rfl j u (by rw [← hc]; exact hu)
      rw [add_lit, Nat.zero_add] at this
      exact this
    · simp only [tagOk, if_neg hr0]
      intro _; simp

end Go.Proofs.Ytcbehcpmojnnfaa.Bv
