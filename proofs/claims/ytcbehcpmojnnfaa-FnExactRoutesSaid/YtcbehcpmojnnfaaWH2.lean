/- Operations on rows that may be written (2): slices that are written out, append. -/
import Derived.Test.YtcbehcpmojnnfaaWH1
namespace Go.Proofs.Ytcbehcpmojnnfaa.Bv
set_option linter.unusedVariables false
set_option linter.unusedSimpArgs false

variable {P : Program} {base : World} {M0 : Mem} {ios : Ios} {σ : Sg} {M : Mem} {w : World} {a : Act} {st : St} {tab : Tab} {o : Oper} {next : Act → World → Prop} {Q : Exit → Act → World → Prop}

def unT : CellV → CellV
  | .lst t l _ => .lst t l none
  | c => c

theorem unflat_flat : ∀ (t : Ty) (cs : List CellV) (x : El t) (r : List CellV), unflat t cs = some (x, r) → cs.map unT = flat t x ++ r.map unT
  | .unit, cs, x, r, e => by simp only [unflat, Option.some.injEq, Prod.mk.injEq] at e; obtain ⟨_, rfl⟩ := e; rfl
  | .pair a b, cs, x, r, e => by
    simp only [unflat, Option.bind_eq_some_iff, Option.some.injEq, Prod.mk.injEq] at e
    obtain ⟨⟨xa, ra⟩, ea, ⟨xb, rb⟩, eb, ex, er⟩ := e
    simp only at er ex
    subst er; subst ex
    rw [unflat_flat a _ _ _ ea]
    simp only at eb
    rw [unflat_flat b _ _ _ eb]
    simp [flat]
  | .int k, cs, x, r, e => by
    cases cs with
    | nil => simp [unflat] at e
    | cons c cs => cases c <;> simp [unflat] at e; obtain ⟨rfl, rfl, rfl⟩ := e; rfl
  | .bool, cs, x, r, e => by
    cases cs with
    | nil => simp [unflat] at e
    | cons c cs => cases c <;> simp [unflat] at e; obtain ⟨rfl, rfl⟩ := e; rfl
  | .str, cs, x, r, e => by
    cases cs with
    | nil => simp [unflat] at e
    | cons c cs => cases c <;> simp [unflat] at e; obtain ⟨rfl, rfl⟩ := e; rfl
  | .list t, cs, x, r, e => by
    cases cs with
    | nil => simp [unflat] at e
    | cons c cs =>
      cases c <;> simp [unflat] at e
      rename_i t' l tag
      by_cases ht : t' = t
      · subst ht
        simp at e
        obtain ⟨rfl, rfl⟩ := e
        rfl
      · exact absurd e.1.1 ht


theorem flat_unT : ∀ (t : Ty) (x : El t), (flat t x).map unT = flat t x
  | .int _, _ => rfl
  | .bool, _ => rfl
  | .str, _ => rfl
  | .list _, _ => rfl
  | .unit, _ => rfl
  | .pair a b, x => by simp [flat, flat_unT a, flat_unT b]

theorem unflatN_flat {t : Ty} : ∀ {n : Nat} {cs r : List CellV} {l : List (El t)}, unflatN t n cs = some (l, r) → cs.map unT = flatAll t l ++ r.map unT ∧ List.length l = n
  | 0, cs, r, l, h => by
    simp only [unflatN, Option.some.injEq, Prod.mk.injEq] at h
    obtain ⟨rfl, rfl⟩ := h
    exact ⟨rfl, rfl⟩
  | n + 1, cs, r, l, h => by
    simp only [unflatN, Option.bind_eq_some_iff, Option.some.injEq, Prod.mk.injEq] at h
    obtain ⟨⟨x, r1⟩, e1, ⟨xs, r2⟩, e2, e3, e4⟩ := h
    simp only at e2 e3 e4
    subst e3; subst e4
    obtain ⟨h1, h2⟩ := unflatN_flat e2
    rw [unflat_flat t _ _ _ e1, h1, flatAll_cons, List.append_assoc]
    exact ⟨rfl, by simp [h2]⟩

/-! ### What goes into a row -/

theorem ownC_unT {rows : List (Nat × RowV)} : ∀ {cs ps : List CellV} {ks : List Nat}, ownC rows cs = some (ps, ks) → ps.map unT = ps
  | [], ps, ks, h => by simp only [ownC, Option.some.injEq, Prod.mk.injEq] at h; rw [← h.1]; rfl
  | c :: cs, ps, ks, h => by
    unfold ownC at h
    split at h <;> first
      | (simp only [Option.map_eq_some_iff] at h
         obtain ⟨p, hp, e⟩ := h
         cases e
         rename_i e0
         cases e0
         simp only [List.map_cons, unT, ownC_unT hp])
      | (split at h
         · split at h
           · simp only [Option.map_eq_some_iff] at h
             obtain ⟨p, hp, e⟩ := h
             cases e
             rename_i e0 _ _ _ _ _ _ _ _
             cases e0
             simp only [List.map_cons, unT, ownC_unT hp]
           · cases h
         · cases h)
      | (cases h; done)
      | (rename_i e0; cases e0; done)

def foots (σ : Sg) (ks : List Nat) : List Nat := (ks.map σ.foot).flatten

theorem mem_foots {σ : Sg} {ks : List Nat} {g : Nat} (h : g ∈ foots σ ks) : ∃ r ∈ ks, g ∈ σ.foot r := by
  unfold foots at h
  simp only [List.mem_flatten, List.mem_map] at h
  obtain ⟨l, ⟨r, hr, rfl⟩, hg⟩ := h
  exact ⟨r, hr, hg⟩

theorem nodup_of : ∀ {l : List Nat}, nodupB l = true → l.Nodup
  | [], _ => List.nodup_nil
  | k :: l, h => by
    simp only [nodupB, Bool.and_eq_true] at h
    exact List.nodup_cons.2 ⟨notMem_iff.1 h.1, nodup_of h.2⟩

theorem foots_nodup (hS : Sim P base M0 ios σ M w a st) : ∀ {ks : List Nat}, ks.Nodup → (∀ r ∈ ks, isHot r st.rows) → (foots σ ks).Nodup
  | [], _, _ => List.nodup_nil
  | r :: ks, hn, hh => by
    have hr := hh r (by simp)
    obtain ⟨e, t, l, ver, hole, z, hl⟩ := hr
    show (σ.foot r ++ foots σ ks).Nodup
    rw [List.nodup_append]
    refine ⟨(hS.hotAt hl).nodup, foots_nodup hS (List.nodup_cons.1 hn).2 fun r' hr' => hh r' (by simp [hr']), fun x hx y hy e2 => ?_⟩
    subst e2
    obtain ⟨r', hr', hx'⟩ := mem_foots hy
    exact hS.hot.apart r r' (hh r (by simp)) (hh r' (by simp [hr'])) (fun e3 => (List.nodup_cons.1 hn).1 (e3 ▸ hr')) x hx hx'

theorem foots_apart (hS : Sim P base M0 ios σ M w a st) {ks : List Nat} {r : Nat} (hr : isHot r st.rows) (hn : r ∉ ks) (hh : ∀ r ∈ ks, isHot r st.rows) : ∀ x ∈ foots σ ks, x ∉ σ.foot r := fun x hx hx' => by
  obtain ⟨r', hr', h1⟩ := mem_foots hx
  exact hS.hot.apart r r' hr (hh r' hr') (fun e => hn (e ▸ hr')) x hx' h1

theorem ownC_rep (hS : Sim P base M0 ios σ M w a st) {rows : List (Nat × RowV)} (hr : ∀ r rv, look r rows = some rv → look r st.rows = some rv) {vs : List Value} {cs : List CellV} (h : All2 (RdT σ st.rows M) vs cs) :
    ∀ {ps : List CellV} {ks : List Nat}, ownC rows cs = some (ps, ks) → OwnCs w vs ps (foots σ ks) ∧ ∀ r ∈ ks, isHot r st.rows := by
  induction h with
  | nil => intro ps ks e; simp only [ownC, Option.some.injEq, Prod.mk.injEq] at e; obtain ⟨rfl, rfl⟩ := e; exact ⟨.nil, by simp⟩
  | @cons v c vs cs hx hrs ih =>
    intro ps ks e
    cases c with
    | int k n =>
      simp only [ownC, Option.map_eq_some_iff] at e
      obtain ⟨p, hp, e⟩ := e; cases e
      obtain ⟨h1, h2⟩ := ih hp
      have hv : v = .int k n := hx.1
      subst hv; exact ⟨.int h1, h2⟩
    | bool b =>
      simp only [ownC, Option.map_eq_some_iff] at e
      obtain ⟨p, hp, e⟩ := e; cases e
      obtain ⟨h1, h2⟩ := ih hp
      have hv : v = .bool b := hx.1
      subst hv; exact ⟨.bool h1, h2⟩
    | str s =>
      simp only [ownC, Option.map_eq_some_iff] at e
      obtain ⟨p, hp, e⟩ := e; cases e
      obtain ⟨h1, h2⟩ := ih hp
      have hv : v = .string ⟨s.toArray⟩ := hx.1
      subst hv; exact ⟨.str h1, h2⟩
    | lst t l tag =>
      match l, tag with
      | [], some 0 =>
        simp only [ownC, Option.map_eq_some_iff] at e
        obtain ⟨p, hp, e⟩ := e; cases e
        obtain ⟨h1, h2⟩ := ih hp
        have hv : v = .slice none 0 0 := by have := hx.2; simpa [tagOk] using this
        subst hv; exact ⟨.emp h1, h2⟩
      | [], none => simp [ownC] at e
      | [], some (k + 1) => simp [ownC] at e
      | x :: l, none => simp [ownC] at e
      | x :: l, some k => simp [ownC] at e
    | emp t =>
      simp only [ownC, Option.map_eq_some_iff] at e
      obtain ⟨p, hp, e⟩ := e; cases e
      obtain ⟨h1, h2⟩ := ih hp
      obtain ⟨ad, rfl⟩ := hx.2
      exact ⟨.emp h1, h2⟩
    | own t r =>
      simp only [ownC] at e
      split at e
      · rename_i e' t' x ver z hl
        split at e
        · rename_i ht
          subst ht
          simp only [Option.map_eq_some_iff] at e
          obtain ⟨p, hp, e⟩ := e; cases e
          obtain ⟨h1, h2⟩ := ih hp
          have hl' := hr r _ hl
          have hv : v = σ.row r := hx.2 (by rw [hl']; rfl)
          have ho : OwnCs w [σ.row r] [.lst _ x none] (σ.foot r) := (hS.hotAt hl').own
          rw [← hv] at ho
          refine ⟨ho.append h1, fun r' hr' => ?_⟩
          rcases List.mem_cons.1 hr' with rfl | hr'
          · exact ⟨_, _, _, _, _, _, hl'⟩
          · exact h2 r' hr'
        · cases e
      · cases e
    | sub t r lo hi => simp [ownC] at e
    | bor t l r ver p => simp [ownC] at e
    | und => simp [ownC] at e

theorem run_buildSlice_cells (hT : TabOk P tab) {rows : List (Nat × RowV)} {t e : TypeId} {te : TI} {τ : Ty} {fs : List (Nat × TypeId)} {b n : Nat} {parts : Array (Nat × Operand)} {ps : List (Nat × List CellV)} {cs : List CellV}
    (ho : o.op = .buildSlice t n parts) (h : look t tab = some ⟨.list τ, false, fs, e, b⟩) (he : look e tab = some te) (hte : te.ty = τ) (hpos : 0 < size τ) (hlim : n * size τ ≤ 16777216)
    (hp : All2 (fun (p : Nat × Value) (q : Nat × List CellV) => p.1 = q.1 ∧ All2 (RdT σ rows M) p.2.cells.toList q.2) (parts.toList.map fun p => (p.1, a.eval p.2)) ps)
    (hf : fillC (fun i => some (i * size τ, size τ)) (zerosC τ n) ps = some cs) :
    ∃ arr', (execOp a.eval o).run P w = .ok (.value (.slice (some ⟨w.heap.size, 0, none⟩) n n)) (w.alloc (.cells arr' e)) ∧ All2 (RdT σ rows M) arr'.toList cs := by
  obtain ⟨i, z, hi, hs, _, hz, hzc⟩ := (hT e te he).info
  rw [hte] at hs hzc
  have hzl : z.cells.size = size τ := by rw [← Array.length_toList, hzc, zeros_length]
  -- the cells before the parts are laid
  let arr0 : Array Value := (Array.range (n * size τ)).map (fun j => z.cells[j % z.cells.size]!)
  have harr0 : arr0.toList = (List.replicate n (zeros τ)).flatten := by
    have h1 := range_zeros (zeros τ) (by rw [zeros_length]; exact hpos) n
    rw [zeros_length] at h1
    rw [← h1]
    show ((Array.range (n * size τ)).map (fun j => z.cells[j % z.cells.size]!)).toList = _
    rw [Array.toList_map, Array.toList_range]
    apply List.map_congr_left
    intro j _
    rw [hzl, ← hzc]
    simp only [getElem!_def, Array.getElem?_toList]
  obtain ⟨arr', ha, hr⟩ := fill_rep (σ := σ) (M := M) (rows := rows) (place' := fun i => some (i * size τ, size τ)) hp (arr := arr0) (by rw [harr0]; exact zerosC_rep τ n) (fun _ _ _ h => h) hf
  have hrun : (execOp a.eval o).run P w = .ok (.value (.slice (some ⟨w.heap.size, 0, none⟩) n n)) (w.alloc (.cells arr' e)) := by
    have hue := und_list hT h
    have hzv : (zeroValue e).run P w = .ok z w := by simp [zeroValue, typeInfo, hi, hz]
    have hso : (sizeOf e).run P w = .ok (size τ) w := by simp [sizeOf, typeInfo, hi, hs]
    by_cases hn0 : n = 0
    · subst hn0
      have he0 : arr0 = #[] := by apply Array.ext'; simp [harr0]
      rw [he0] at ha
      simp only [execOp, ho, Instr.buildSlice]
      simp [run_underlying hue, hso, newRow, newObj, Sem.run]
      rw [show (Array.map (fun x => (default : Value)) (Array.range 0)) = #[] by apply Array.ext'; simp, ha]
      simp [Sem.run]
    · have hne : ¬ n * size τ = 0 := by
        rw [Nat.mul_eq_zero]; omega
      have hne' : ¬ (n = 0 ∨ size τ = 0) := by omega
      simp only [execOp, ho, Instr.buildSlice]
      simp [run_underlying hue, hso, newRow, newObj, Sem.run, show ¬ 16777216 < n * size τ by omega, hne', hzv, show (Array.map (fun x => z.cells[x % z.cells.size]!) (Array.range (n * size τ))) = arr0 from rfl, ha]
      intro h0
      exact absurd h0 hne
  exact ⟨arr', hrun, hr⟩

theorem op_buildSlice_hot (hT : TabOk P tab) (hS : Sim P base M0 ios σ M w a st) {t e : TypeId} {te : TI} {τ : Ty} {fs : List (Nat × TypeId)} {b n d : Nat} {parts : Array (Nat × Operand)} {ps : List (Nat × List CellV)} {cs vs : List CellV} {ks : List Nat} {l : List (El τ)} {rows : List (Nat × RowV)}
    (ho : o.op = .buildSlice t n parts) (hd : o.dst = some d) (hdn : d < st.nt) (h : look t tab = some ⟨.list τ, false, fs, e, b⟩) (he : look e tab = some te) (hte : te.ty = τ) (hpos : 0 < size τ) (hlim : n * size τ ≤ 16777216)
    (hrows : ∀ r rv, look r rows = some rv → look r st.rows = some rv)
    (hp : All2 (fun (p : Nat × Value) (q : Nat × List CellV) => p.1 = q.1 ∧ All2 (RdT σ st.rows M) p.2.cells.toList q.2) (parts.toList.map fun p => (p.1, a.eval p.2)) ps)
    (hf : fillC (fun i => some (i * size τ, size τ)) (zerosC τ n) ps = some cs) (hown : ownC rows cs = some (vs, ks)) (hks : nodupB ks = true) (hu : unflatN τ n vs = some (l, []))
    (hfr : noTag (keyRow d 0) st = true)
    (hn : Goes P base M0 ios a o st { sv := .val false [.own τ (keyRow d 0)], nrow := [(keyRow d 0, .hot e τ l 0 none true)], krow := ks } next) : o.wp P a w next Q := by
  obtain ⟨arr', hrun, hr⟩ := run_buildSlice_cells (P := P) (w := w) (a := a) (σ := σ) (M := M) hT ho h he hte hpos hlim hp hf
  obtain ⟨i, z, hi, hs, hib, hz, hzc⟩ := (hT e te he).info
  rw [hte] at hs
  obtain ⟨h1, h2⟩ := ownC_rep hS hrows hr hown
  have hvs := ownC_unT hown
  obtain ⟨h3, h4⟩ := unflatN_flat hu
  rw [hvs] at h3
  simp only [List.map_nil, List.append_nil] at h3
  rw [h3] at h1
  have hlen : arr'.toList.length = n * size τ := by rw [h1.length, flatAll_length, h4]
  have hsz : arr'.size = n * size τ := by rw [← Array.length_toList]; exact hlen
  have hnl : n ≤ maxLen := by
    have h1 : n ≤ n * size τ := Nat.le_mul_of_pos_right n hpos
    simp only [maxLen]; omega
  have hnd := foots_nodup hS (nodup_of hks) h2
  refine wp_val hrun ?_
  refine goes_hot (S := []) (fo := w.heap.size :: foots σ ks) (l := l) (e := e) (t := τ) (z := true) (ks := ks) hS hd hdn (by simp) rfl rfl rfl (fun k hk _ => heap_alloc_old w _ hk) (fun g hg => by cases hg) (fun g hg => ?_) ⟨i, hi, hs⟩ hpos ?_ ?_ ?_ hfr hn
  · rcases List.mem_cons.1 hg with rfl | hg
    · exact ⟨by simp, .inl (Nat.le_refl _)⟩
    · obtain ⟨r, k1, k2⟩ := mem_foots hg
      exact ⟨Nat.lt_of_lt_of_le (hS.hot.lt r (h2 r k1) g k2) (by simp), .inr ⟨r, k1, h2 r k1, k2⟩⟩
  · have hmk := OwnL.mk (t := τ) (o := 0) (cap := n) (l := l) (heap_alloc_new w (.cells arr' e)) (by rw [h4]; exact Nat.le_refl _) hnl (by rw [hsz]; omega) (b1 := foots σ ks) (by
      rw [h4, List.drop_zero, List.take_of_length_le (by rw [hlen]; exact Nat.le_refl _)]
      exact h1.frame fun g hg => heap_alloc_old w _ (h1.lt g hg))
    rw [h4] at hmk
    exact hmk
  · exact List.nodup_cons.2 ⟨fun hx => Nat.lt_irrefl _ (h1.lt _ hx), hnd⟩
  · intro _
    exact ⟨⟨n, arr'.toList, hlen, .inr ⟨w.heap.size, n, arr', rfl, hS.fr.size, heap_alloc_new w _, Nat.le_refl _, hnl, hsz, by rw [List.take_of_length_le (by rw [hlen]; exact Nat.le_refl _)]⟩⟩, fun g hg => by rw [ownBlock_slice] at hg; cases hg; simp⟩

/-! ### append -/

/-- What comes behind. -/
inductive Behind (w : World) (τ : Ty) (vy : Value) (l2 : List (El τ)) (b' : List Nat) : Prop
  | none {ad c} : vy = .slice ad 0 c → l2 = [] → b' = [] → Behind w τ vy l2 b'
  | some {a c us} : vy = .slice (some a) (List.length l2) c → 0 < List.length l2 → (∀ j u, us[j]? = some u → w.cell? (a.add j) = some u) → OwnCs w us (flatAll τ l2) b' → Behind w τ vy l2 b'

theorem flatAll_rd {N : Mem} {τ : Ty} {css : List (List Value)} {l : List (El τ)} (h : All2 (RdC N τ) css l) : All2 (RdV N) css.flatten (flatAll τ l) := by
  induction h with
  | nil => exact .nil
  | cons x _ ih => rw [List.flatten_cons, flatAll_cons]; exact (rd_flat _ _ _ x).append ih

/-- A slice of plain elements, read where it stands. -/
theorem Behind.flat {τ : Ty} {vy : Value} {l2 : List (El τ)} (hf : flatTy τ = true) (h : RdC (memAll w) (.list τ) [vy] l2) : Behind w τ vy l2 [] := by
  obtain ⟨ad, cap, css, rfl, _, _, h1, h2⟩ := RdC.cells h
  rcases h2 with rfl | ⟨a, rfl, h2⟩
  · exact .none rfl rfl rfl
  · cases l2 with
    | nil => exact .none rfl rfl rfl
    | cons x l2 => exact .some rfl (by simp) h2 (OwnCs.plain (flatAll_rd h1) (flatAll_plain hf _))

theorem Behind.own {τ : Ty} {vy : Value} {l2 : List (El τ)} {bs : List Nat} (h : OwnL w τ vy l2 bs) (hnd : bs.Nodup) : ∃ b', Behind w τ vy l2 b' ∧ b'.Nodup ∧ ∀ x ∈ b', x ∈ bs := by
  rcases h.cases with ⟨ad, rfl, rfl, rfl⟩ | ⟨g, o, cap, arr, e, b1, rfl, rfl, hg, h2, h3, h4, h5⟩
  · exact ⟨[], .none rfl rfl rfl, List.nodup_nil, by simp⟩
  · cases l2 with
    | nil => exact ⟨[], .none (by rfl) rfl rfl, List.nodup_nil, by simp⟩
    | cons x l2 =>
      refine ⟨b1, .some (us := (arr.toList.drop o).take (List.length (x :: l2) * size τ)) rfl (by simp) (fun j u hu => ?_) h5, (List.nodup_cons.1 hnd).2, fun y hy => by simp [hy]⟩
      rw [addLit]
      rw [List.getElem?_take] at hu
      split at hu
      · exact cellAtArr hg hu
      · cases hu

theorem op_append_hot (hT : TabOk P tab) (hS : Sim P base M0 ios σ M w a st) {t e : TypeId} {te : TI} {τ : Ty} {fs : List (Nat × TypeId)} {b d : Nat} {x y : Operand} {l l2 : List (El τ)} {ks bs b' : List Nat}
    (ho : o.op = .call { callee := .builtin .append, args := #[x, y], argTypes := #[t, t] }) (hd : o.dst = some d) (hdn : d < st.nt)
    (h : look t tab = some ⟨.list τ, false, fs, e, b⟩) (he : look e tab = some te) (hte : te.ty = τ) (hpos : 0 < size τ)
    (hx : OwnL w τ (a.eval x) l bs) (hbs : bs.Nodup) (hy : Behind w τ (a.eval y) l2 b') (hb' : b'.Nodup) (hdis : ∀ g ∈ b', g ∉ bs)
    (hk1 : ∀ g ∈ bs, ∃ r ∈ ks, isHot r st.rows ∧ g ∈ σ.foot r) (hk2 : ∀ g ∈ b', ∃ r ∈ ks, isHot r st.rows ∧ g ∈ σ.foot r)
    (hlen : List.length l + List.length l2 ≤ 9223372036854775807) (hby : (List.length l + List.length l2) * te.bytes ≤ 140737488355328)
    (hfr : noTag (keyRow d 0) st = true)
    (hn : Goes P base M0 ios a o st { sv := .val false [.own τ (keyRow d 0)], nrow := [(keyRow d 0, .hot e τ (l ++ l2) 0 none false)], krow := ks } next) : o.wp P a w next Q := by
  obtain ⟨i, z, hi, hs, hib, hz, hzc⟩ := (hT e te he).info
  rw [hte] at hs hzc
  have hzl : z.cells.size = i.size := by rw [← Array.length_toList, hzc, zeros_length, hs]
  have hue := und_list hT h
  cases hy with
  | @none ad c hv hl hb =>
    subst hl; subst hb
    obtain ⟨ax, cx, ex, hlx, hmx⟩ := hx.slice
    have hrun := run_append_none (P := P) (w := w) t o.type e i hue hi ax (List.length l) cx c hlx ad
    refine wp_val (v := a.eval x) (w' := w) (by simp only [execOp, ho, resolve]; simp [invoke, builtin, hv, ex, hrun]) ?_
    refine goes_hot (S := []) (fo := bs) (l := l ++ []) (e := e) (t := τ) (z := false) (ks := ks) hS hd hdn (Nat.le_refl _) rfl rfl rfl (fun _ _ _ => rfl) (fun g hg => by cases hg) (fun g hg => ⟨OwnCs.lt hx g hg, .inr (hk1 g hg)⟩) ⟨i, hi, hs⟩ hpos (by simpa using hx) hbs (fun h => by cases h) hfr hn
  | @some ad c us hv h0 hus hu =>
    obtain ⟨v', w', bs', hrun, hw', hst⟩ := run_append_hot (P := P) (ty := o.type) hue hi hz hzl hs hpos hx hbs (a := ad) (c := c) hus hu hb' hdis h0 (by simp only [maxLen]; omega) (by rw [hib]; exact hby)
    refine wp_val (v := v') (w' := w') (by simp only [execOp, ho, resolve]; simp [invoke, builtin, hv, hrun]) ?_
    refine goes_hot (S := bs) (fo := bs') (l := l ++ l2) (e := e) (t := τ) (z := false) (ks := ks) hS hd hdn hst.size hst.os hst.tape hst.output hst.keep (fun g hg => hk1 g hg) (fun g hg => ⟨OwnCs.lt hw' g hg, ?_⟩) ⟨i, hi, hs⟩ hpos hw' hst.nodup (fun h => by cases h) hfr hn
    rcases hst.sub g hg with h1 | h1 | h1
    · exact .inr (hk1 g h1)
    · exact .inr (hk2 g h1)
    · exact .inl h1

end Go.Proofs.Ytcbehcpmojnnfaa.Bv
