/- Operations on rows that may be written (3): pointers into them, loads and stores. -/
import Derived.Test.YtcbehcpmojnnfaaWH2
namespace Go.Proofs.Ytcbehcpmojnnfaa.Bv
set_option linter.unusedVariables false
set_option linter.unusedSimpArgs false

variable {P : Program} {base : World} {M0 : Mem} {ios : Ios} {σ : Sg} {M : Mem} {w : World} {a : Act} {st : St} {tab : Tab} {o : Oper} {next : Act → World → Prop} {Q : Exit → Act → World → Prop}

theorem HotOk.head {r : Nat} {e : TypeId} {t : Ty} {l : List (El t)} {hole : Option (Nat × Nat)} {z : Bool} (h : HotOk P base σ w r e t l hole z) (h0 : 0 < List.length l) : ∃ g o cap, σ.row r = .slice (some ⟨g, o, none⟩) (List.length l) cap ∧ List.length l ≤ cap := by
  have ho := h.own
  have key : ∀ {w' : World} {bs : List Nat}, OwnL w' t (σ.row r) l bs → ∃ g o cap, σ.row r = .slice (some ⟨g, o, none⟩) (List.length l) cap ∧ List.length l ≤ cap := fun h1 => by
    rcases h1.cases with ⟨ad, _, rfl, _⟩ | ⟨g, o, cap, arr, e, b1, e1, _, _, k1, _⟩
    · simp at h0
    · exact ⟨g, o, cap, e1, k1⟩
  cases hole with
  | none => exact key ho
  | some p => obtain ⟨i, off⟩ := p; obtain ⟨g, o, cap, arr, e, _, _, _, _, _, _, h7⟩ := ho; exact key h7

theorem op_indexAddr_own (hT : TabOk P tab) (hS : Sim P base M0 ios σ M w a st) {t e e0 : TypeId} {te : TI} {τ0 τ : Ty} {fs : List (Nat × TypeId)} {b : Nat} {x y : Operand} {k : IntKind} {i : Int} {l : List (El τ)} {r ver : Nat} {hole : Option (Nat × Nat)} {z : Bool}
    (ho : o.op = .indexAddr t x y) (hd : ∀ d, o.dst = some d → d < st.nt)
    (h : look t tab = some ⟨.list τ0, false, fs, e, b⟩) (he : look e tab = some te) (hs : size te.ty = size τ)
    (hr : look r st.rows = some (.hot e0 τ l ver hole z)) (hx : a.eval x = σ.row r) (hy : a.eval y = .int k i)
    (h0 : 0 ≤ i) (h1 : i < List.length l) (hn : Goes P base M0 ios a o st { sv := .hp τ r i.toNat 0 } next) : o.wp P a w next Q := by
  obtain ⟨g, oo, cap, hv, hc⟩ := (hS.hotAt hr).head (by omega)
  refine wp_val (v := .pointer (some ((⟨g, oo, none⟩ : Addr).add (i.toNat * size τ)))) (w' := w) ?_ (hn _ σ M w (hS.putO hd (fun _ => ⟨_, ⟨_, _, cap, hv, by omega, rfl⟩, by rw [Nat.add_zero]⟩)))
  have hu := und_list hT h
  have hsz := info_size hT he w
  rw [hs] at hsz
  simp [execOp, ho, hx, hv, hy, Instr.indexAt, asIntOf, run_underlying hu, h0, h1, hsz]

theorem op_indexAddr_sub (hT : TabOk P tab) (hS : Sim P base M0 ios σ M w a st) {t e e0 : TypeId} {te : TI} {τ0 τ : Ty} {fs : List (Nat × TypeId)} {b : Nat} {x y : Operand} {k : IntKind} {i : Int} {l : List (El τ)} {r ver lo hi : Nat} {z : Bool}
    (ho : o.op = .indexAddr t x y) (hd : ∀ d, o.dst = some d → d < st.nt)
    (h : look t tab = some ⟨.list τ0, false, fs, e, b⟩) (he : look e tab = some te) (hs : size te.ty = size τ)
    (hr : look r st.rows = some (.hot e0 τ l ver none z)) (hx : subOf τ (σ.row r) lo hi (a.eval x)) (hy : a.eval y = .int k i)
    (h0 : 0 ≤ i) (h1 : i < List.length ((l.take hi).drop lo)) (hn : Goes P base M0 ios a o st { sv := .hp τ r (lo + i.toNat) 0 } next) : o.wp P a w next Q := by
  obtain ⟨ad, n, cap, ad', hv, k1, k2, hxv, had⟩ := hx
  have hlen : List.length ((l.take hi).drop lo) ≤ hi - lo := by rw [List.length_drop, List.length_take]; omega
  have hl0 : 0 < List.length l := by
    cases l with
    | nil => simp at h1; omega
    | cons y l => simp
  obtain ⟨g, oo, cap', hv', hc⟩ := (hS.hotAt hr).head hl0
  rw [hv'] at hv
  injection hv with e1 e2 e3
  subst e1; subst e3
  have had := had (by omega)
  subst had
  simp only [Option.map_some] at hxv
  refine wp_val (v := .pointer (some ((⟨g, oo, none⟩ : Addr).add ((lo + i.toNat) * size τ)))) (w' := w) ?_ (hn _ σ M w (hS.putO hd (fun _ => ⟨_, ⟨_, _, cap', hv', by omega, rfl⟩, by rw [Nat.add_zero]⟩)))
  have hu := und_list hT h
  have hsz := info_size hT he w
  rw [hs] at hsz
  have hi1 : i < ((hi - lo : Nat) : Int) := by omega
  simp [execOp, ho, hxv, hy, Instr.indexAt, asIntOf, run_underlying hu, h0, hi1, hsz, Addr.add_add, Nat.add_mul]

theorem flatB_rep {N : Mem} {r ver : Nat} {p : Nat → Option (Nat × Nat)} {rows : List (Nat × RowV)} (hN : N = σ.mem r) {vs : List Value} {cs : List CellV} (h : All2 (RdV N) vs cs) : ∀ (j : Nat), (∀ c ∈ cs, (∃ t l, c = .lst t l none) ∨ plainC c = true) →
    (∀ i v t l, vs[i]? = some v → cs[i]? = some (.lst t l none) → ∀ i' off, p (j + i) = some (i', off) → ∀ rv, look r rows = some rv → rv.ver? = some ver → PosOk σ t l r rv i' off v) → All2 (RdT σ rows M) vs (flatB r ver p j cs) := by
  induction h with
  | nil => intro j _ _; exact .nil
  | @cons v c vs cs hx hr ih =>
    intro j hpl hp
    have ih' := ih (j + 1) (fun c hc => hpl c (List.mem_cons_of_mem _ hc)) (fun i u t l hu hc i' off hp' => hp (i + 1) u t l (by simpa using hu) (by simpa using hc) i' off (by rw [show j + (i + 1) = j + 1 + i by omega]; exact hp'))
    rcases hpl c (by simp) with ⟨t, l, rfl⟩ | hpc
    · simp only [flatB]
      refine .cons ⟨RdV.oneCell hx, fun rv hl hv => ⟨by rw [← hN]; exact hx, fun i off hp' => hp 0 v t l (by simp) (by simp) i off (by simpa using hp') rv hl hv⟩⟩ ih'
    · cases c <;> simp [plainC] at hpc <;> exact .cons ⟨hx, trivial⟩ ih'

theorem flat_cells : ∀ (t : Ty) (x : El t), ∀ c ∈ flat t x, (∃ t' l, c = .lst t' l none) ∨ plainC c = true
  | .int _, x, c, h => by simp [flat] at h; subst h; exact .inr rfl
  | .bool, x, c, h => by simp [flat] at h; subst h; exact .inr rfl
  | .str, x, c, h => by simp [flat] at h; subst h; exact .inr rfl
  | .list t, x, c, h => by simp [flat] at h; subst h; exact .inl ⟨_, _, rfl⟩
  | .unit, x, c, h => by simp [flat] at h
  | .pair a b, x, c, h => by
    simp only [flat, List.mem_append] at h
    rcases h with h | h
    · exact flat_cells a x.1 c h
    · exact flat_cells b x.2 c h

theorem op_indexAddr_bor (hT : TabOk P tab) (hS : Sim P base M0 ios σ M w a st) {t e : TypeId} {te : TI} {τ0 τ : Ty} {fs : List (Nat × TypeId)} {b : Nat} {x y : Operand} {k : IntKind} {i : Int} {l : List (El τ)} {r ver : Nat}
    (ho : o.op = .indexAddr t x y) (hd : ∀ d, o.dst = some d → d < st.nt)
    (h : look t tab = some ⟨.list τ0, false, fs, e, b⟩) (he : look e tab = some te) (hs : size te.ty = size τ)
    (hx : RdC (σ.mem r) (.list τ) [a.eval x] l) (hy : a.eval y = .int k i)
    (h0 : 0 ≤ i) (h1 : i < List.length l) (hn : Goes P base M0 ios a o st { sv := .bptr (flatB r ver (fun _ => none) 0 (flat τ (l.getD i.toNat (dfl τ)))) r ver } next) : o.wp P a w next Q := by
  obtain ⟨ad, cap, hv, vs, h2, h3, h4⟩ := RdC.at hx (i := i.toNat) (by omega)
  refine wp_val (v := .pointer (some (ad.add (i.toNat * size τ)))) (w' := w) ?_ (hn _ σ M w (hS.putO hd ?_))
  · have hu := und_list hT h
    have hsz := info_size hT he w
    rw [hs] at hsz
    simp [execOp, ho, hv, hy, Instr.indexAt, asIntOf, run_underlying hu, h0, h1, hsz]
  · intro rv hl hver
    refine ⟨_, rfl, fun j c hj => ?_⟩
    have hb := flatB_rep (σ := σ) (M := M) (r := r) (ver := ver) (p := fun _ => none) (rows := st.rows) rfl (rd_flat _ _ _ h4) 0 (flat_cells _ _) (fun _ _ _ _ _ _ _ _ hp => by cases hp)
    obtain ⟨u, hu, hr⟩ := hb.get hj
    exact ⟨u, h3 j u hu, hr⟩

theorem op_fieldAddr_hp (hT : TabOk P tab) (hS : Sim P base M0 ios σ M w a st) {t tf : TypeId} {ti tif : TI} {x : Operand} {f r i oo off : Nat} {τ : Ty} (ho : o.op = .fieldAddr t x f) (hd : ∀ d, o.dst = some d → d < st.nt)
    (h : look t tab = some ti) (hg : ti.agg = true) (hf : ti.fields[f]? = some (off, tf)) (htf : look tf tab = some tif) (hs : 0 < size tif.ty) (hlive : (look r st.rows).isSome = true)
    (hx : RepSv σ st.rows st.boxes M (a.eval x) (.hp τ r i oo)) (hn : Goes P base M0 ios a o st { sv := .hp τ r i (oo + off) } next) : o.wp P a w next Q := by
  obtain ⟨ad, ⟨ad0, n, cap, h1, h2, h3⟩, hx⟩ := hx hlive
  refine wp_val (v := .pointer (some (ad.add off))) (w' := w) ?_ (hn _ σ M w (hS.putO hd (fun _ => ⟨_, ⟨ad0, n, cap, h1, h2, rfl⟩, by rw [h3, Addr.add_add, Nat.add_assoc]⟩)))
  have := run_fieldAt hT h hg hf htf hs ad w
  simp [execOp, ho, hx, this]

theorem op_fieldAddr_bptr (hT : TabOk P tab) (hS : Sim P base M0 ios σ M w a st) {t tf : TypeId} {ti tif : TI} {x : Operand} {f r ver off : Nat} {cs : List CellV} {rv : RowV} (ho : o.op = .fieldAddr t x f) (hd : ∀ d, o.dst = some d → d < st.nt)
    (h : look t tab = some ti) (hg : ti.agg = true) (hf : ti.fields[f]? = some (off, tf)) (htf : look tf tab = some tif) (hs : 0 < size tif.ty) (hl : look r st.rows = some rv) (hv : rv.ver? = some ver)
    (hx : RepSv σ st.rows st.boxes M (a.eval x) (.bptr cs r ver)) (hn : Goes P base M0 ios a o st { sv := .bptr (cs.drop off) r ver } next) : o.wp P a w next Q := by
  obtain ⟨ad, hx, hc⟩ := hx rv hl hv
  refine wp_val (v := .pointer (some (ad.add off))) (w' := w) ?_ (hn _ σ M w (hS.putO hd (fun _ _ _ => ⟨ad.add off, rfl, fun i c hi => ?_⟩)))
  · have := run_fieldAt hT h hg hf htf hs ad w
    simp [execOp, ho, hx, this]
  · rw [List.getElem?_drop] at hi
    rw [Addr.add_add]
    exact hc _ c hi

theorem bptr_cells {rows : List (Nat × RowV)} {ad : Addr} {N : Mem} : ∀ {cs : List CellV} {o : Nat}, (∀ i c, cs[i]? = some c → ∃ u, N (ad.add (o + i)) = some u ∧ RdT σ rows M u c) →
    ∃ vs, All2 (RdT σ rows M) vs cs ∧ ∀ j u, vs[j]? = some u → N (ad.add (o + j)) = some u
  | [], o, _ => ⟨[], .nil, fun j u h => by simp at h⟩
  | c :: r, o, h => by
    obtain ⟨u, hu, hr⟩ := h 0 c (by simp)
    obtain ⟨vs, h1, h2⟩ := bptr_cells (ad := ad) (N := N) (cs := r) (o := o + 1) (fun i c' hc => by
      have := h (i + 1) c' (by simpa using hc)
      rwa [show o + (i + 1) = o + 1 + i by omega] at this)
    refine ⟨u :: vs, .cons hr h1, ?_⟩
    intro j x hx
    cases j with
    | zero => simp at hx; subst hx; exact hu
    | succ j => simp at hx; have := h2 j x hx; rwa [show o + 1 + j = o + (j + 1) by omega] at this

theorem op_load_bptr (hT : TabOk P tab) (hS : Sim P base M0 ios σ M w a st) {t e0 : TypeId} {ti : TI} {x : Operand} {cs : List CellV} {r ver : Nat} {τ : Ty} {l : List (El τ)} {hole : Option (Nat × Nat)} {z : Bool} (ho : o.op = .load t x) (hd : ∀ d, o.dst = some d → d < st.nt)
    (ht : look t tab = some ti) (hr : look r st.rows = some (.hot e0 τ l ver hole z)) (hx : RepSv σ st.rows st.boxes M (a.eval x) (.bptr cs r ver)) (hl : size ti.ty ≤ cs.length) (hag : ti.agg = true ∨ size ti.ty = 1)
    (hn : Goes P base M0 ios a o st { sv := .val ti.agg (cs.take (size ti.ty)) } next) : o.wp P a w next Q := by
  obtain ⟨ad, hx, hc⟩ := hx _ hr rfl
  obtain ⟨vs, h1, h2⟩ := bptr_cells (σ := σ) (rows := st.rows) (M := M) (N := σ.mem r) (ad := ad) (cs := cs) (o := 0) (by simpa using hc)
  have h3 := h1.take (size ti.ty)
  obtain ⟨v, hv, hvc, hva⟩ := run_loadVar_cells (w := w) hT ht hag ad (vs.take (size ti.ty))
    (by rw [List.length_take, h1.length]; omega)
    (by
      intro j u hu
      rw [List.getElem?_take] at hu
      split at hu
      · exact ((hS.hotAt hr).mem _ _ (by simpa using h2 j u hu)).1
      · cases hu)
    h3.one
  refine wp_val (v := v) (w' := w) ?_ (hn _ σ M w (hS.putO hd ⟨by rw [hvc]; exact h3, hva⟩))
  simp [execOp, ho, Instr.loadAt, Instr.sureAddr, hx, hv]

theorem op_load_hp (hT : TabOk P tab) (hS : Sim P base M0 ios σ M w a st) {t e0 : TypeId} {ti : TI} {x : Operand} {r i off ver : Nat} {τ : Ty} {l : List (El τ)} {z : Bool} (ho : o.op = .load t x) (hd : ∀ d, o.dst = some d → d < st.nt)
    (ht : look t tab = some ti) (hr : look r st.rows = some (.hot e0 τ l ver none z)) (hx : RepSv σ st.rows st.boxes M (a.eval x) (.hp τ r i off)) (hl : off + size ti.ty ≤ size τ) (hag : ti.agg = true ∨ size ti.ty = 1)
    (hn : Goes P base M0 ios a o st { sv := .val ti.agg (((flatB r ver (fun j => some (i, j)) 0 (flat τ (l.getD i (dfl τ)))).drop off).take (size ti.ty)) } next) : o.wp P a w next Q := by
  have hok := hS.hotAt hr
  obtain ⟨ad, ⟨ad0, n, cap, h1, h2, h3⟩, hx⟩ := hx (by rw [hr]; rfl)
  obtain ⟨ax, cx, hlen⟩ := hok.len
  have hn' : n = List.length l := by rw [hlen] at h1; injection h1 with _ e2; exact e2.symm
  obtain ⟨ad1, cap1, hv1, vs, k1, k2, k3⟩ := RdC.at hok.rd (i := i) (by omega)
  have e1 : ad1 = ad0 := by rw [h1] at hv1; injection hv1 with e1; injection e1 with e1; exact e1.symm
  subst e1
  have hb := flatB_rep (σ := σ) (M := M) (r := r) (ver := ver) (p := fun j => some (i, j)) (rows := st.rows) rfl (rd_flat _ _ _ k3) 0 (flat_cells _ _) (fun j u t' l' hu hc i' off' hp rv hl hv => by
    cases hp
    rw [hr] at hl; cases hl
    refine ⟨by rw [Nat.zero_add]; exact hc, _, ⟨ad1, n, cap, h1, h2, rfl⟩, ?_⟩
    rw [Nat.zero_add, ← Addr.add_add]
    exact k2 j u hu)
  have hbl := hb.length
  have h4 := (hb.drop off).take (size ti.ty)
  obtain ⟨v, hv, hvc, hva⟩ := run_loadVar_cells (w := w) hT ht hag ad ((vs.drop off).take (size ti.ty))
    (by rw [List.length_take, List.length_drop, k1]; omega)
    (by
      intro j u hu
      rw [List.getElem?_take] at hu
      split at hu
      · rw [List.getElem?_drop] at hu
        have := (hok.mem _ _ (k2 _ u hu)).1
        rw [h3, ← Addr.add_add, Addr.add_add]
        exact this
      · cases hu)
    h4.one
  refine wp_val (v := v) (w' := w) ?_ (hn _ σ M w (hS.putO hd ⟨by rw [hvc]; exact h4, hva⟩))
  simp [execOp, ho, Instr.loadAt, Instr.sureAddr, hx, hv]

end Go.Proofs.Ytcbehcpmojnnfaa.Bv
