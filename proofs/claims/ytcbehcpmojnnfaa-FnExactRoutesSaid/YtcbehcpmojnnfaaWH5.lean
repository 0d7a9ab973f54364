/- Operations on rows that may be written (5): copy, clear, lengths, texts, pieces, function values. -/
import Derived.Test.YtcbehcpmojnnfaaWH4
import Derived.Laws.BytesString
namespace Go.Proofs.Ytcbehcpmojnnfaa.Bv
set_option linter.unusedVariables false
set_option linter.unusedSimpArgs false

variable {P : Program} {base : World} {M0 : Mem} {ios : Ios} {σ : Sg} {M : Mem} {w : World} {a : Act} {st : St} {tab : Tab} {o : Oper} {next : Act → World → Prop} {Q : Exit → Act → World → Prop}

/-- A row is what it was; nobody has borrowed of it. -/
theorem Sim.bump (hS : Sim P base M0 ios σ M w a st) {e0 : TypeId} {τ : Ty} {l : List (El τ)} {r ver : Nat} {z : Bool} (hr : look r st.rows = some (.hot e0 τ l ver none z)) (hv : noVers st [(r, .hot e0 τ l (ver + 1) none z)] = true) :
    Sim P base M0 ios σ M w a { st with rows := stepRows [(r, .hot e0 τ l (ver + 1) none z)] [] st.rows } := by
  have hok := hS.hotAt hr
  have hrh : isHot r st.rows := ⟨e0, τ, l, ver, none, z, hr⟩
  have hlk : ∀ r' rv, look r' [(r, RowV.hot e0 τ l (ver + 1) none z)] = some rv → r' = r ∧ rv = .hot e0 τ l (ver + 1) none z := fun r' rv hh => by
    rw [look_cons] at hh
    split at hh
    · rename_i e1; cases hh; exact ⟨e1.symm, rfl⟩
    · cases hh
  have hls : ∀ r', (look r' [(r, RowV.hot e0 τ l (ver + 1) none z)]).isSome = true → r' = r := fun r' hh => by
    obtain ⟨rv, hrv⟩ := Option.isSome_iff_exists.1 hh
    exact (hlk r' rv hrv).1
  refine hS.step (S := []) ?_ hv
  exact {
    sbox := rfl
    srow := rfl
    sfoot := fun r' hn => ⟨rfl, rfl⟩
    size := Nat.le_refl _
    os := rfl
    tape := rfl
    output := rfl
    keep := fun k hk hn => rfl
    touched := fun x hx => (by cases hx)
    updOk := fun r' rv hh => by
      obtain ⟨rfl, rfl⟩ := hlk r' rv hh
      exact ⟨by simp, hrh, _, _, _, _, _, _, rfl, hok⟩
    foot := fun r' hh x hx => by
      have e1 := hls r' hh; subst e1
      exact ⟨hS.hot.lt r' hrh x hx, .inr ⟨r', hrh, hx, .inr hh⟩⟩
    apart := fun r1 r2 h1 h2 hne => absurd ((hls r1 h1).trans (hls r2 h2).symm) hne }

theorem foots_nil (σ : Sg) : foots σ [] = [] := rfl

/-- A piece of a row is written, all of it. -/
theorem Sim.putRange (hS : Sim P base M0 ios σ M w a st) {e0 : TypeId} {τ : Ty} {l m : List (El τ)} {r ver lo : Nat} {z : Bool} (hr : look r st.rows = some (.hot e0 τ l ver none z)) {us : List Value} (hu : OwnCs w us (flatAll τ m) [])
    (hp : 0 < size τ) (h0 : 0 < List.length m) (hlo : lo + List.length m ≤ List.length l) (hv : noVers st [(r, .hot e0 τ (l.take lo ++ (m ++ l.drop (lo + List.length m))) (ver + 1) none z)] = true) :
    ∃ g oo cap arr e', σ.row r = .slice (some ⟨g, oo, none⟩) (List.length l) cap ∧ w.heap[g]? = some (.cells arr e' (0, 0)) ∧ oo + lo * size τ + us.length ≤ arr.size ∧
      ∃ σ', Sim P base M0 ios σ' M (w.setRow g (arrPut arr (oo + lo * size τ) us)) a { st with rows := stepRows [(r, .hot e0 τ (l.take lo ++ (m ++ l.drop (lo + List.length m))) (ver + 1) none z)] [] st.rows } := by
  have hc : flatAll τ l = flatAll τ (l.take lo) ++ (flatAll τ ((l.drop lo).take (List.length m)) ++ flatAll τ (l.drop (lo + List.length m))) := by
    rw [← flatAll_append, ← flatAll_append, ← List.drop_drop, List.take_append_drop, List.take_append_drop]
  have hl2 : (flatAll τ ((l.drop lo).take (List.length m))).length = List.length m * size τ := by rw [flatAll_length, List.length_take, List.length_drop, Nat.min_eq_left (by omega)]
  have hc1 : (flatAll τ (l.take lo)).length = lo * size τ := by rw [flatAll_length, List.length_take, Nat.min_eq_left (by omega)]
  obtain ⟨g, oo, cap, arr, e', k1, k2, k3, σ', k4⟩ := hS.putRow (ks := []) hr (by rw [foots_nil]; exact hu) rfl (by simp) (by simp) hc (by rw [hl2, flatAll_length]) (by rw [hl2]; exact Nat.mul_pos h0 hp) (by rw [flatAll_append, flatAll_append]) (by simp; omega) (.inl rfl) hv
  rw [hc1] at k3 k4
  exact ⟨g, oo, cap, arr, e', k1, k2, k3, σ', k4⟩

/-- The slice that is written: a row, or a piece of it. -/
def DstOf (σ : Sg) (τ : Ty) (r lo hi : Nat) (n : Nat) (v : Value) : Prop := subOf τ (σ.row r) lo hi v ∨ (v = σ.row r ∧ lo = 0 ∧ hi = n)

theorem DstOf.slice {r lo hi : Nat} {τ : Ty} {l : List (El τ)} {v : Value} {e : TypeId} {z : Bool} (h : DstOf σ τ r lo hi (List.length l) v) (hok : HotOk P base σ w r e τ l none z) : ∃ ad c, v = .slice ad (hi - lo) c ∧ (0 < hi - lo → ∀ g oo cap, σ.row r = .slice (some ⟨g, oo, none⟩) (List.length l) cap → ad = some ⟨g, oo + lo * size τ, none⟩) := by
  obtain ⟨ax, cx, hlen⟩ := hok.len
  rcases h with ⟨ad, n, cap, ad', h1, h2, h3, h4, h5⟩ | ⟨rfl, rfl, rfl⟩
  · have hn : n = List.length l := by rw [hlen] at h1; injection h1 with _ e2; exact e2.symm
    subst hn
    refine ⟨_, _, h4, fun h0 g oo cap' e1 => ?_⟩
    rw [e1] at h1
    injection h1 with e2 _ e3
    subst e2; subst e3
    have hc : List.length l ≤ cap' := by
      have h6 : 0 < List.length l := by omega
      have ho := hok.own
      rcases OwnL.cases ho with ⟨_, _, e6, _⟩ | ⟨_, _, cap2, _, _, _, e7, _, _, e8, _⟩
      · rw [e6] at h6; simp at h6
      · rw [e1] at e7; injection e7 with _ _ e9; omega
    rw [h5 (by omega)]
    simp only [Option.map_some, add_lit]
  · refine ⟨ax, cx, by rw [hlen, Nat.sub_zero], fun h0 g oo cap' e1 => ?_⟩
    rw [hlen] at e1
    injection e1 with e2 _ _
    rw [e2, Nat.zero_mul, Nat.add_zero]

theorem op_copy (hT : TabOk P tab) (hS : Sim P base M0 ios σ M w a st) {tx ty e e0 : TypeId} {te : TI} {τ : Ty} {fs : List (Nat × TypeId)} {b : Nat} {x y : Operand} {l l2 : List (El τ)} {r ver lo hi : Nat} {z : Bool}
    (ho : o.op = .call { callee := .builtin .copy, args := #[x, y], argTypes := #[tx, ty] }) (hd : ∀ d, o.dst = some d → d < st.nt)
    (h : look tx tab = some ⟨.list τ, false, fs, e, b⟩) (he : look e tab = some te) (hte : te.ty = τ) (hp : 0 < size τ) (hf : flatTy τ = true)
    (hr : look r st.rows = some (.hot e0 τ l ver none z)) (hx : DstOf σ τ r lo hi (List.length l) (a.eval x)) (hy : RdC (memAll w) (.list τ) [a.eval y] l2) (h1 : lo ≤ hi) (h2 : hi ≤ List.length l)
    (hv : noVers st [(r, .hot e0 τ (l.take lo ++ (l2.take (min (hi - lo) (List.length l2)) ++ l.drop (lo + min (hi - lo) (List.length l2)))) (ver + 1) none z)] = true)
    (hn : Goes P base M0 ios a o st { sv := .val false [.int .i64 (min (hi - lo) (List.length l2) : Nat)], urow := [(r, .hot e0 τ (l.take lo ++ (l2.take (min (hi - lo) (List.length l2)) ++ l.drop (lo + min (hi - lo) (List.length l2)))) (ver + 1) none z)] } next) : o.wp P a w next Q := by
  have hok := hS.hotAt hr
  obtain ⟨adx, cx, ex, hx2⟩ := hx.slice hok
  obtain ⟨ady, cy, css, ey, hly, hmy, hcs, hay⟩ := RdC.cells hy
  have hu := und_list hT h
  have hsz := info_size hT he w
  rw [hte] at hsz
  -- the cells that are copied
  have hfin : ∀ (σ' : Sg) (w' : World), Sim P base M0 ios σ' M w' a { st with rows := stepRows [(r, .hot e0 τ (l.take lo ++ (l2.take (min (hi - lo) (List.length l2)) ++ l.drop (lo + min (hi - lo) (List.length l2)))) (ver + 1) none z)] [] st.rows } →
      (Builtin.copy_ #[tx, ty] o.type #[a.eval x, a.eval y]).run P w = .ok (goInt ((min (hi - lo) (List.length l2) : Nat) : Int)) w' → o.wp P a w next Q := fun σ' w' hS' hrun => by
    refine wp_val (v := goInt ((min (hi - lo) (List.length l2) : Nat) : Int)) (w' := w') (by simp only [execOp, ho, resolve]; simp [invoke, builtin, hrun]) ?_
    refine hn _ σ' M w' ?_
    have := hS'.putO (o := o) (sv := .val false [.int .i64 (min (hi - lo) (List.length l2) : Nat)]) hd (rep_int _ _)
    cases hdst : o.dst with
    | none =>
      rw [hdst] at this
      simp only [Eff.apply, rowsOf_eq, stepRows_nil, List.nil_append] at this ⊢
      exact this
    | some d =>
      rw [hdst] at this
      rw [apply_some] at this ⊢
      simp only [stepRows_nil, List.nil_append] at this ⊢
      exact this
  by_cases hk : min (hi - lo) (List.length l2) = 0
  · have e1 : l.take lo ++ (l2.take (min (hi - lo) (List.length l2)) ++ l.drop (lo + min (hi - lo) (List.length l2))) = l := by rw [hk]; simp
    refine hfin σ w ?_ ?_
    · rw [e1] at hv ⊢; exact hS.bump hr hv
    · have hcl : (Builtin.firstCells (size τ) 0 (.slice ady (List.length l2) cy)).run P w = .ok #[] w := by cases ady <;> simp [Builtin.firstCells, loadCells, loadCellsFrom]
      have hmin : Nat.min (List.length l2) (hi - lo) = 0 := by rw [Nat.min_comm] at hk; exact hk
      rw [ex, ey, hk]
      cases adx <;> simp [Builtin.copy_, run_underlying hu, Builtin.lenOf, hsz, hmin, hcl, storeCells]
  · rcases hay with rfl | ⟨ay, rfl, hay⟩
    · simp at hk
    · have hml : List.length (l2.take (min (hi - lo) (List.length l2))) = min (hi - lo) (List.length l2) := by rw [List.length_take]; omega
      have hus := (All2.take (flatAll_rd hcs) (min (hi - lo) (List.length l2) * size τ))
      rw [← flatAll_take] at hus
      have hown := OwnCs.plain (w := w) hus (flatAll_plain hf _)
      have hul : (css.flatten.take (min (hi - lo) (List.length l2) * size τ)).length = min (hi - lo) (List.length l2) * size τ := by rw [hus.length, flatAll_length, hml]
      have hput := hS.putRange (lo := lo) (m := l2.take (min (hi - lo) (List.length l2))) hr hown hp (by omega) (by omega) (by rw [hml]; exact hv)
      rw [hml] at hput
      obtain ⟨g, oo, cap, arr, e', k1, k2, k3, σ', k4⟩ := hput
      refine hfin σ' _ k4 ?_
      have hadx := hx2 (by omega) g oo cap k1
      have hst := run_storeCells_at P g (oo + lo * size τ) e' _ 0 arr w k2 (by rw [Nat.add_zero]; exact k3) hown.one
      simp only [Nat.add_zero] at hst
      have hfc := run_firstCells_some (P := P) w (size τ) (min (hi - lo) (List.length l2)) ay (List.length l2) cy _ hul (fun j v hj => by
        rw [List.getElem?_take] at hj
        split at hj
        · exact hay j v hj
        · cases hj)
      have hmin : Nat.min (List.length l2) (hi - lo) = min (hi - lo) (List.length l2) := Nat.min_comm _ _
      rw [ex, ey, hadx]
      simp only [Builtin.copy_, List.getElem?_toArray, List.getElem?_cons_zero, List.getElem?_cons_succ, Sem.run_bind, run_underlying hu, Builtin.lenOf, Sem.run_pure, Result.andThen_ok, hsz, hmin, hfc]
      simp only [hst, Result.andThen_ok, Sem.run_pure, arrPut]

theorem zeroCells_list {z : Array Value} {τ : Ty} (hz : z.toList = zeros τ) (hp : 0 < size τ) (n : Nat) : (Builtin.zeroCells z n).toList = (List.replicate n (zeros τ)).flatten := by
  have h1 := range_zeros (zeros τ) (by rw [zeros_length]; exact hp) n
  rw [← h1, zeros_length]
  unfold Builtin.zeroCells
  have hs : z.size = size τ := by rw [← Array.length_toList, hz, zeros_length]
  rw [Array.toList_map, Array.toList_range, hs]
  apply List.map_congr_left
  intro j _
  rw [← hz]
  simp only [getElem!_def, Array.getElem?_toList]

theorem op_clear (hT : TabOk P tab) (hS : Sim P base M0 ios σ M w a st) {tx e e0 : TypeId} {te : TI} {τ : Ty} {fs : List (Nat × TypeId)} {b : Nat} {x : Operand} {l : List (El τ)} {r ver lo hi : Nat} {z : Bool}
    (ho : o.op = .call { callee := .builtin .clear, args := #[x], argTypes := #[tx] }) (hd : ∀ d, o.dst = some d → d < st.nt)
    (h : look tx tab = some ⟨.list τ, false, fs, e, b⟩) (he : look e tab = some te) (hte : te.ty = τ) (hp : 0 < size τ)
    (hr : look r st.rows = some (.hot e0 τ l ver none z)) (hx : DstOf σ τ r lo hi (List.length l) (a.eval x)) (h1 : lo ≤ hi) (h2 : hi ≤ List.length l)
    (hv : noVers st [(r, .hot e0 τ (l.take lo ++ (List.replicate (hi - lo) (dfl τ) ++ l.drop hi)) (ver + 1) none z)] = true)
    (hn : Goes P base M0 ios a o st { sv := .tup [], urow := [(r, .hot e0 τ (l.take lo ++ (List.replicate (hi - lo) (dfl τ) ++ l.drop hi)) (ver + 1) none z)] } next) : o.wp P a w next Q := by
  have hok := hS.hotAt hr
  obtain ⟨adx, cx, ex, hx2⟩ := hx.slice hok
  have hu := und_list hT h
  obtain ⟨zz, hz, hzc⟩ := info_zero hT he w
  rw [hte] at hzc
  have hfin : ∀ (σ' : Sg) (w' : World), Sim P base M0 ios σ' M w' a { st with rows := stepRows [(r, .hot e0 τ (l.take lo ++ (List.replicate (hi - lo) (dfl τ) ++ l.drop hi)) (ver + 1) none z)] [] st.rows } →
      (Builtin.clear_ #[tx] o.type #[a.eval x]).run P w = .ok (.tuple #[]) w' → o.wp P a w next Q := fun σ' w' hS' hrun => by
    refine wp_val (v := .tuple #[]) (w' := w') (by simp only [execOp, ho, resolve]; simp [invoke, builtin, hrun]) ?_
    refine hn _ σ' M w' ?_
    have := hS'.putO (o := o) (v := .tuple #[]) (sv := .tup []) hd ⟨#[], rfl, .nil⟩
    cases hdst : o.dst with
    | none =>
      rw [hdst] at this
      simp only [Eff.apply, rowsOf_eq, stepRows_nil, List.nil_append] at this ⊢
      exact this
    | some d =>
      rw [hdst] at this
      rw [apply_some] at this ⊢
      simp only [stepRows_nil, List.nil_append] at this ⊢
      exact this
  by_cases hk : hi - lo = 0
  · have e1 : l.take lo ++ (List.replicate (hi - lo) (dfl τ) ++ l.drop hi) = l := by rw [hk, show hi = lo by omega]; simp
    refine hfin σ w ?_ ?_
    · rw [e1] at hv ⊢; exact hS.bump hr hv
    · rw [ex, hk]
      cases adx <;> simp [Builtin.clear_, run_underlying hu]
  · have hml : List.length (List.replicate (hi - lo) (dfl τ)) = hi - lo := List.length_replicate
    have hown := OwnCs.zerosN (w := w) τ (hi - lo)
    have e2 : lo + List.length (List.replicate (hi - lo) (dfl τ)) = hi := by rw [hml]; omega
    have hput := hS.putRange (lo := lo) (m := List.replicate (hi - lo) (dfl τ)) hr hown hp (by omega) (by omega) (by rw [e2]; exact hv)
    rw [e2] at hput
    obtain ⟨g, oo, cap, arr, e', k1, k2, k3, σ', k4⟩ := hput
    refine hfin σ' _ k4 ?_
    have hadx := hx2 (by omega) g oo cap k1
    have hst := run_storeCells_at P g (oo + lo * size τ) e' _ 0 arr w k2 (by rw [Nat.add_zero]; exact k3) hown.one
    simp only [Nat.add_zero] at hst
    have hzl := zeroCells_list hzc hp (hi - lo)
    rw [zeros_eq] at hzl
    rw [ex, hadx]
    obtain ⟨n, hn'⟩ : ∃ n, hi - lo = n + 1 := ⟨hi - lo - 1, by omega⟩
    rw [hn'] at hzl hst ⊢
    simp only [Builtin.clear_, List.getElem?_toArray, List.getElem?_cons_zero, Sem.run_bind, run_underlying hu, Sem.run_pure, Result.andThen_ok, hz, hzl]
    simp only [hst, Result.andThen_ok, Sem.run_pure, arrPut]

/-! ### What is only read -/

theorem op_len_any (hT : TabOk P tab) (hS : Sim P base M0 ios σ M w a st) {t e : TypeId} {τ0 τ : Ty} {fs : List (Nat × TypeId)} {b : Nat} {x : Operand} {l : List (El τ)} {N : Mem}
    (ho : o.op = .call { callee := .builtin .len, args := #[x], argTypes := #[t] }) (hd : ∀ d, o.dst = some d → d < st.nt) (h : look t tab = some ⟨.list τ0, false, fs, e, b⟩)
    (hx : RdC N (.list τ) [a.eval x] l) (hn : Goes P base M0 ios a o st { sv := .val false [.int .i64 (List.length l)] } next) : o.wp P a w next Q := by
  obtain ⟨ad, cap, e1, _, _, _⟩ := hx
  have hv : a.eval x = .slice ad (List.length l) cap := List.head_eq_of_cons_eq e1
  refine wp_val (v := .int .i64 (List.length l)) (w' := w) ?_ (hn _ σ M w (hS.putO hd (rep_int _ _)))
  have hu := und_list hT h
  simp [execOp, ho, resolve, invoke, builtin, Builtin.len_, hv, run_underlying hu, goInt]

theorem foldl_push (ns : List Int) : ∀ (acc : ByteArray), ns.foldl (fun r n => r.push (UInt8.ofNat n.toNat)) acc = acc ++ ⟨(ns.map fun n => UInt8.ofNat n.toNat).toArray⟩ := by
  induction ns with
  | nil => intro acc; apply ByteArray.ext; simp [ByteArray.data_append]
  | cons n ns ih =>
    intro acc
    rw [List.foldl_cons, ih]
    apply ByteArray.ext
    simp [ByteArray.data_append, ByteArray.data_push]

theorem bytes_flat {N : Mem} {css : List (List Value)} {l : List Int} (h : All2 (RdC N (.int .u8)) css l) : css.flatten = l.map (Value.int .u8) := by
  induction h with
  | nil => rfl
  | @cons c n cs ns hx hr ih =>
    have : c = [.int .u8 n] := hx
    rw [this, List.flatten_cons, ih]; rfl

theorem op_convert_any (hT : TabOk P tab) (hS : Sim P base M0 ios σ M w a st) {s t e e' : TypeId} {fs fs' : List (Nat × TypeId)} {b b' : Nat} {te : TI} {x : Operand} {l : List Int}
    (ho : o.op = .convert s t x) (hd : ∀ d, o.dst = some d → d < st.nt) (h : look t tab = some ⟨.str, false, fs, e, b⟩) (hs : look s tab = some ⟨.list (.int .u8), false, fs', e', b'⟩) (he : look e' tab = some te) (hte : te.ty = .int .u8) (hta : te.agg = false)
    (hx : RdC (memAll w) (.list (.int .u8)) [a.eval x] l) (hn : Goes P base M0 ios a o st { sv := .val false [.str (l.map fun n => UInt8.ofNat n.toNat)] } next) : o.wp P a w next Q := by
  obtain ⟨ad, cap, css, ev, hl, hm, hc, had⟩ := RdC.cells (τ := .int .u8) hx
  have hcs : css.flatten = l.map (Value.int .u8) := bytes_flat hc
  have hue : P.underlying e' = some (.int .u8) := by have := (hT e' te he).und; rw [hta, hte] at this; simpa using this
  have hconv := run_convert_bytes_string (P := P) w s t e' ad l.length cap (und_list hT hs) hue (und_str hT h)
  refine wp_val (v := .string ⟨(l.map fun n => UInt8.ofNat n.toNat).toArray⟩) (w' := w) ?_ (hn _ σ M w (hS.putO hd (rep_str _)))
  simp only [execOp, ho, ev]
  rw [Sem.run_bind, hconv]
  rcases had with h0 | ⟨a0, e0, h2⟩
  · subst h0
    cases ad with
    | none => simp [Conv.bytesToString]; rfl
    | some a1 =>
      have := run_bytesToString (P := P) w a1 0 cap [] (by simp [loadCells, loadCellsFrom])
      simp only [List.length_nil]
      rw [this]; rfl
  · subst e0
    have hload : (loadCells a0 l.length).run P w = .ok (l.map (Value.int .u8)).toArray w := by
      have := run_loadCells_list (P := P) w a0 (l.map (Value.int .u8)) (fun j u hu => h2 j u (by rw [hcs]; exact hu))
      simpa using this
    rw [run_bytesToString w a0 l.length cap l hload, foldl_push]
    simp only [Result.andThen_ok, Sem.run_pure]
    congr 3

/-! ### Pieces -/

theorem run_slice_any (hT : TabOk P tab) {t : TypeId} {ti te : TI} {τ0 τ : Ty} {x : Operand} {lo hi : Option Operand} {len cap : Nat} {ad : Option Addr} {n m : Option Int} {kl kh : IntKind}
    (ho : o.op = .slice t x lo hi none) (h : look t tab = some ti) (hty : ti.ty = .list τ0) (hg : ti.agg = false) (he : look ti.elem tab = some te) (hs : size te.ty = size τ) (hv : a.eval x = .slice ad len cap)
    (hlo : lo.map a.eval = n.map (Value.int kl)) (hhi : hi.map a.eval = m.map (Value.int kh))
    (h0 : ∀ j, n = some j → 0 ≤ j) (h1 : ∀ j, m = some j → 0 ≤ j) (h2 : loOf n ≤ hiOf len m) (h3 : hiOf len m ≤ len) (hl : len ≤ cap) :
    (execOp a.eval o).run P w = .ok (.value (.slice (if cap = loOf n then ad else ad.map (·.add (loOf n * size τ))) (hiOf len m - loOf n) (cap - loOf n))) w := by
  have hu : P.underlying t = some (.slice ti.elem) := by have := (hT t ti h).und; rw [hg, hty] at this; simpa using this
  have hb := run_bounds (P := P) (isS := true) (len := len) (cap := cap) n m kl kh h0 h1 h2 (by omega) w
  have hsz := info_size hT he w
  rw [hs] at hsz
  rw [← hlo, ← hhi] at hb
  simp [execOp, ho, hv, Instr.sliceAt, run_underlying hu, Instr.slice, hb, hsz]

theorem sliceL_spec {τ : Ty} {l : List (El τ)} {n m : Option Int} (h : ∀ p ∈ (sliceL τ l n m).1, p) :
    (∀ j, n = some j → 0 ≤ j) ∧ (∀ j, m = some j → 0 ≤ j) ∧ loOf n ≤ hiOf (List.length l) m ∧ hiOf (List.length l) m ≤ List.length l ∧ (sliceL τ l n m).2.1 = (l.take (hiOf (List.length l) m)).drop (loOf n) ∧ (sliceL τ l n m).2.2 = (loOf n, hiOf (List.length l) m) := by
  cases n with
  | none => cases m with
    | none => exact ⟨fun _ e => (by cases e), fun _ e => (by cases e), by simp [loOf], by simp [hiOf], by simp [sliceL, loOf, hiOf], rfl⟩
    | some j =>
      have k1 : 0 ≤ j := h _ (by simp [sliceL])
      have k2 : j ≤ (List.length l : Int) := h _ (by simp [sliceL])
      refine ⟨fun _ e => (by cases e), fun _ e => (by cases e; exact k1), by simp [loOf], (by simp only [hiOf]; omega), by simp [sliceL, loOf, hiOf], rfl⟩
  | some i => cases m with
    | none =>
      have k1 : 0 ≤ i := h _ (by simp [sliceL])
      have k2 : i ≤ (List.length l : Int) := h _ (by simp [sliceL])
      exact ⟨fun _ e => (by cases e; exact k1), fun _ e => (by cases e), (by simp only [loOf, hiOf]; omega), by simp [hiOf], by simp [sliceL, loOf, hiOf], rfl⟩
    | some j =>
      have k1 : 0 ≤ i := h _ (by simp [sliceL])
      have k2 : i ≤ j := h _ (by simp [sliceL])
      have k3 : j ≤ (List.length l : Int) := h _ (by simp [sliceL])
      exact ⟨fun _ e => (by cases e; exact k1), fun _ e => (by cases e; omega), (by simp only [loOf, hiOf]; omega), (by simp only [hiOf]; omega), rfl, rfl⟩

theorem OwnL.cap {t : Ty} {v : Value} {l : List (El t)} {bs : List Nat} (h : OwnL w t v l bs) {ad : Option Addr} {n cap : Nat} (hv : v = .slice ad n cap) : n = List.length l ∧ n ≤ cap := by
  obtain ⟨ad', cap', e, h1, _⟩ := h.slice
  rw [hv] at e
  injection e with _ e2 e3
  exact ⟨e2, by omega⟩

end Go.Proofs.Ytcbehcpmojnnfaa.Bv
