/- The operations one by one (2): addresses, slices, strings, what is built. -/
import Derived.Test.YtcbehcpmojnnfaaW7
namespace Go.Proofs.Ytcbehcpmojnnfaa.Bv
set_option linter.unusedVariables false
set_option linter.unusedSimpArgs false

variable {P : Program} {base : World} {M0 : Mem} {ios : Ios} {σ : Sg} {M : Mem} {w : World} {a : Act} {st : St} {tab : Tab} {o : Oper} {next : Act → World → Prop} {Q : Exit → Act → World → Prop}

theorem und_list (hT : TabOk P tab) {t e : TypeId} {τ : Ty} {fs : List (Nat × TypeId)} {b : Nat} (h : look t tab = some ⟨.list τ, false, fs, e, b⟩) : P.underlying t = some (.slice e) := by
  have := (hT t _ h).und; simpa using this
theorem und_str (hT : TabOk P tab) {t e : TypeId} {fs : List (Nat × TypeId)} {b : Nat} (h : look t tab = some ⟨.str, false, fs, e, b⟩) : P.underlying t = some .string := by
  have := (hT t _ h).und; simpa using this
theorem und_int (hT : TabOk P tab) {t e : TypeId} {k : IntKind} {fs : List (Nat × TypeId)} {b : Nat} (h : look t tab = some ⟨.int k, false, fs, e, b⟩) : P.underlying t = some (.int k) := by
  have := (hT t _ h).und; simpa using this
theorem und_bool (hT : TabOk P tab) {t e : TypeId} {fs : List (Nat × TypeId)} {b : Nat} (h : look t tab = some ⟨.bool, false, fs, e, b⟩) : P.underlying t = some .bool := by
  have := (hT t _ h).und; simpa using this
theorem und_some (hT : TabOk P tab) {t : TypeId} {ti : TI} (h : look t tab = some ti) : ∃ d, P.underlying t = some d := by
  have hu := (hT t ti h).und
  cases hg : ti.agg with
  | true => rw [hg] at hu; simp only [if_true] at hu; obtain ⟨fs, hfs, _⟩ := hu; exact ⟨_, hfs⟩
  | false =>
    rw [hg] at hu; simp only [Bool.false_eq_true, if_false] at hu
    cases hty : ti.ty <;> rw [hty] at hu <;> simp only at hu <;> first | exact hu.elim | exact ⟨_, hu⟩
theorem und_fields (hT : TabOk P tab) {t : TypeId} {ti : TI} (h : look t tab = some ti) (hg : ti.agg = true) :
    ∃ fs, P.underlying t = some (.struct fs) ∧ fs.toList.map (fun f => (f.offset, f.type)) = ti.fields ∧ ∀ p ∈ ti.fields, (look p.2 tab).isSome = true := by
  have hu := (hT t ti h).und
  rw [hg] at hu; simpa using hu

/-! ### Addresses -/

theorem run_fieldAt (hT : TabOk P tab) {t tf : TypeId} {ti tif : TI} (h : look t tab = some ti) (hg : ti.agg = true) {f off : Nat} (hf : ti.fields[f]? = some (off, tf)) (htf : look tf tab = some tif) (hs : 0 < size tif.ty) (ad : Addr) (w : World) :
    (Instr.fieldAt t (.pointer (some ad)) f).run P w = .ok (.pointer (some (ad.add off))) w := by
  obtain ⟨fs, hfs, hm, _⟩ := und_fields hT h hg
  rw [← hm, List.getElem?_map] at hf
  cases hx : fs.toList[f]? with
  | none => rw [hx] at hf; simp at hf
  | some fl =>
    rw [hx] at hf
    simp only [Option.map_some, Option.some.injEq, Prod.mk.injEq] at hf
    obtain ⟨ho, hty⟩ := hf
    have hx' : fs[f]? = some fl := by simpa using hx
    have hsz : (sizeOf fl.type).run P w = .ok (size tif.ty) w := by rw [hty]; exact info_size hT htf w
    simp [Instr.fieldAt, run_underlying hfs, hx', Instr.sureAddr, fieldPlace, hsz, show size tif.ty ≠ 0 by omega, ho]

theorem op_fieldAddr_box (hT : TabOk P tab) (hS : Sim P base M0 ios σ M w a st) {t tf : TypeId} {ti tif : TI} {x : Operand} {f k oo off : Nat} (ho : o.op = .fieldAddr t x f) (hd : ∀ d, o.dst = some d → d < st.nt)
    (h : look t tab = some ti) (hg : ti.agg = true) (hf : ti.fields[f]? = some (off, tf)) (htf : look tf tab = some tif) (hs : 0 < size tif.ty)
    (hx : RepSv σ st.rows st.boxes M (a.eval x) (.box k oo)) (hn : Goes P base M0 ios a o st { sv := .box k (oo + off) } next) : o.wp P a w next Q := by
  obtain ⟨hx, hb⟩ := hx
  refine wp_val (v := .pointer (some ((⟨σ.box k, 0, none⟩ : Addr).add (oo + off)))) (w' := w) ?_ (hn _ σ M w (hS.putO hd ⟨rfl, hb⟩))
  have := run_fieldAt hT h hg hf htf hs ((⟨σ.box k, 0, none⟩ : Addr).add oo) w
  simp [execOp, ho, hx, this, Addr.add_add]

theorem op_fieldAddr_ptr (hT : TabOk P tab) (hS : Sim P base M0 ios σ M w a st) {t tf : TypeId} {ti tif : TI} {x : Operand} {f off : Nat} {cs : List CellV} (ho : o.op = .fieldAddr t x f) (hd : ∀ d, o.dst = some d → d < st.nt)
    (h : look t tab = some ti) (hg : ti.agg = true) (hf : ti.fields[f]? = some (off, tf)) (htf : look tf tab = some tif) (hs : 0 < size tif.ty)
    (hx : RepSv σ st.rows st.boxes M (a.eval x) (.ptr cs)) (hn : Goes P base M0 ios a o st { sv := .ptr (cs.drop off) } next) : o.wp P a w next Q := by
  obtain ⟨ad, hx, hc⟩ := hx
  refine wp_val (v := .pointer (some (ad.add off))) (w' := w) ?_ (hn _ σ M w (hS.putO hd ⟨ad.add off, rfl, ?_⟩))
  · have := run_fieldAt hT h hg hf htf hs ad w
    simp [execOp, ho, hx, this]
  · intro i c hi
    rw [List.getElem?_drop] at hi
    rw [Addr.add_add]
    exact hc _ c hi

theorem RdC.at {τ : Ty} {l : List (El τ)} {v : Value} (h : RdC M (.list τ) [v] l) {i : Nat} (hi : i < l.length) :
    ∃ ad cap, v = .slice (some ad) l.length cap ∧ ∃ vs, vs.length = size τ ∧ (∀ j u, vs[j]? = some u → M ((ad.add (i * size τ)).add j) = some u) ∧ RdC M τ vs (l.getD i (dflt τ)) := by
  obtain ⟨ado, cap, e, _, _, hc⟩ := h
  cases e
  obtain ⟨ad, vs, rfl, h1, h2, h3⟩ := hc i hi
  refine ⟨ad, cap, rfl, vs, h1, fun j u hu => by rw [Addr.add_add]; exact h2 j u hu, ?_⟩
  rw [List.getD_eq_getElem?_getD, List.getElem?_eq_getElem hi]
  exact h3

theorem flat_noTag : ∀ (t : Ty) (x : El t) (c : CellV), c ∈ flat t x → ∀ v, tagOk σ st.rows v c
  | .int _, _, c, h, v => by simp [flat] at h; subst h; trivial
  | .bool, _, c, h, v => by simp [flat] at h; subst h; trivial
  | .str, _, c, h, v => by simp [flat] at h; subst h; trivial
  | .list t, l, c, h, v => by simp [flat] at h; subst h; trivial
  | .unit, _, c, h, v => by simp [flat] at h
  | .pair a b, x, c, h, v => by
    simp only [flat, List.mem_append] at h
    rcases h with h | h
    · exact flat_noTag a x.1 c h v
    · exact flat_noTag b x.2 c h v

theorem rd_flatT {t : Ty} {cs : List Value} {x : El t} (h : RdC M t cs x) : All2 (RdT σ st.rows M) cs (flat t x) :=
  (rd_flat t cs x h).imp_mem fun v c hc hv => ⟨hv, flat_noTag t x c hc v⟩

theorem op_indexAddr (hT : TabOk P tab) (hS : Sim P base M0 ios σ M w a st) {t e : TypeId} {te : TI} {τ0 τ : Ty} {fs : List (Nat × TypeId)} {b : Nat} {x y : Operand} {k : IntKind} {i : Int} {l : List (El τ)} {tag : Option Nat}
    (ho : o.op = .indexAddr t x y) (hd : ∀ d, o.dst = some d → d < st.nt)
    (h : look t tab = some ⟨.list τ0, false, fs, e, b⟩) (he : look e tab = some te) (hs : size te.ty = size τ)
    (hx : RepSv σ st.rows st.boxes M (a.eval x) (.val false [.lst τ l tag])) (hy : RepSv σ st.rows st.boxes M (a.eval y) (.val false [.int k i]))
    (h0 : 0 ≤ i) (h1 : i < l.length) (hn : Goes P base M0 ios a o st { sv := .ptr (flat τ (l.getD i.toNat (dflt τ))) } next) : o.wp P a w next Q := by
  have hx' := (RepVal.one hx).1
  have hy' := (RepVal.one hy).int
  obtain ⟨ad, cap, hv, vs, h2, h3, h4⟩ := RdC.at hx' (i := i.toNat) (by omega)
  refine wp_val (v := .pointer (some (ad.add (i.toNat * size τ)))) (w' := w) ?_ (hn _ σ M w (hS.putO hd ⟨_, rfl, ?_⟩))
  · have hu := und_list hT h
    have hsz := info_size hT he w
    rw [hs] at hsz
    simp [execOp, ho, hv, hy', Instr.indexAt, asIntOf, run_underlying hu, h0, h1, hsz]
  · intro j c hj
    obtain ⟨u, hu, hr⟩ := (rd_flatT (σ := σ) (st := st) h4).get hj
    exact ⟨u, h3 j u hu, hr⟩

theorem op_index_str (hT : TabOk P tab) (hS : Sim P base M0 ios σ M w a st) {t e : TypeId} {fs : List (Nat × TypeId)} {b : Nat} {x y : Operand} {k : IntKind} {i : Int} {s : List UInt8}
    (ho : o.op = .index t x y) (hd : ∀ d, o.dst = some d → d < st.nt)
    (h : look t tab = some ⟨.str, false, fs, e, b⟩)
    (hx : RepSv σ st.rows st.boxes M (a.eval x) (.val false [.str s])) (hy : RepSv σ st.rows st.boxes M (a.eval y) (.val false [.int k i]))
    (h0 : 0 ≤ i) (h1 : i < s.length) (hn : Goes P base M0 ios a o st { sv := .val false [.int .u8 (s.getD i.toNat 0).toNat] } next) : o.wp P a w next Q := by
  have hx' := (RepVal.one hx).str
  have hy' := (RepVal.one hy).int
  refine wp_val (v := .int .u8 (s.getD i.toNat 0).toNat) (w' := w) ?_ (hn _ σ M w (hS.putO hd (rep_int _ _)))
  have hlt : i.toNat < s.length := by omega
  have := run_index_string (P := P) w t ⟨s.toArray⟩ k i (und_str hT h)
  rw [dif_pos ⟨h0, by simpa [ByteArray.size] using h1⟩] at this
  simp [execOp, ho, hx', hy', this, List.getD_eq_getElem?_getD, List.getElem?_eq_getElem hlt]
  rfl

/-! ### Slices -/

/-- The bounds of a slice, told by their values. -/
def loOf (x : Option Int) : Nat := match x with | some n => n.toNat | none => 0
def hiOf (len : Nat) (x : Option Int) : Nat := match x with | some n => n.toNat | none => len

theorem run_bounds {isS : Bool} {len cap : Nat} (lo hi : Option Int) (kl kh : IntKind) (h0 : ∀ n, lo = some n → 0 ≤ n) (h1 : ∀ n, hi = some n → 0 ≤ n) (h2 : loOf lo ≤ hiOf len hi) (h3 : hiOf len hi ≤ cap) (w : World) :
    (Instr.sliceBounds isS len cap (lo.map (Value.int kl)) (hi.map (Value.int kh)) none).run P w = .ok (loOf lo, hiOf len hi, cap) w := by
  cases lo with
  | none => cases hi with
    | none => simp [Instr.sliceBounds, loOf, hiOf]
    | some m =>
      have := h1 m rfl
      simp only [hiOf] at h3
      simp [Instr.sliceBounds, loOf, hiOf, Instr.sliceBound, asIntOf, this, show m ≤ (cap : Int) by omega]
  | some n => cases hi with
    | none =>
      have := h0 n rfl
      simp only [loOf, hiOf] at h2
      simp [Instr.sliceBounds, loOf, hiOf, Instr.sliceBound, asIntOf, this, show n ≤ (len : Int) by omega]
    | some m =>
      have hn := h0 n rfl
      have hm := h1 m rfl
      simp only [loOf, hiOf] at h2 h3
      simp [Instr.sliceBounds, loOf, hiOf, Instr.sliceBound, asIntOf, hn, hm, show m ≤ (cap : Int) by omega, show n ≤ m by omega]
      omega

theorem op_slice_list (hT : TabOk P tab) (hS : Sim P base M0 ios σ M w a st) {t : TypeId} {ti te : TI} {τ0 τ : Ty} {x : Operand} {lo hi : Option Operand} {l : List (El τ)} {tag : Option Nat} {n m : Option Int} {kl kh : IntKind}
    (ho : o.op = .slice t x lo hi none) (hd : ∀ d, o.dst = some d → d < st.nt)
    (h : look t tab = some ti) (hty : ti.ty = .list τ0) (hg : ti.agg = false) (he : look ti.elem tab = some te) (hs : size te.ty = size τ)
    (hx : RepSv σ st.rows st.boxes M (a.eval x) (.val false [.lst τ l tag]))
    (hlo : lo.map a.eval = n.map (Value.int kl)) (hhi : hi.map a.eval = m.map (Value.int kh))
    (h0 : ∀ j, n = some j → 0 ≤ j) (h1 : ∀ j, m = some j → 0 ≤ j) (h2 : loOf n ≤ hiOf l.length m) (h3 : hiOf l.length m ≤ l.length)
    (hn : Goes P base M0 ios a o st { sv := .val false [.lst τ ((l.take (hiOf l.length m)).drop (loOf n)) none] } next) : o.wp P a w next Q := by
  have hx' := (RepVal.one hx).1
  have hr := hx'
  obtain ⟨ad, cap, e, hl, hm, hc⟩ := hr
  have hv : a.eval x = .slice ad l.length cap := List.head_eq_of_cons_eq e
  rw [hv] at hx'
  have hsl := RdC.slice (M := M) (τ := τ) hx' h2 h3
  refine wp_val (v := .slice (if cap = loOf n then ad else ad.map (·.add (loOf n * size τ))) (hiOf l.length m - loOf n) (cap - loOf n)) (w' := w) ?_
    (hn _ σ M w (hS.putO hd (RepVal.mk1 ⟨hsl, trivial⟩ rfl)))
  have hu : P.underlying t = some (.slice ti.elem) := by have := (hT t ti h).und; rw [hg, hty] at this; simpa using this
  have hb := run_bounds (P := P) (isS := true) (len := l.length) (cap := cap) n m kl kh h0 h1 h2 (by omega) w
  have hsz := info_size hT he w
  rw [hs] at hsz
  rw [← hlo, ← hhi] at hb
  simp [execOp, ho, hv, Instr.sliceAt, run_underlying hu, Instr.slice, hb, hsz]

theorem op_slice_str (hT : TabOk P tab) (hS : Sim P base M0 ios σ M w a st) {t : TypeId} {ti : TI} {x : Operand} {lo hi : Option Operand} {s : List UInt8} {n m : Option Int} {kl kh : IntKind}
    (ho : o.op = .slice t x lo hi none) (hd : ∀ d, o.dst = some d → d < st.nt)
    (h : look t tab = some ti) (hty : ti.ty = .str) (hg : ti.agg = false)
    (hx : RepSv σ st.rows st.boxes M (a.eval x) (.val false [.str s]))
    (hlo : lo.map a.eval = n.map (Value.int kl)) (hhi : hi.map a.eval = m.map (Value.int kh))
    (h0 : ∀ j, n = some j → 0 ≤ j) (h1 : ∀ j, m = some j → 0 ≤ j) (h2 : loOf n ≤ hiOf s.length m) (h3 : hiOf s.length m ≤ s.length)
    (hn : Goes P base M0 ios a o st { sv := .val false [.str ((s.take (hiOf s.length m)).drop (loOf n))] } next) : o.wp P a w next Q := by
  have hv := (RepVal.one hx).str
  refine wp_val (v := .string ⟨((s.take (hiOf s.length m)).drop (loOf n)).toArray⟩) (w' := w) ?_ (hn _ σ M w (hS.putO hd (rep_str _)))
  have hu : P.underlying t = some .string := by have := (hT t ti h).und; rw [hg, hty] at this; simpa using this
  have hb := run_bounds (P := P) (isS := false) (len := s.length) (cap := s.length) n m kl kh h0 h1 h2 h3 w
  rw [← hlo, ← hhi] at hb
  have hbs : (⟨s.toArray⟩ : ByteArray).size = s.length := by simp [ByteArray.size]
  have hex : ((⟨s.toArray⟩ : ByteArray).extract (loOf n) (hiOf s.length m)) = ⟨((s.take (hiOf s.length m)).drop (loOf n)).toArray⟩ := by
    apply ByteArray.ext
    rw [ByteArray.data_extract]
    apply Array.ext'
    simp [List.extract_eq_take_drop, List.drop_take]
  simp [execOp, ho, hv, Instr.sliceAt, run_underlying hu, Instr.slice, hbs, hb, hex]

end Go.Proofs.Ytcbehcpmojnnfaa.Bv
