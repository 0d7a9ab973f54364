/- All operations together (1): parts; slices. -/
import Derived.Test.YtcbehcpmojnnfaaWC11
namespace Go.Proofs.Ytcbehcpmojnnfaa.Bv
set_option linter.unusedVariables false
set_option linter.unusedSimpArgs false

variable {P : Program} {base : World} {M0 : Mem} {ios : Ios} {σ : Sg} {M : Mem} {w : World} {a : Act} {st : St} {tab : Tab} {Γ : Gam} {o : Oper} {next : Act → World → Prop} {Q : Exit → Act → World → Prop}

theorem op_field (hT : TabOk P tab) (hS : Sim P base M0 ios σ M w a st) {t tf : TypeId} {ti tif : TI} {x : Operand} {f off : Nat} {cs : List CellV} (ho : o.op = .field t x f) (hd : ∀ d, o.dst = some d → d < st.nt)
    (h : look t tab = some ti) (hg : ti.agg = true) (hf : ti.fields[f]? = some (off, tf)) (htf : look tf tab = some tif)
    (hx : RepSv σ st.rows st.boxes M (a.eval x) (.val true cs)) (hl : off + size tif.ty ≤ cs.length) (hag : tif.agg = true ∨ size tif.ty = 1)
    (hn : Goes P base M0 ios a o st { sv := .val tif.agg ((cs.drop off).take (size tif.ty)) } next) : o.wp P a w next Q := by
  obtain ⟨vs, hv, hc⟩ := RepVal.agg hx
  obtain ⟨fs, hfs, hm, _⟩ := und_fields hT h hg
  rw [← hm, List.getElem?_map] at hf
  cases hxf : fs.toList[f]? with
  | none => rw [hxf] at hf; simp at hf
  | some fl =>
    rw [hxf] at hf
    simp only [Option.map_some, Option.some.injEq, Prod.mk.injEq] at hf
    obtain ⟨hof, hty⟩ := hf
    have hx' : fs[f]? = some fl := by simpa using hxf
    have hcl := (hc.drop off).take (size tif.ty)
    have hlen := hc.length
    have hsz : vs.toList.length = vs.size := Array.length_toList
    rw [hsz] at hlen
    cases hga : tif.agg with
    | true =>
      refine wp_val (v := .agg (vs.extract off (off + size tif.ty))) (w' := w) ?_ (hn _ σ M w (hS.putO hd ?_))
      · simp [execOp, ho, hv, Instr.field, run_underlying hfs, hx', asAgg, part, hty, hof, isAgg_run hT htf, hga, info_size hT htf]
      · rw [hga]
        refine ⟨?_, rfl⟩
        simp only [Value.cells, Array.toList_extract, List.extract_eq_take_drop, Nat.add_sub_cancel_left]
        exact hcl
    | false =>
      have hs1 : size tif.ty = 1 := by rw [hga] at hag; simpa using hag
      have hlt : off < vs.size := by omega
      refine wp_val (v := vs[off]) (w' := w) ?_ (hn _ σ M w (hS.putO hd ?_))
      · simp [execOp, ho, hv, Instr.field, run_underlying hfs, hx', asAgg, part, hty, hof, isAgg_run hT htf, hga, Array.getElem?_eq_getElem hlt]
      · rw [hga]
        rw [hs1] at hcl ⊢
        have e1 : (vs.toList.drop off).take 1 = [vs[off]] := by
          rw [List.drop_eq_getElem_cons (by simpa using hlt)]; simp
        rw [e1] at hcl
        cases hd' : (cs.drop off).take 1 with
        | nil => rw [hd'] at hcl; cases hcl
        | cons c r =>
          rw [hd'] at hcl
          cases hcl with
          | cons hx1 hr1 => cases hr1; exact RepVal.mk1 hx1 (by have := hx1.1.oneCell; cases h : vs[off] <;> rw [h] at this <;> simp [isAgg', Value.oneCell'] at this ⊢)

theorem op_extract (hS : Sim P base M0 ios σ M w a st) {x : Operand} {i : Nat} {l : List (Bool × List CellV)} {p : Bool × List CellV} (ho : o.op = .extract x i) (hd : ∀ d, o.dst = some d → d < st.nt)
    (hx : RepSv σ st.rows st.boxes M (a.eval x) (.tup l)) (hl : l[i]? = some p) (hn : Goes P base M0 ios a o st { sv := .val p.1 p.2 } next) : o.wp P a w next Q := by
  obtain ⟨vs, hv, h⟩ := hx
  obtain ⟨v, hvi, hr⟩ := h.get hl
  refine wp_val (v := v) (w' := w) ?_ (hn _ σ M w (hS.putO hd hr))
  have : vs[i]? = some v := by simpa using hvi
  simp [execOp, ho, hv, Instr.extract, this]

theorem bsize (s : List UInt8) : (⟨s.toArray⟩ : ByteArray).size = s.length := by simp [ByteArray.size]

theorem op_len_str (hT : TabOk P tab) (hS : Sim P base M0 ios σ M w a st) {t e : TypeId} {fs : List (Nat × TypeId)} {b : Nat} {x : Operand} {s : List UInt8}
    (ho : o.op = .call { callee := .builtin .len, args := #[x], argTypes := #[t] }) (hd : ∀ d, o.dst = some d → d < st.nt) (h : look t tab = some ⟨.str, false, fs, e, b⟩)
    (hx : RepSv σ st.rows st.boxes M (a.eval x) (.val false [.str s])) (hn : Goes P base M0 ios a o st { sv := .val false [.int .i64 s.length] } next) : o.wp P a w next Q := by
  have hv := (RepVal.one hx).str
  refine wp_val (v := .int .i64 s.length) (w' := w) ?_ (hn _ σ M w (hS.putO hd (rep_int _ _)))
  have hu := und_str hT h
  simp [execOp, ho, resolve, invoke, builtin, Builtin.len_, hv, run_underlying hu, goInt, bsize]

theorem op_convert_int (hT : TabOk P tab) (hS : Sim P base M0 ios σ M w a st) {s t e : TypeId} {k k' : IntKind} {fs : List (Nat × TypeId)} {b : Nat} {x : Operand} {n : Int} {ts : TI}
    (ho : o.op = .convert s t x) (hd : ∀ d, o.dst = some d → d < st.nt) (h : look t tab = some ⟨.int k, false, fs, e, b⟩) (hs : look s tab = some ts)
    (hx : RepSv σ st.rows st.boxes M (a.eval x) (.val false [.int k' n])) (hn : Goes P base M0 ios a o st { sv := .val false [.int k (k.wrap n)] } next) : o.wp P a w next Q := by
  have hv := (RepVal.one hx).int
  refine wp_val (v := .int k (k.wrap n)) (w' := w) ?_ (hn _ σ M w (hS.putO hd (rep_int _ _)))
  obtain ⟨d1, hd1⟩ := und_some hT hs
  simp [execOp, ho, hv, convert, run_underlying hd1, run_underlying (und_int hT h), Conv.intToInt]

theorem cellsOfSv_rep {rows : List (Nat × RowV)} {boxes : List (Nat × List CellV)} {v : Value} {sv : Sv} {t : TypeId} {cs : List CellV} (h : RepSv σ rows boxes M v sv) (hc : cellsOfSv tab t sv = some cs) : All2 (RdT σ rows M) v.cells.toList cs := by
  have ht := typed_rep (tab := tab) t h
  unfold cellsOfSv at hc
  split at hc
  · rename_i ag cs' he
    cases hc
    rw [he] at ht
    exact ht.1
  · cases hc

theorem zip_mapM {parts : List (Nat × Operand)} (hS : Sim P base M0 ios σ M w a st) {f : Nat → Option TypeId} : ∀ {ps : List (Nat × List CellV)},
    (((parts.map (·.1)).zip ((parts.map (·.2)).map (inOf st))).mapM fun p => (f p.1).bind fun t => (cellsOfSv tab t p.2.sv).bind fun cs => some (p.1, cs)) = some ps →
    All2 (fun (p : Nat × Value) (q : Nat × List CellV) => p.1 = q.1 ∧ All2 (RdT σ st.rows M) p.2.cells.toList q.2) (parts.map fun p => (p.1, a.eval p.2)) ps := by
  induction parts with
  | nil => intro ps h; simp at h; subst h; exact .nil
  | cons p parts ih =>
    intro ps h
    simp only [List.map_cons, List.zip_cons_cons, List.mapM_cons, Option.bind_eq_bind, Option.pure_def, Option.bind_eq_some_iff] at h
    obtain ⟨q, ⟨t, ht, cs, hc, e⟩, qs, hq, e2⟩ := h
    cases e; cases e2
    exact .cons ⟨rfl, cellsOfSv_rep (inOf_rep hS p.2).rep hc⟩ (ih hq)

theorem operands_parts (parts : Array (Nat × Operand)) : (parts.toList.map (·.2)).toArray.toList = parts.toList.map (·.2) := by simp

theorem intOf_rep (hS : Sim P base M0 ios σ M w a st) {y : Operand} {n : Int} (h : intOf? (inOf st y) = some n) : ∃ k, a.eval y = .int k n := by
  have hr := (inOf_rep hS y).rep
  unfold intOf? at h
  split at h
  · rename_i k m hsv
    rw [hsv] at hr
    cases h
    exact ⟨k, (RepVal.one hr).int⟩
  · cases h

/-! ### Pieces of rows that may be written -/

theorem op_slice_own (hT : TabOk P tab) (hS : Sim P base M0 ios σ M w a st) {t e0 : TypeId} {ti te : TI} {τ0 τ : Ty} {x : Operand} {lo hi : Option Operand} {l : List (El τ)} {r ver : Nat} {z : Bool} {n m : Option Int} {kl kh : IntKind}
    (ho : o.op = .slice t x lo hi none) (hd : ∀ d, o.dst = some d → d < st.nt) (h : look t tab = some ti) (hty : ti.ty = .list τ0) (hg : ti.agg = false) (he : look ti.elem tab = some te) (hs : size te.ty = size τ)
    (hr : look r st.rows = some (.hot e0 τ l ver none z)) (hx : a.eval x = σ.row r) (hlo : lo.map a.eval = n.map (Value.int kl)) (hhi : hi.map a.eval = m.map (Value.int kh)) (hps : ∀ p ∈ (sliceL τ l n m).1, p)
    (hn : Goes P base M0 ios a o st { sv := .val false [.sub τ r (sliceL τ l n m).2.2.1 (sliceL τ l n m).2.2.2] } next) : o.wp P a w next Q := by
  obtain ⟨k1, k2, k3, k4, _, k6⟩ := sliceL_spec hps
  have hok := hS.hotAt hr
  obtain ⟨ad, cap, hv, hc, hm⟩ := OwnL.slice (show OwnL w τ (σ.row r) l (σ.foot r) from hok.own)
  refine wp_val (run_slice_any (τ := τ) hT ho h hty hg he hs (by rw [hx]; exact hv) hlo hhi k1 k2 k3 k4 hc) (hn _ σ M w (hS.putO hd (RepVal.mk1 ⟨rfl, fun _ => ?_⟩ rfl)))
  rw [k6]
  exact ⟨ad, _, cap, _, hv, k3, k4, rfl, fun hlt => by rw [if_neg (by omega)]⟩

theorem op_slice_take (hT : TabOk P tab) (hS : Sim P base M0 ios σ M w a st) {t e0 : TypeId} {ti te : TI} {τ0 τ : Ty} {x : Operand} {lo hi : Option Operand} {l : List (El τ)} {d r ver : Nat} {z : Bool} {n m : Option Int} {kl kh : IntKind}
    (ho : o.op = .slice t x lo hi none) (hd : o.dst = some d) (hdn : d < st.nt) (h : look t tab = some ti) (hty : ti.ty = .list τ0) (hg : ti.agg = false) (he : look ti.elem tab = some te) (hs : size te.ty = size τ)
    (hr : look r st.rows = some (.hot e0 τ l ver none z)) (hx : a.eval x = σ.row r) (hlo : lo.map a.eval = n.map (Value.int kl)) (hhi : hi.map a.eval = m.map (Value.int kh)) (hps : ∀ p ∈ (sliceL τ l n m).1, p) (hfr : noTag (keyRow d 0) st = true)
    (hn : Goes P base M0 ios a o st { sv := .val false [.own τ (keyRow d 0)], nrow := [(keyRow d 0, .hot e0 τ (sliceL τ l n m).2.1 0 none false)], krow := [r] } next) : o.wp P a w next Q := by
  obtain ⟨k1, k2, k3, k4, k5, k6⟩ := sliceL_spec hps
  have hok := hS.hotAt hr
  have hown : OwnL w τ (σ.row r) l (σ.foot r) := hok.own
  obtain ⟨ad, cap, hv, hc, hm⟩ := OwnL.slice hown
  obtain ⟨bs', p1, p2, p3⟩ := OwnL.piece hown hok.nodup hv k3 k4
  refine wp_val (run_slice_any (τ := τ) hT ho h hty hg he hs (by rw [hx]; exact hv) hlo hhi k1 k2 k3 k4 hc) ?_
  refine goes_hot (S := []) (fo := bs') (e := e0) (t := τ) (z := false) (ks := [r]) hS hd hdn (Nat.le_refl _) rfl rfl rfl (fun _ _ _ => rfl) (fun g hg => by cases hg) (fun g hg => ⟨OwnCs.lt p1 g hg, .inr ⟨r, by simp, ⟨_, _, _, _, _, _, hr⟩, p3 g hg⟩⟩) hok.info hok.pos (by rw [k5]; exact p1) p2 (fun h => by cases h) hfr hn

theorem op_slice_sub (hT : TabOk P tab) (hS : Sim P base M0 ios σ M w a st) {t e0 : TypeId} {ti te : TI} {τ0 τ : Ty} {x : Operand} {lo hi : Option Operand} {l : List (El τ)} {r ver lo0 hi0 : Nat} {z : Bool} {n m : Option Int} {kl kh : IntKind}
    (ho : o.op = .slice t x lo hi none) (hd : ∀ d, o.dst = some d → d < st.nt) (h : look t tab = some ti) (hty : ti.ty = .list τ0) (hg : ti.agg = false) (he : look ti.elem tab = some te) (hs : size te.ty = size τ)
    (hr : look r st.rows = some (.hot e0 τ l ver none z)) (hx : subOf τ (σ.row r) lo0 hi0 (a.eval x)) (hlo : lo.map a.eval = n.map (Value.int kl)) (hhi : hi.map a.eval = m.map (Value.int kh)) (hps : ∀ p ∈ (sliceL τ ((l.take hi0).drop lo0) n m).1, p)
    (hn : Goes P base M0 ios a o st { sv := .val false [.sub τ r (lo0 + (sliceL τ ((l.take hi0).drop lo0) n m).2.2.1) (lo0 + (sliceL τ ((l.take hi0).drop lo0) n m).2.2.2)] } next) : o.wp P a w next Q := by
  obtain ⟨k1, k2, k3, k4, _, k6⟩ := sliceL_spec hps
  have hok := hS.hotAt hr
  obtain ⟨ad, nn, cap, ad', hv, q1, q2, q3, q4⟩ := hx
  obtain ⟨hnn, hc⟩ := OwnL.cap (show OwnL w τ (σ.row r) l (σ.foot r) from hok.own) hv
  have hlen : List.length ((l.take hi0).drop lo0) = hi0 - lo0 := by rw [List.length_drop, List.length_take]; omega
  rw [hlen] at k3 k4
  refine wp_val (run_slice_any (τ := τ) hT ho h hty hg he hs q3 hlo hhi k1 k2 k3 k4 (by omega)) (hn _ σ M w (hS.putO hd (RepVal.mk1 ⟨rfl, fun _ => ?_⟩ rfl)))
  rw [k6, hlen]
  refine ⟨ad, nn, cap, (if cap - lo0 = loOf n then ad' else ad'.map (·.add (loOf n * size τ))), hv, by simp only; omega, by simp only; omega, ?_, fun hlt => ?_⟩
  · simp only
    congr 1
    · omega
    · omega
  · simp only at hlt ⊢
    rw [if_neg (by omega), q4 (by omega)]
    cases ad with
    | none => rfl
    | some ad => simp [Addr.add_add, Nat.add_mul]

theorem op_slice_bor (hT : TabOk P tab) (hS : Sim P base M0 ios σ M w a st) {t : TypeId} {ti te : TI} {τ0 τ : Ty} {x : Operand} {lo hi : Option Operand} {l : List (El τ)} {r ver : Nat} {p : Option (Nat × Nat)} {n m : Option Int} {kl kh : IntKind} {rv : RowV}
    (ho : o.op = .slice t x lo hi none) (hd : ∀ d, o.dst = some d → d < st.nt) (h : look t tab = some ti) (hty : ti.ty = .list τ0) (hg : ti.agg = false) (he : look ti.elem tab = some te) (hs : size te.ty = size τ)
    (hr : look r st.rows = some rv) (hver : rv.ver? = some ver) (hx : RdT σ st.rows M (a.eval x) (.bor τ l r ver p)) (hlo : lo.map a.eval = n.map (Value.int kl)) (hhi : hi.map a.eval = m.map (Value.int kh)) (hps : ∀ p ∈ (sliceL τ l n m).1, p)
    (hn : Goes P base M0 ios a o st { sv := .val false [.bor τ (sliceL τ l n m).2.1 r ver none] } next) : o.wp P a w next Q := by
  obtain ⟨k1, k2, k3, k4, k5, k6⟩ := sliceL_spec hps
  obtain ⟨hrd, _⟩ := hx.2 rv hr hver
  have hrd' := hrd
  obtain ⟨ad, cap, hv, hc, hm, _⟩ := hrd'
  have hv' : a.eval x = .slice ad (List.length l) cap := List.head_eq_of_cons_eq hv
  refine wp_val (run_slice_any (τ := τ) hT ho h hty hg he hs hv' hlo hhi k1 k2 k3 k4 hc) (hn _ σ M w (hS.putO hd (RepVal.mk1 ⟨rfl, fun rv' hr' hver' => ⟨?_, fun i off e => by cases e⟩⟩ rfl)))
  rw [hv'] at hrd
  rw [k5]
  exact RdC.slice hrd k3 k4

end Go.Proofs.Ytcbehcpmojnnfaa.Bv
