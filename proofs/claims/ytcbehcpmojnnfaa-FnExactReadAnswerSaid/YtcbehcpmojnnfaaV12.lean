/- A call by its contract. -/
import Derived.Test.YtcbehcpmojnnfaaV11
namespace Go.Proofs.Ytcbehcpmojnnfaa.Bv
set_option linter.unusedVariables false
set_option linter.unusedSimpArgs false

variable {P : Program} {base : World} {M0 : Mem} {ios : List Nat} {σ : Sg} {M : Mem} {w : World} {a : Act} {st : St} {tab : Tab} {o : Oper} {next : Act → World → Prop} {Q : Exit → Act → World → Prop}

/-- A function that has a body, and is none of the runtime's own. -/
def FnOk (P : Program) (n : FuncId) : Prop := ∃ fn, P.funcs[n]? = some fn ∧ (fn.name == "runtime.NumGoroutine") = false ∧ fn.body.isNone = false

theorem exec_call {n : FuncId} (hf : FnOk P n) {f : Operand} {xs : Array Operand} {ts : Array TypeId} (ho : o.op = .call { callee := .value f, args := xs, argTypes := ts }) (hv : a.eval f = .func (.func n) #[] #[]) :
    (execOp a.eval o).run P w = .ok (.enter n (xs.map a.eval)) w := by
  obtain ⟨fn, h1, h2, h3⟩ := hf
  have h2' : fn.name ≠ "runtime.NumGoroutine" := by simpa using h2
  have h3' : fn.body ≠ none := by intro e; rw [e] at h3; simp at h3
  simp [execOp, ho, resolve, hv, Deferred.ofValue, invoke, callFunc, h1, h2', h3', program, Sem.run]

theorem noTag_boxes {r : Nat} {boxes' : List (Nat × List CellV)} (h : noTag r st = true) (hb : noTagBoxes r boxes' = true) : noTag r { st with boxes := boxes' } = true := by
  unfold noTag at h ⊢
  rw [Bool.and_eq_true, Bool.and_eq_true] at h ⊢
  exact ⟨⟨h.1.1, hb⟩, h.2⟩

theorem noTagC_of {r : Nat} {cs : List CellV} (h : ∀ c ∈ cs, ∀ t l tag, c = .lst t l tag → tag = none) : noTagC r cs = true := by
  induction cs with
  | nil => rfl
  | cons c cs ih =>
    have ih' := ih fun c' hc' => h c' (List.mem_cons_of_mem _ hc')
    cases c with
    | lst t l tag =>
      have := h _ (by simp) t l tag rfl
      subst this
      exact ih'
    | _ => exact ih'

theorem flat_noTagC (r : Nat) (t : Ty) (x : El t) : noTagC r (flat t x) = true := noTagC_of (flat_none t x)

theorem ResRep.length {shs : List (Bool × Nat)} {rs cs : List Value} (h : ResRep shs rs cs) : True := trivial

/-- What stands behind a call, whatever it was handed. -/
theorem call_post {con : Con} {d : Nat} {w' : World} {M' : Mem} {rs cs : List Value} {r : El con.R} {st' : St} (hd : o.dst = some d) (hdn : d < st'.nt)
    (hS : Sim P base M0 ios σ M' w' a st') (hws : base.heap.size ≤ w.heap.size)
    (hres : ResRep con.shR rs cs) (hr : RdC M' con.R cs r) (hfr : FreshRows P w w' M' con.fresh cs) (hn : ∀ p ∈ con.fresh, noTag (keyRow d p.1) st' = true)
    (hold : ∀ k, (st'.box k).isSome = true → σ.box k < w.heap.size) (holdr : ∀ r, (st'.row r).isSome = true → ∀ g, (σ.row r).ownBlock = some g → g < w.heap.size) :
    ∃ σ', Sim P base M0 ios σ' M' w' (a.put o.dst (retVal rs)) (({ st' with rows := (con.fresh.map fun p => (keyRow d p.1, p.2)) ++ st'.rows } : St).put d (resSv (splitR con.shR (retag d con.fresh 0 (flat con.R r))))) := by
  obtain ⟨σ', hS', h1, h2, h3⟩ := Sim.addRows (d := d) (cs := cs) hws con.fresh hS hn hfr.row hfr.keys hfr.apart (fun p hp u hu => by
    obtain ⟨u', hu', hrow⟩ := hfr.row p hp
    rw [hu] at hu'; cases hu'
    obtain ⟨n, xs, i, _, ho, _⟩ := hrow.own
    refine ⟨fun k hk e => ?_, fun r' hr' => ?_⟩
    · have := ho.lt _ e; have := hold k hk; omega
    · cases hb : (σ.row r').ownBlock with
      | none => exact .inl rfl
      | some g => right; intro e; have := ho.lt g e.symm; have := holdr r' hr' g hb; omega)
  refine ⟨σ', ?_⟩
  rw [hd]
  refine hS'.put (d := d) hdn ?_
  refine resSv_rep (splitR_rep hres ?_)
  refine retag_rep (rd_flat _ _ _ hr) (flat_none con.R r) 0 ?_
  intro j u hu hl
  rw [Nat.zero_add] at hl ⊢
  obtain ⟨e, he⟩ := Option.isSome_iff_exists.1 hl
  exact h1 (j, e) (look_mem he) u hu

theorem argsRep_map {ρ : Operand → Value} {xs : Array Operand} : (xs.map ρ) = (xs.toList.map ρ).toArray := by apply Array.ext'; simp

/-- A call without a variable that it writes. -/
theorem op_call (hS : Sim P base M0 ios σ M w a st) {f : Operand} {xs : Array Operand} {ts : Array TypeId} {n d : Nat} {con : Con} {cvs : List CellV} {x : El con.A} {ic : El con.I}
    (ho : o.op = .call { callee := .value f, args := xs, argTypes := ts }) (hv : a.eval f = .func (.func n) #[] #[]) (hfn : FnOk P n) (hcon : ConOk P n con) (hio : con.io = false) (hd : o.dst = some d) (hdn : d < st.nt)
    (hc : argCells tab con.shA ts.toList (xs.toList.map (inOf st)) = some cvs) (hx : unflat con.A cvs = some (x, [])) (hpre : con.pre ic x)
    (hn : ∀ p ∈ con.fresh, noTag (keyRow d p.1) st = true)
    (hgo : Goes P base M0 ios a o st { sv := resSv (splitR con.shR (retag d con.fresh 0 (flat con.R (con.f ic x).1))), nrow := con.fresh.map fun p => (keyRow d p.1, p.2) } next) : o.wp P a w next Q := by
  have hins : All2 (fun x i => RepIn σ st M (a.eval x) i) xs.toList (xs.toList.map (inOf st)) := by
    generalize xs.toList = l
    induction l with
    | nil => exact .nil
    | cons y l ih => exact .cons (inOf_rep hS y) ih
  obtain ⟨cs, h1, h2⟩ := argCells_rep hins hc
  obtain ⟨c1, c2, e, h3, h4⟩ := rd_unflat con.A cs cvs x [] (h2.imp fun _ _ h => h.1) hx
  cases h4
  simp only [List.append_nil] at e; subst e
  have hcall := hcon w M _ _ ic x hS.mem h1 h3 hpre
  rw [hio] at hcall
  simp only [Bool.false_eq_true, if_false] at hcall
  unfold Oper.wp
  rw [exec_call hfn ho hv, Oper.upon_enter, argsRep_map]
  refine hcall.mono ?_
  intro e w' ⟨rs, cs', M', he, hle, hm, hf, hold, hres, hr, hfr, _⟩
  subst he
  simp only
  have hS1 := hS.called (boxes' := st.boxes) hle hm hf hold (fun j hj => by cases hj) (fun k => rfl) (fun k cs hk => by
    obtain ⟨arr, E, h5, h6⟩ := hS.boxes k cs hk
    refine ⟨arr, E, ?_, carryC (ok := fun _ => True) ⟨hle, fun r _ hr => ⟨hr, rfl⟩⟩ h6 (fun _ _ _ _ => trivial)⟩
    rw [hf.block _ (hS.box_lt (by show (look k st.boxes).isSome = true; rw [hk]; rfl)) (by simp)]; exact h5)
  obtain ⟨σ', hS2⟩ := call_post (con := con) (d := d) hd hdn hS1 hS.fr.size hres hr hfr hn (fun k hk => hS.box_lt hk) (fun r hr g hg => (hS.row_lt hr hg).2)
  unfold Goes at hgo
  rw [hd] at hgo hS2 ⊢
  exact hgo _ σ' M' w' hS2

/-- A call that writes a variable that it is handed. -/
theorem op_call_io (hS : Sim P base M0 ios σ M w a st) {f x0 : Operand} {xs : List Operand} {ts : List TypeId} {t0 : TypeId} {n d k : Nat} {con : Con} {cvs bc : List CellV} {x : El con.A} {ic : El con.I}
    (ho : o.op = .call { callee := .value f, args := (x0 :: xs).toArray, argTypes := (t0 :: ts).toArray }) (hv : a.eval f = .func (.func n) #[] #[]) (hfn : FnOk P n) (hcon : ConOk P n con) (hio : con.io = true) (hd : o.dst = some d) (hdn : d < st.nt)
    (hx0 : a.eval x0 = .pointer (some ⟨σ.box k, 0, none⟩)) (hk : st.box k = some bc) (hic : unflat con.I bc = some (ic, []))
    (hc : argCells tab con.shA ts (xs.map (inOf st)) = some cvs) (hx : unflat con.A cvs = some (x, [])) (hpre : con.pre ic x)
    (hn : ∀ p ∈ con.fresh, noTag (keyRow d p.1) st = true)
    (hgo : Goes P base M0 ios a o st { sv := resSv (splitR con.shR (retag d con.fresh 0 (flat con.R (con.f ic x).1))), nrow := con.fresh.map fun p => (keyRow d p.1, p.2), sbox := some (k, flat con.I (con.f ic x).2) } next) : o.wp P a w next Q := by
  have hins : All2 (fun x i => RepIn σ st M (a.eval x) i) xs (xs.map (inOf st)) := by
    generalize xs = l
    induction l with
    | nil => exact .nil
    | cons y l ih => exact .cons (inOf_rep hS y) ih
  obtain ⟨cs, h1, h2⟩ := argCells_rep hins hc
  obtain ⟨c1, c2, e, h3, h4⟩ := rd_unflat con.A cs cvs x [] (h2.imp fun _ _ h => h.1) hx
  cases h4
  simp only [List.append_nil] at e; subst e
  obtain ⟨arr, E, hb1, hb2⟩ := hS.boxes k bc hk
  obtain ⟨d1, d2, e, h5, h6⟩ := rd_unflat con.I arr.toList bc ic [] (hb2.imp fun _ _ h => h.1) hic
  cases h6
  simp only [List.append_nil] at e
  have hcall := hcon w M _ _ ic x hS.mem h1 h3 hpre
  rw [hio] at hcall
  simp only [if_true] at hcall
  have hcall := hcall (σ.box k) ⟨arr, E, hb1, hS.boxM k (by rw [hk]; rfl), by rw [e]; exact h5⟩
  unfold Oper.wp
  rw [exec_call hfn ho hv, Oper.upon_enter]
  have hargs : ((x0 :: xs).toArray.map a.eval) = ((.pointer (some ⟨σ.box k, 0, none⟩)) :: xs.map a.eval).toArray := by simp [hx0]
  rw [hargs]
  refine hcall.mono ?_
  intro e w' ⟨rs, cs', M', he, hle, hm, hf, hold, hres, hr, hfr, arr', E', hb3, hb4, hb5⟩
  subst he
  simp only
  have hS1 := hS.called (boxes' := (k, flat con.I (con.f ic x).2) :: st.boxes) hle hm hf hold (fun j hj => ⟨k, by rw [hk]; rfl, by simpa using hj⟩) (fun k' => by
      rw [look_cons]; split
      · rename_i h; subst h; rw [hk]; rfl
      · rfl) (fun k' cs hk' => by
    rw [look_cons] at hk'
    split at hk'
    · rename_i h; subst h; cases hk'
      exact ⟨arr', E', hb3, rd_flatT (σ := σ) (st := st) hb5⟩
    · rename_i hne
      obtain ⟨arr2, E2, h7, h8⟩ := hS.boxes k' cs hk'
      refine ⟨arr2, E2, ?_, carryC (ok := fun _ => True) ⟨hle, fun r _ hr => ⟨hr, rfl⟩⟩ h8 (fun _ _ _ _ => trivial)⟩
      rw [hf.block _ (hS.box_lt (by show (look k' st.boxes).isSome = true; rw [hk']; rfl)) (by
        simp only [List.mem_singleton]
        intro e
        exact hne (hS.boxInj k k' (by rw [hk]; rfl) (by show (look k' st.boxes).isSome = true; rw [hk']; rfl) e.symm))]
      exact h7)
  have hbx : ∀ k', (look k' ((k, flat con.I (con.f ic x).2) :: st.boxes)).isSome = true → (st.box k').isSome = true := fun k' h => by
    rw [look_cons] at h; split at h
    · rename_i e; subst e; rw [hk]; rfl
    · exact h
  obtain ⟨σ', hS2⟩ := call_post (st' := { st with boxes := (k, flat con.I (con.f ic x).2) :: st.boxes }) (con := con) (d := d) hd hdn hS1 hS.fr.size hres hr hfr (fun p hp => noTag_boxes (hn p hp) (by
      simp only [noTagBoxes, Bool.and_eq_true]
      refine ⟨flat_noTagC _ _ _, ?_⟩
      have h0 := hn p hp
      unfold noTag at h0
      rw [Bool.and_eq_true, Bool.and_eq_true] at h0
      exact h0.1.2)) (fun k' hk' => hS.box_lt (hbx k' hk')) (fun r hr g hg => (hS.row_lt hr hg).2)
  unfold Goes at hgo
  rw [hd] at hgo hS2 ⊢
  exact hgo _ σ' M' w' hS2

/-! ### What is left -/

theorem op_field (hT : TabOk P tab) (hS : Sim P base M0 ios σ M w a st) {t tf : TypeId} {ti tif : TI} {x : Operand} {f off : Nat} {cs : List CellV} (ho : o.op = .field t x f) (hd : ∀ d, o.dst = some d → d < st.nt)
    (h : look t tab = some ti) (hg : ti.agg = true) (hf : ti.fields[f]? = some (off, tf)) (htf : look tf tab = some tif)
    (hx : RepSv σ st.rows st.boxes M (a.eval x) (.val true cs)) (hl : off + size tif.ty ≤ cs.length) (hag : tif.agg = true ∨ size tif.ty = 1)
    (hn : Goes P base M0 ios a o st { sv := .val tif.agg ((cs.drop off).take (size tif.ty)) } next) : o.wp P a w next Q := by
  obtain ⟨vs, hv, hc⟩ := RepVal.agg hx
  obtain ⟨fs, hfs, hm, _⟩ := und_fields hT h hg
  rw [← hm, List.getElem?_map] at hf
  cases hxf : fs.toList[f]? with
  | none => rw [hxf] at hf; simp at hf
  | some fl =>
    rw [hxf] at hf
    simp only [Option.map_some, Option.some.injEq, Prod.mk.injEq] at hf
    obtain ⟨hof, hty⟩ := hf
    have hx' : fs[f]? = some fl := by simpa using hxf
    have hcl := (hc.drop off).take (size tif.ty)
    have hlen := hc.length
    rw [Array.length_toList] at hlen
    cases hga : tif.agg with
    | true =>
      refine wp_val (v := .agg (vs.extract off (off + size tif.ty))) (w' := w) ?_ (hn _ σ M w (hS.putO hd ?_))
      · simp [execOp, ho, hv, Instr.field, run_underlying hfs, hx', asAgg, part, hty, hof, isAgg_run hT htf, hga, info_size hT htf]
      · rw [hga]
        refine ⟨?_, rfl⟩
        simp only [Value.cells, Array.toList_extract, List.extract_eq_take_drop, Nat.add_sub_cancel_left]
        exact hcl
    | false =>
      have hs1 : size tif.ty = 1 := by rw [hga] at hag; simpa using hag
      have hlt : off < vs.size := by omega
      refine wp_val (v := vs[off]) (w' := w) ?_ (hn _ σ M w (hS.putO hd ?_))
      · simp [execOp, ho, hv, Instr.field, run_underlying hfs, hx', asAgg, part, hty, hof, isAgg_run hT htf, hga, Array.getElem?_eq_getElem hlt]
      · rw [hga]
        rw [hs1] at hcl ⊢
        have e1 : (vs.toList.drop off).take 1 = [vs[off]] := by
          rw [List.drop_eq_getElem_cons (by simpa using hlt)]; simp
        rw [e1] at hcl
        cases hd' : (cs.drop off).take 1 with
        | nil => rw [hd'] at hcl; cases hcl
        | cons c r =>
          rw [hd'] at hcl
          cases hcl with
          | cons hx1 hr1 => cases hr1; exact RepVal.mk1 hx1 (by have := hx1.1.oneCell; cases h : vs[off] <;> rw [h] at this <;> simp [isAgg', Value.oneCell'] at this ⊢)

theorem op_extract (hS : Sim P base M0 ios σ M w a st) {x : Operand} {i : Nat} {l : List (Bool × List CellV)} {p : Bool × List CellV} (ho : o.op = .extract x i) (hd : ∀ d, o.dst = some d → d < st.nt)
    (hx : RepSv σ st.rows st.boxes M (a.eval x) (.tup l)) (hl : l[i]? = some p) (hn : Goes P base M0 ios a o st { sv := .val p.1 p.2 } next) : o.wp P a w next Q := by
  obtain ⟨vs, hv, h⟩ := hx
  obtain ⟨v, hvi, hr⟩ := h.get hl
  refine wp_val (v := v) (w' := w) ?_ (hn _ σ M w (hS.putO hd hr))
  have : vs[i]? = some v := by simpa using hvi
  simp [execOp, ho, hv, Instr.extract, this]

theorem op_len_list (hT : TabOk P tab) (hS : Sim P base M0 ios σ M w a st) {t e : TypeId} {τ0 τ : Ty} {fs : List (Nat × TypeId)} {b : Nat} {x : Operand} {l : List (El τ)} {tag : Option Nat}
    (ho : o.op = .call { callee := .builtin .len, args := #[x], argTypes := #[t] }) (hd : ∀ d, o.dst = some d → d < st.nt) (h : look t tab = some ⟨.list τ0, false, fs, e, b⟩)
    (hx : RepSv σ st.rows st.boxes M (a.eval x) (.val false [.lst τ l tag])) (hn : Goes P base M0 ios a o st { sv := .val false [.int .i64 l.length] } next) : o.wp P a w next Q := by
  have hx' := (RepVal.one hx).1
  obtain ⟨ad, cap, e1, _, _, _⟩ := hx'
  have hv : a.eval x = .slice ad l.length cap := List.head_eq_of_cons_eq e1
  refine wp_val (v := .int .i64 l.length) (w' := w) ?_ (hn _ σ M w (hS.putO hd (rep_int _ _)))
  have hu := und_list hT h
  simp [execOp, ho, resolve, invoke, builtin, Builtin.len_, hv, run_underlying hu, goInt]

theorem bsize (s : List UInt8) : (⟨s.toArray⟩ : ByteArray).size = s.length := by simp [ByteArray.size]

theorem op_len_str (hT : TabOk P tab) (hS : Sim P base M0 ios σ M w a st) {t e : TypeId} {fs : List (Nat × TypeId)} {b : Nat} {x : Operand} {s : List UInt8}
    (ho : o.op = .call { callee := .builtin .len, args := #[x], argTypes := #[t] }) (hd : ∀ d, o.dst = some d → d < st.nt) (h : look t tab = some ⟨.str, false, fs, e, b⟩)
    (hx : RepSv σ st.rows st.boxes M (a.eval x) (.val false [.str s])) (hn : Goes P base M0 ios a o st { sv := .val false [.int .i64 s.length] } next) : o.wp P a w next Q := by
  have hv := (RepVal.one hx).str
  refine wp_val (v := .int .i64 s.length) (w' := w) ?_ (hn _ σ M w (hS.putO hd (rep_int _ _)))
  have hu := und_str hT h
  simp [execOp, ho, resolve, invoke, builtin, Builtin.len_, hv, run_underlying hu, goInt, bsize]

theorem op_convert_int (hT : TabOk P tab) (hS : Sim P base M0 ios σ M w a st) {s t e : TypeId} {k k' : IntKind} {fs : List (Nat × TypeId)} {b : Nat} {x : Operand} {n : Int} {ts : TI}
    (ho : o.op = .convert s t x) (hd : ∀ d, o.dst = some d → d < st.nt) (h : look t tab = some ⟨.int k, false, fs, e, b⟩) (hs : look s tab = some ts)
    (hx : RepSv σ st.rows st.boxes M (a.eval x) (.val false [.int k' n])) (hn : Goes P base M0 ios a o st { sv := .val false [.int k (k.wrap n)] } next) : o.wp P a w next Q := by
  have hv := (RepVal.one hx).int
  refine wp_val (v := .int k (k.wrap n)) (w' := w) ?_ (hn _ σ M w (hS.putO hd (rep_int _ _)))
  obtain ⟨d1, hd1⟩ := und_some hT hs
  simp [execOp, ho, hv, convert, run_underlying hd1, run_underlying (und_int hT h), Conv.intToInt]

theorem foldl_push (ns : List Int) : ∀ (acc : ByteArray), ns.foldl (fun r n => r.push (UInt8.ofNat n.toNat)) acc = acc ++ ⟨(ns.map fun n => UInt8.ofNat n.toNat).toArray⟩ := by
  induction ns with
  | nil => intro acc; apply ByteArray.ext; simp [ByteArray.data_append]
  | cons n ns ih =>
    intro acc
    rw [List.foldl_cons, ih]
    apply ByteArray.ext
    simp [ByteArray.data_append, ByteArray.data_push]

theorem bytes_flat {css : List (List Value)} {l : List Int} (h : All2 (RdC M (.int .u8)) css l) : css.flatten = l.map (Value.int .u8) := by
  induction h with
  | nil => rfl
  | @cons c n cs ns hx hr ih =>
    have : c = [.int .u8 n] := hx
    rw [this, List.flatten_cons, ih]; rfl

theorem op_convert_bytes (hT : TabOk P tab) (hS : Sim P base M0 ios σ M w a st) {s t e e' eb : TypeId} {fs fs' : List (Nat × TypeId)} {b b' : Nat} {te : TI} {x : Operand} {l : List Int} {tag : Option Nat}
    (ho : o.op = .convert s t x) (hd : ∀ d, o.dst = some d → d < st.nt) (h : look t tab = some ⟨.str, false, fs, e, b⟩) (hs : look s tab = some ⟨.list (.int .u8), false, fs', e', b'⟩) (he : look e' tab = some te) (hte : te.ty = .int .u8) (hta : te.agg = false)
    (hx : RepSv σ st.rows st.boxes M (a.eval x) (.val false [.lst (.int .u8) l tag])) (hn : Goes P base M0 ios a o st { sv := .val false [.str (l.map fun n => UInt8.ofNat n.toNat)] } next) : o.wp P a w next Q := by
  have hx' := (RepVal.one hx).1
  obtain ⟨ad, cap, css, ev, hl, hm, hc, had⟩ := RdC.cells (M := M) (τ := .int .u8) hx'
  have hcs : css.flatten = l.map (Value.int .u8) := bytes_flat hc
  have hue : P.underlying e' = some (.int .u8) := by have := (hT e' te he).und; rw [hta, hte] at this; simpa using this
  have hconv := run_convert_bytes_string (P := P) w s t e' ad l.length cap (und_list hT hs) hue (und_str hT h)
  refine wp_val (v := .string ⟨(l.map fun n => UInt8.ofNat n.toNat).toArray⟩) (w' := w) ?_ (hn _ σ M w (hS.putO hd (rep_str _)))
  simp only [execOp, ho, ev]
  rw [Sem.run_bind, hconv]
  rcases had with h0 | ⟨a0, e0, h2⟩
  · subst h0
    cases ad with
    | none => simp [Conv.bytesToString]; rfl
    | some a1 =>
      have := run_bytesToString (P := P) w a1 0 cap [] (by simp [loadCells, loadCellsFrom])
      simp only [List.length_nil]
      rw [this]; rfl
  · subst e0
    have hload : (loadCells a0 l.length).run P w = .ok (l.map (Value.int .u8)).toArray w := by
      have := run_loadCells_list (P := P) w a0 (l.map (Value.int .u8)) (fun j u hu => hS.mem _ _ (h2 j u (by rw [hcs]; exact hu)))
      simpa using this
    rw [run_bytesToString w a0 l.length cap l hload, foldl_push]
    simp only [Result.andThen_ok, Sem.run_pure]
    congr 3

end Go.Proofs.Ytcbehcpmojnnfaa.Bv
