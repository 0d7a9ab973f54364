/- A function's contract from its body, by value. -/
import Derived.Test.YtcbehcpmojnnfaaWF3
namespace Go.Proofs.Ytcbehcpmojnnfaa.Bv
set_option linter.unusedVariables false
set_option linter.unusedSimpArgs false

variable {P : Program} {base : World} {M0 : Mem} {ios : Ios} {σ : Sg} {M : Mem} {w w' : World} {a : Act} {st : St} {tab : Tab} {Γ : Gam}

/-- What is looked at beforehand. -/
def conB (tab : Tab) (con : Con) (nt : Nat) : Bool :=
  elemB tab (con.ownA ++ con.backA) (flat con.A (dfl con.A)) && elemB tab con.ownI (flat con.I (dfl con.I)) && elemB tab con.fresh (flat con.R (dfl con.R)) && !con.newR && decide (size con.A ≤ 4096) &&
  decide (con.shA.length + (match con.io with | true => 1 | false => 0) ≤ nt)

theorem mkD_keys {key : Nat → Nat} (hinj : ∀ i j, key i = key j → i = j) {fr : List (Nat × TypeId)} {F : Nat → List Nat} : ∀ {vs : List Value} {cs : List CellV} (i : Nat), ((mkD key fr F i vs cs).map (·.key)).Nodup
  | [], _, i => List.nodup_nil
  | _ :: _, [], i => List.nodup_nil
  | u :: vs, c :: cs, i => by
    have ih := mkD_keys hinj (fr := fr) (F := F) (vs := vs) (cs := cs) (i + 1)
    cases c with
    | lst t l tag =>
      simp only [mkD]
      cases hl : look i fr with
      | none => exact ih
      | some e =>
        simp only [List.map_cons, List.nodup_cons]
        refine ⟨fun hm => ?_, ih⟩
        obtain ⟨x, hx, e1⟩ := List.mem_map.1 hm
        obtain ⟨j, _, _, _, _, h4, _⟩ := mkD_mem (i + 1) hx
        rw [h4] at e1
        have := hinj _ _ e1
        omega
    | _ => exact ih

theorem keyA_inj (i j : Nat) (h : keyA i = keyA j) : i = j := by unfold keyA at h; omega
theorem keyI_inj (i j : Nat) (h : keyI i = keyI j) : i = j := by unfold keyI at h; omega

/-- They may be read. -/
theorem ownIn_rd {M : Mem} {own : List (Nat × TypeId)} {vs : List Value} {cs : List CellV} {F : Nat → List Nat} (h : OwnIn w M own vs cs F) (hM : ∀ ad v, M ad = some v → w.cell? ad = some v) (hn : (blks own F).Nodup) : ∀ (j : Nat) (u : Value) (c : CellV), vs[j]? = some u → cs[j]? = some c → RdV (memAll w) u c := fun j u c hu hc => by
  cases hl : look j own with
  | none => exact (h.rd j u c hl hu hc).mono hM
  | some e =>
    obtain ⟨u', t, l, k1, k2, k3⟩ := h.own j e hl
    rw [hu] at k1; cases k1
    rw [hc] at k2; cases k2
    exact OwnL.rdTop k3 ((blks_spec hn).1 (j, e) (look_mem hl)) fun ad u _ _ hu => hu

theorem All2.of_get {α β : Type} {R : α → β → Prop} : ∀ {as : List α} {bs : List β}, as.length = bs.length → (∀ (j : Nat) a b, as[j]? = some a → bs[j]? = some b → R a b) → All2 R as bs
  | [], [], _, _ => .nil
  | [], _ :: _, h, _ => by simp at h
  | _ :: _, [], h, _ => by simp at h
  | a :: as, b :: bs, h, hr => .cons (hr 0 a b (by simp) (by simp)) (All2.of_get (by simpa using h) fun j x y hx hy => hr (j + 1) x y (by simpa using hx) (by simpa using hy))

theorem ownIn_wf {M : Mem} {own : List (Nat × TypeId)} {vs : List Value} {t : Ty} {x : El t} {F : Nat → List Nat} (h : OwnIn w M own vs (flat t x) F) (hM : ∀ ad v, M ad = some v → w.cell? ad = some v) (hn : (blks own F).Nodup) : Wf t x :=
  RdC.wf t vs x (flat_rd t vs x (All2.of_get h.len fun j u c hu hc => ownIn_rd h hM hn j u c hu hc))

def preOf : Option Nat → List Value
  | some g => [.pointer (some ⟨g, 0, none⟩)]
  | none => []
def bxOf (n : Nat) : Option Nat → List (Nat × List CellV)
  | some _ => [(0, undCs n)]
  | none => []
def d2Of (con : Con) (FI : Nat → List Nat) (ivs : List Value) (i : El con.I) : Option Nat → List NewR
  | some _ => mkD keyI con.ownI FI 0 ivs (flat con.I i)
  | none => []

theorem conOk_of_vc {con : Con} (L : (i : El con.I) → El con.A → Nat → Option LoopAnn) {n : FuncId} {fn : Func} {c : Code} (hm : P.follows .mixedOrders = true) (hT : TabOk P tab) (hΓ : GamOk P Γ) (hf : P.funcs[n]? = some fn) (hb : fn.body = some c) (tys : List TypeId)
    (hB : conB tab con fn.ntmps = true)
    (h : ∀ i x, con.pre i x → (con.io = true → Wf con.I i) → Wf con.A x → vc tab Γ (L i x) c 1 (initSt con fn.ntmps i x) (bodyK tab con fn.results.toList tys i x)) : ConOk P n con := by
  intro w M vs cs i x F FI b hM hargs hown hio hbx hnd hnone hpre
  unfold conB at hB
  simp only [Bool.and_eq_true, Bool.not_eq_true', decide_eq_true_eq] at hB
  obtain ⟨⟨⟨⟨⟨hA, hI⟩, hR⟩, hnew⟩, hsz⟩, hnt⟩ := hB
  have hlen := args_length hargs
  have hcl : cs.length = size con.A := by rw [hown.len, flat_length]
  -- blocks
  obtain ⟨nd1, nd2, nd3⟩ := List.nodup_append.1 hnd
  have ndI : ∀ g, b = some g → (blks con.ownI FI).Nodup ∧ g ∉ blks con.ownI FI := fun g hg => by
    rw [hg] at nd1
    have := List.nodup_cons.1 nd1
    exact ⟨this.2, this.1⟩
  have inA : ∀ g ∈ blks (con.ownA ++ con.backA) F, g ∈ handBlk con b F FI := fun g hg => List.mem_append.2 (.inr hg)
  have inI : ∀ g0, b = some g0 → ∀ g ∈ blks con.ownI FI, g ∈ handBlk con b F FI := fun g0 hg0 g hg => List.mem_append.2 (.inl (by rw [hg0]; exact List.mem_cons_of_mem _ hg))
  have inB : ∀ g, b = some g → g ∈ handBlk con b F FI := fun g hg => List.mem_append.2 (.inl (by rw [hg]; exact List.mem_cons_self))
  -- the variable
  obtain ⟨ivs, hiv⟩ : ∃ ivs : List Value, ∀ g, b = some g → ∃ arr E, w.heap[g]? = some (.cells arr E (0, 0)) ∧ arr.toList = ivs ∧ OwnIn w M con.ownI ivs (flat con.I i) FI := by
    cases b with
    | none => exact ⟨[], fun g hg => by cases hg⟩
    | some g =>
      obtain ⟨arr, E, h1, h2⟩ := hbx g rfl
      exact ⟨arr.toList, fun g' hg' => by cases hg'; exact ⟨arr, E, h1, rfl, h2⟩⟩
  let ios : Ios := { blk := handBlk con b F FI, box := b, rows := con.backA.map fun p => (keyA p.1, cs.getD p.1 undef), even := fun p hp => by obtain ⟨q, _, rfl⟩ := List.mem_map.1 hp; unfold keyA; omega }
  let pre : List Value := preOf b
  have hpl : pre.length = (match con.io with | true => 1 | false => 0) := by
    simp only [pre]; rw [hio]; cases b <;> rfl
  have hle : (pre ++ vs).length ≤ fn.ntmps := by rw [List.length_append, hpl, hlen]; omega
  show Calls P n (pre ++ vs).toArray w _
  refine calls_of_wp hf hb ?_
  let σ0 : Sg := ⟨fun _ => b.getD 0, fun _ => undef, fun _ => [], fun _ _ => none⟩
  -- without rows
  let st0 : St := { nt := fn.ntmps, slots := [], boxes := bxOf ivs.length b, rows := [] }
  have box0 : ∀ k, (st0.box k).isSome = true → k = 0 ∧ ∃ g, b = some g := fun k hk => by
    cases hb' : b with
    | none => simp only [St.box, st0, hb', bxOf, look] at hk; cases hk
    | some g =>
      simp only [St.box, st0, hb', bxOf, look] at hk
      split at hk
      · rename_i e; exact ⟨e.symm, g, rfl⟩
      · cases hk
  have hS0 : Sim P w M ios σ0 M w { tmps := (pre ++ vs).toArray ++ Array.replicate (fn.ntmps - (pre ++ vs).toArray.size) undef, defers := [] } st0 := {
    mem := hM
    nt := by simp at hle ⊢; simp only [st0]; omega
    slots := fun i => trivial
    boxes := fun k ds hk => by
      obtain ⟨e, g, hg⟩ := box0 k (by rw [hk]; rfl)
      subst e
      obtain ⟨arr, E, h1, h2, h3⟩ := hiv g hg
      have hd : ds = undCs ivs.length := by
        simp only [St.box, st0, hg, bxOf, look, if_true, Option.some.injEq] at hk; exact hk.symm
      subst hd
      refine ⟨arr, E, by show w.heap[b.getD 0]? = _; rw [hg]; exact h1, ?_⟩
      rw [h2]
      exact undCs_rep h3.one
    boxM := fun k hk ad had => by
      obtain ⟨e, g, hg⟩ := box0 k hk
      exact hnone g (inB g hg) ad (by rw [had]; show b.getD 0 = g; rw [hg]; rfl)
    boxInj := fun k k' h1 h2 _ => by rw [(box0 k h1).1, (box0 k' h2).1]
    boxBase := fun k hk => by
      obtain ⟨e, g, hg⟩ := box0 k hk
      exact .inr (by show b.getD 0 ∈ handBlk con b F FI; have := inB g hg; rw [hg] at this ⊢; exact this)
    rows := fun r e he => by cases he
    rowBox := fun r k hr => by cases hr
    rowInj := fun r r' hr => by cases hr
    hot := {
      ok := fun r e t l ver hole z hl => by cases hl
      base := fun r ⟨_, _, _, _, _, _, hl⟩ => by cases hl
      noM := fun r ⟨_, _, _, _, _, _, hl⟩ => by cases hl
      noBox := fun r ⟨_, _, _, _, _, _, hl⟩ => by cases hl
      noRow := fun r ⟨_, _, _, _, _, _, hl⟩ => by cases hl
      apart := fun r r' ⟨_, _, _, _, _, _, hl⟩ => by cases hl
      lt := fun r ⟨_, _, _, _, _, _, hl⟩ => by cases hl
      frz := fun r e t l ver z hl => by cases hl }
    fr := Fr.refl _ _
    defers := rfl
    old := fun ad _ _ h => h
    le := Mem.le_refl _
    pin := fun g hg => by show b.getD 0 = g; rw [show b = some g from hg]; rfl
    pins := fun p hp hs => by cases hs
    olds := fun j hj => by cases hj }
  have tag0 : ∀ r, noTag r st0 = true := fun r => by
    unfold noTag
    have hu : ∀ n, keysC (undCs n) = [] := fun n => by
      unfold undCs
      induction n with
      | zero => rfl
      | succ n ih => rw [List.replicate_succ]; exact ih
    have : noTagBoxes r st0.boxes = true := by
      cases hb' : b with
      | none => simp only [st0, hb', bxOf]; rfl
      | some g =>
        simp only [st0, hb', bxOf, noTagBoxes, noTagC, hu]
        rfl
    rw [this]; rfl
  -- the rows
  have hDA := fun y hy => mkD_ok (key := keyA) (x := y) hown (elemsOk_of hT hA x) nd2 hy
  let D2 : List NewR := d2Of con FI ivs i b
  have hDI : ∀ y ∈ D2, OwnL w y.t y.v y.l y.fo ∧ (∃ i, P.info? y.e = some i ∧ i.size = size y.t) ∧ 0 < size y.t ∧ y.fo.Nodup ∧ (∃ j, y.key = keyI j ∧ (look j con.ownI).isSome = true ∧ y.fo = FI j) ∧ ∃ g, b = some g := fun y hy => by
    cases hb' : b with
    | none => simp only [D2, hb', d2Of] at hy; cases hy
    | some g =>
      simp only [D2, hb', d2Of] at hy
      obtain ⟨arr, E, _, _, h3⟩ := hiv g hb'
      obtain ⟨k1, k2, k3, k4, k5⟩ := mkD_ok (key := keyI) h3 (elemsOk_of hT hI i) (ndI g hb').1 hy
      exact ⟨k1, k2, k3, k4, k5, g, rfl⟩
  have idx : ∀ y ∈ mkD keyA (con.ownA ++ con.backA) F 0 cs (flat con.A x), ∃ j, y.key = keyA j ∧ j < 4096 ∧ cs[j]? = some y.v := fun y hy => by
    obtain ⟨j, tag, h1, h2, h3, h4, h5⟩ := mkD_mem 0 hy
    rw [Nat.zero_add] at h4
    have := (List.getElem?_eq_some_iff.1 h1).1
    exact ⟨j, h4, by omega, h1⟩
  have free : ∀ g ∈ handBlk con b F FI, b ≠ some g → g < w.heap.size → Free w ios σ0 M w st0 g := fun g hg hne hlt => {
    base := .inr hg
    noM := hnone g hg
    noBox := fun k hk e => by
      obtain ⟨_, g', hg'⟩ := box0 k hk
      have : b.getD 0 = g := e
      rw [hg'] at this hne
      exact hne (by rw [← this]; rfl)
    noRow := fun r hr => by cases hr
    noHot := fun r ⟨_, _, _, _, _, _, hl⟩ => by cases hl
    lt := hlt }
  have notBox : ∀ g0, b = some g0 → g0 ∉ blks (con.ownA ++ con.backA) F := fun g0 hg0 hm => nd3 g0 (by rw [hg0]; exact List.mem_cons_self) g0 hm rfl
  obtain ⟨σ1, hS1, r1, r2, r3⟩ := Sim.addHotsP (mkD keyA (con.ownA ++ con.backA) F 0 cs (flat con.A x) ++ D2) hS0 (fun y hy => by
    have pinA : ∀ q ∈ ios.rows, q.1 = y.key → y.v = q.2 := fun q hq e => by
      obtain ⟨p, hp, rfl⟩ := List.mem_map.1 hq
      obtain ⟨j, e'⟩ := p
      -- where it stands
      have hp2 : ∃ u, cs[j]? = some u := by
        have : (look j (con.ownA ++ con.backA)).isSome = true := look_in.2 ⟨e', List.mem_append.2 (.inr hp)⟩
        obtain ⟨e2, he2⟩ := Option.isSome_iff_exists.1 this
        obtain ⟨u, _, _, hu, _⟩ := hown.own j e2 he2
        exact ⟨u, hu⟩
      obtain ⟨u, hu⟩ := hp2
      have hj : j < cs.length := (List.getElem?_eq_some_iff.1 hu).1
      rcases List.mem_append.1 hy with h1 | h1
      · obtain ⟨j', k1, k2, k3⟩ := idx y h1
        have e2 : keyA j = y.key := e
        rw [k1] at e2
        have := keyA_inj _ _ e2
        subst this
        show y.v = cs.getD j undef
        rw [getD_of k3]
      · obtain ⟨_, _, _, _, ⟨j', k1, _⟩, _⟩ := hDI y h1
        have e2 : keyA j = y.key := e
        rw [k1] at e2
        unfold keyA keyI at e2
        omega
    have more : OwnL w y.t y.v y.l y.fo ∧ (∃ i, P.info? y.e = some i ∧ i.size = size y.t) ∧ 0 < size y.t ∧ y.fo.Nodup ∧ ∀ g ∈ y.fo, g ∈ handBlk con b F FI ∧ b ≠ some g := by
      rcases List.mem_append.1 hy with h1 | h1
      · obtain ⟨k1, k2, k3, k4, j, _, k5, k6⟩ := hDA y h1
        refine ⟨k1, k2, k3, k4, fun g hg => ?_⟩
        have hg' := in_blks k5 (k6 ▸ hg)
        exact ⟨inA g hg', fun e => notBox g e hg'⟩
      · obtain ⟨k1, k2, k3, k4, ⟨j, _, k5, k6⟩, g0, hg0⟩ := hDI y h1
        refine ⟨k1, k2, k3, k4, fun g hg => ?_⟩
        have hg' := in_blks k5 (k6 ▸ hg)
        exact ⟨inI g0 hg0 g hg', fun e => (ndI g e).2 hg'⟩
    refine ⟨tag0 _, pinA, more.1, more.2.1, more.2.2.1, more.2.2.2.1, fun g hg => free g (more.2.2.2.2 g hg).1 (more.2.2.2.2 g hg).2 (OwnCs.lt more.1 g hg)⟩) (by
    rw [List.map_append]
    refine List.nodup_append.2 ⟨mkD_keys keyA_inj 0, ?_, fun k hk k' hk' e => ?_⟩
    · cases hb' : b with
      | none => simp only [D2, hb', d2Of]; exact List.nodup_nil
      | some g => simp only [D2, hb', d2Of]; exact mkD_keys keyI_inj 0
    · obtain ⟨y, hy, e1⟩ := List.mem_map.1 hk
      obtain ⟨y', hy', e2⟩ := List.mem_map.1 hk'
      obtain ⟨j, k1, k2, _⟩ := idx y hy
      obtain ⟨_, _, _, _, ⟨j', k1', _⟩, _⟩ := hDI y' hy'
      rw [← e1, ← e2, k1, k1'] at e
      unfold keyA keyI at e
      omega) (fun y hy z hz hne g hg hg' => by
    rcases List.mem_append.1 hy with h1 | h1 <;> rcases List.mem_append.1 hz with h2 | h2
    · obtain ⟨_, _, _, _, j, q1, q2, q3⟩ := hDA y h1
      obtain ⟨_, _, _, _, j', q1', q2', q3'⟩ := hDA z h2
      exact blks_apart nd2 q2 q2' (fun e1 => hne (by rw [q1, q1', e1])) g (q3 ▸ hg) (q3' ▸ hg')
    · obtain ⟨_, _, _, _, j, q1, q2, q3⟩ := hDA y h1
      obtain ⟨_, _, _, _, ⟨j', q1', q2', q3'⟩, g0, hg0⟩ := hDI z h2
      exact nd3 g (by rw [hg0]; exact List.mem_cons_of_mem _ (in_blks q2' (q3' ▸ hg'))) g (in_blks q2 (q3 ▸ hg)) rfl
    · obtain ⟨_, _, _, _, ⟨j, q1, q2, q3⟩, g0, hg0⟩ := hDI y h1
      obtain ⟨_, _, _, _, j', q1', q2', q3'⟩ := hDA z h2
      exact nd3 g (by rw [hg0]; exact List.mem_cons_of_mem _ (in_blks q2 (q3 ▸ hg))) g (in_blks q2' (q3' ▸ hg')) rfl
    · obtain ⟨_, _, _, _, ⟨j, q1, q2, q3⟩, g0, hg0⟩ := hDI y h1
      obtain ⟨_, _, _, _, ⟨j', q1', q2', q3'⟩, _⟩ := hDI z h2
      exact blks_apart (ndI g0 hg0).1 q2 q2' (fun e1 => hne (by rw [q1, q1', e1])) g (q3 ▸ hg) (q3' ▸ hg'))
  have hcsA : ∀ rows', All2 (RdT σ1 rows' M) cs (argCs con x) := fun rows' => retagOk hown (.inr rfl) fun z hz => (r1 z (List.mem_append.2 (.inl hz))).1
  have hrowsA : (mkD keyA (con.ownA ++ con.backA) F 0 cs (flat con.A x)).map NewR.row = argRows con x := mkD_rows 0 hown.len
  -- the frame
  have frameS : ∀ {boxes : List (Nat × List CellV)} {rows : List (Nat × RowV)} (j : Nat), RepSv σ1 rows boxes M (((pre ++ vs).toArray ++ Array.replicate (fn.ntmps - (pre ++ vs).toArray.size) undef).getD j undef) (match look j (argSlots pre.length con.shA (argCs con x)) with | some sv => sv | none => .und) := fun {boxes rows} j => by
    have := argSlots_at (boxes := boxes) hargs pre.length (hcsA rows) j
    split
    · rename_i sv hl
      rw [hl] at this
      obtain ⟨h1, h2, h3⟩ := this
      rw [frame_at _ _ _ (by simp; omega)]
      rw [List.getD_eq_getElem?_getD, List.getElem?_append_right h1, ← List.getD_eq_getElem?_getD]
      exact h3
    · trivial
  have olds : ∀ {slots : List (Nat × Sv)} {boxes : List (Nat × List CellV)} {rows : List (Nat × RowV)} {a : Act}, (∀ j, RepSv σ1 rows boxes M (a.tmps.getD j undef) (match look j slots with | some sv => sv | none => .und)) → ∀ j, j ∈ valOld slots → RepOld M (a.tmps.getD j undef) (match look j slots with | some sv => sv | none => .und) := fun {slots boxes rows a} hs j hj => by
    have hm := (List.mem_filter.1 hj).2
    have hsj := hs j
    split at hm
    · rename_i ag cs' hl
      rw [hl] at hsj ⊢
      exact hsj.1.imp fun _ _ h => h.1
    · cases hm
  have hS : Sim P w M ios σ1 M w { tmps := (pre ++ vs).toArray ++ Array.replicate (fn.ntmps - (pre ++ vs).toArray.size) undef, defers := [] } (initSt con fn.ntmps i x) := by
    cases hb' : b with
    | none =>
      have hio' : con.io = false := by rw [hio, hb']; rfl
      have hpre0 : pre.length = 0 := by rw [hpl, hio']
      have e : initSt con fn.ntmps i x = { nt := fn.ntmps, slots := argSlots 0 con.shA (argCs con x), boxes := [], rows := argRows con x, olds := valOld (argSlots 0 con.shA (argCs con x)) } := by unfold initSt; rw [hio']
      rw [e]
      have e2 : ({ st0 with rows := (mkD keyA (con.ownA ++ con.backA) F 0 cs (flat con.A x) ++ D2).map NewR.row ++ st0.rows } : St) = { nt := fn.ntmps, slots := [], boxes := [], rows := argRows con x } := by
        simp only [st0, D2, hb', bxOf, d2Of, List.append_nil, hrowsA]
      rw [e2] at hS1
      have hfs : ∀ j, RepSv σ1 (argRows con x) [] M (((pre ++ vs).toArray ++ Array.replicate (fn.ntmps - (pre ++ vs).toArray.size) undef).getD j undef) (match look j (argSlots 0 con.shA (argCs con x)) with | some sv => sv | none => .und) := fun j => by
        have := frameS (boxes := []) (rows := argRows con x) j
        rw [hpre0] at this; exact this
      exact { hS1 with
        slots := hfs
        hot := hS1.hot.still rfl fun _ h => h
        olds := olds (a := { tmps := (pre ++ vs).toArray ++ Array.replicate (fn.ntmps - (pre ++ vs).toArray.size) undef, defers := [] }) hfs }
    | some g =>
      have hio' : con.io = true := by rw [hio, hb']; rfl
      have hpre0 : pre.length = 1 := by rw [hpl, hio']
      obtain ⟨arr, E, q1, q2, q3⟩ := hiv g hb'
      have e : initSt con fn.ntmps i x = { nt := fn.ntmps, slots := (0, .box 0 0) :: argSlots 1 con.shA (argCs con x), boxes := [(0, retag keyI con.ownI 0 (flat con.I i))], rows := argRows con x ++ newRows keyI con.ownI 0 (flat con.I i), olds := valOld ((0, .box 0 0) :: argSlots 1 con.shA (argCs con x)) } := by unfold initSt; rw [hio']
      rw [e]
      have e2 : ({ st0 with rows := (mkD keyA (con.ownA ++ con.backA) F 0 cs (flat con.A x) ++ D2).map NewR.row ++ st0.rows } : St) = { nt := fn.ntmps, slots := [], boxes := [(0, undCs ivs.length)], rows := argRows con x ++ newRows keyI con.ownI 0 (flat con.I i) } := by
        simp only [st0, D2, hb', bxOf, d2Of, List.append_nil, List.map_append, hrowsA, mkD_rows 0 q3.len]
      rw [e2] at hS1
      have hsb : σ1.box 0 = g := by rw [r3]; show b.getD 0 = g; rw [hb']; rfl
      have hS2 := hS1.setBox (k := 0) (ds := retag keyI con.ownI 0 (flat con.I i)) (by simp [St.box, look]) (fun arr' E' ha => by
        rw [hsb, q1] at ha; cases ha
        rw [q2]
        exact retagOk q3 (.inr rfl) fun z hz => (r1 z (List.mem_append.2 (.inr (by simp only [D2, hb', d2Of]; exact hz)))).1)
      have hE : ∀ (ds : List CellV) (rows : List (Nat × RowV)), Ext { nt := fn.ntmps, slots := [], boxes := [(0, ds), (0, undCs ivs.length)], rows := rows } { nt := fn.ntmps, slots := [], boxes := [(0, ds)], rows := rows } := fun ds rows => ⟨rfl, fun _ => rfl, fun k => by simp only [St.box, look]; split <;> rfl, fun _ => rfl, fun _ => Iff.rfl⟩
      have hS3 : Sim P w M ios σ1 M w { tmps := (pre ++ vs).toArray ++ Array.replicate (fn.ntmps - (pre ++ vs).toArray.size) undef, defers := [] } { nt := fn.ntmps, slots := [], boxes := [(0, retag keyI con.ownI 0 (flat con.I i))], rows := argRows con x ++ newRows keyI con.ownI 0 (flat con.I i) } := Sim.ext (hE _ _) hS2
      have hfs : ∀ j, RepSv σ1 (argRows con x ++ newRows keyI con.ownI 0 (flat con.I i)) [(0, retag keyI con.ownI 0 (flat con.I i))] M (((pre ++ vs).toArray ++ Array.replicate (fn.ntmps - (pre ++ vs).toArray.size) undef).getD j undef) (match look j ((0, .box 0 0) :: argSlots 1 con.shA (argCs con x)) with | some sv => sv | none => .und) := fun j => by
        rw [look_cons]
        by_cases hj : 0 = j
        · subst hj
          simp only [if_true]
          have hp : pre = [.pointer (some ⟨g, 0, none⟩)] := by simp only [pre, hb', preOf]
          rw [hp, frame_at _ _ _ (by simp)]
          exact ⟨by rw [hsb]; rfl, rfl⟩
        · rw [if_neg hj]
          have := frameS (boxes := [(0, retag keyI con.ownI 0 (flat con.I i))]) (rows := argRows con x ++ newRows keyI con.ownI 0 (flat con.I i)) j
          rw [hpre0] at this; exact this
      exact { hS3 with
        slots := hfs
        hot := hS3.hot.still rfl fun _ h => h
        olds := olds (a := { tmps := (pre ++ vs).toArray ++ Array.replicate (fn.ntmps - (pre ++ vs).toArray.size) undef, defers := [] }) hfs }
  have hpins : ∀ j e, (j, e) ∈ con.backA → ∃ u, cs[j]? = some u ∧ (keyA j, u) ∈ ios.rows := fun j e hm => by
    have : (look j (con.ownA ++ con.backA)).isSome = true := look_in.2 ⟨e, List.mem_append.2 (.inr hm)⟩
    obtain ⟨e2, he2⟩ := Option.isSome_iff_exists.1 this
    obtain ⟨u, _, _, hu, _⟩ := hown.own j e2 he2
    exact ⟨u, hu, List.mem_map.2 ⟨(j, e), hm, by rw [getD_of hu]⟩⟩
  have fin : ∀ (σ' : Sg) (M' : Mem) (w' : World) (a' : Act) (st' : St), Sim P w M ios σ' M' w' a' st' → finK tab con fn.results.toList tys i x st' →
      a'.defers = [] ∧ ∃ v, (results fn a'.tmps).run P w' = .ok v w' ∧ Ret P con w M (handBlk con b F FI) b cs i x (.returned v) w' := fun σ' M' w' a' st' hS' hK => fin_ret (ios := ios) hT hpins hio hnew hR hI hS' hK
  refine vc_sound hm hT hΓ c _ _ _ _ σ1 M w _ hS ?_ (h i x hpre (fun hio' => ?_) (ownIn_wf hown hM nd2))
  · intro e σ' M' w' a' st' hS' hK
    cases e with
    | normal => exact fin _ _ _ _ _ hS' hK
    | ret => exact fin _ _ _ _ _ hS' hK
    | exit id => exact hK.elim
  · cases hb' : b with
    | none => rw [hio, hb'] at hio'; cases hio'
    | some g =>
      obtain ⟨arr, E, _, _, q3⟩ := hiv g hb'
      exact ownIn_wf q3 hM (ndI g hb').1

end Go.Proofs.Ytcbehcpmojnnfaa.Bv
