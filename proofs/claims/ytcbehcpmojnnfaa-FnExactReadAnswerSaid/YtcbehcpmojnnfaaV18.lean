/- A function's contract from its body, by value. -/
import Derived.Test.YtcbehcpmojnnfaaV17
namespace Go.Proofs.Ytcbehcpmojnnfaa.Bv
set_option linter.unusedVariables false
set_option linter.unusedSimpArgs false

/-- The frame's slots at the start. -/
def argSlots : Nat → List Sh → List CellV → List (Nat × Sv)
  | _, [], _ => []
  | i, .one :: shs, cs => (i, .val false (cs.take 1)) :: argSlots (i + 1) shs (cs.drop 1)
  | i, .agg n :: shs, cs => (i, .val true (cs.take n)) :: argSlots (i + 1) shs (cs.drop n)
  | i, .ptr n :: shs, cs => (i, .ptr (cs.take n)) :: argSlots (i + 1) shs (cs.drop n)

def initSt (con : Con) (nt : Nat) (i : El con.I) (x : El con.A) : St :=
  if con.io then { nt, slots := (0, .box 0 0) :: argSlots 1 con.shA (flat con.A x), boxes := [(0, flat con.I i)], rows := [] }
  else { nt, slots := argSlots 0 con.shA (flat con.A x), boxes := [], rows := [] }

def sizeOf (tab : Tab) (t : TypeId) : Option (Bool × Nat) := match look t tab with
  | some ti => some (ti.agg, size ti.ty)
  | none => none

/-- What is returned. -/
def resCells (tab : Tab) (st : St) : List ResultVar → List TypeId → Option (List (Bool × List CellV))
  | [], [] => some []
  | .tmp t :: rs, ty :: tys => match typed tab ty (st.get t) with
    | .val ag cs => (resCells tab st rs tys).bind fun l => some ((ag, cs) :: l)
    | _ => none
  | .cell ad ty :: rs, _ :: tys => match st.get ad, look ty tab with
    | .box k off, some ti => match st.box k with
      | some cs => if off + size ti.ty ≤ cs.length ∧ (ti.agg = true ∨ size ti.ty = 1) then (resCells tab st rs tys).bind fun l => some ((ti.agg, (cs.drop off).take (size ti.ty)) :: l) else none
      | none => none
    | _, _ => none
  | _, _ => none

def shapeOk : List (Bool × Nat) → List (Bool × List CellV) → Bool
  | [], [] => true
  | (ag, n) :: s, (ag', cs) :: l => (ag == ag') && (cs.length == n) && shapeOk s l
  | _, _ => false

def cellsOf : List (Bool × List CellV) → List CellV
  | [] => []
  | p :: l => p.2 ++ cellsOf l

def tagOf (cs : List CellV) (i : Nat) : Option Nat := match cs[i]? with
  | some (.lst _ _ tag) => tag
  | _ => none

def goodTag (tab : Tab) (st : St) (cs : List CellV) (p : Nat × TypeId) : Bool := (look p.2 tab).isSome && match tagOf cs p.1 with
  | some r => r == 0 || (match st.row r with | some e => e == p.2 | none => false)
  | none => false

def apartTag (cs : List CellV) (p q : Nat × TypeId) : Bool := p.1 == q.1 || tagOf cs p.1 == some 0 || !(tagOf cs p.1 == tagOf cs q.1)

def freshOk (tab : Tab) (st : St) (cs : List CellV) (fr : List (Nat × TypeId)) : Bool :=
  fr.all (goodTag tab st cs) && fr.all (fun p => fr.all (apartTag cs p)) && nodupB (fr.map (·.1))

def finK (tab : Tab) (con : Con) (rs : List ResultVar) (tys : List TypeId) (i : El con.I) (x : El con.A) (st : St) : Prop :=
  match resCells tab st rs tys with
  | none => False
  | some l => match shapeOk con.shR l && freshOk tab st (cellsOf l) con.fresh, unflat con.R (cellsOf l) with
    | true, some (r, []) => r = (con.f i x).1 ∧ (match con.io with
      | false => True
      | true => match st.box 0 with
        | some cs => match unflat con.I cs with
          | some (i', []) => i' = (con.f i x).2
          | _ => False
        | none => False)
    | _, _ => False

def bodyK (tab : Tab) (con : Con) (rs : List ResultVar) (tys : List TypeId) (i : El con.I) (x : El con.A) : Ex → St → Prop
  | .normal, st => finK tab con rs tys i x st
  | .ret, st => finK tab con rs tys i x st
  | .exit _, _ => False

variable {P : Program} {base : World} {M0 : Mem} {ios : List Nat} {σ : Sg} {M : Mem} {w : World} {a : Act} {st : St} {tab : Tab} {Γ : Nat → Option Con}

theorem rdT_of {σ : Sg} {rows : List (Nat × TypeId)} {vs : List Value} {cs : List CellV} (h : All2 (RdV M) vs cs) (hn : ∀ c ∈ cs, ∀ t l tag, c = .lst t l tag → tag = none) : All2 (RdT σ rows M) vs cs := by
  refine h.imp_mem fun v c hc hr => ⟨hr, ?_⟩
  cases c with
  | lst t l tag => have := hn _ hc t l tag rfl; subst this; trivial
  | _ => trivial

theorem argSlots_at {σ : Sg} {rows : List (Nat × TypeId)} {boxes : List (Nat × List CellV)} {shs : List Sh} {vs cs : List Value} (h : ArgsRep M shs vs cs) :
    ∀ {cvs : List CellV} (k : Nat), All2 (RdT σ rows M) cs cvs → ∀ i, match look i (argSlots k shs cvs) with
      | some sv => k ≤ i ∧ i - k < vs.length ∧ RepSv σ rows boxes M (vs.getD (i - k) undef) sv
      | none => True := by
  induction h with
  | nil => intro cvs k _ i; simp [argSlots, look]
  | @cons sh v c shs vs cs hx hr ih =>
    intro cvs k hc i
    -- the first argument's cells
    have hlen : c.length ≤ cvs.length := by have := hc.length; simp at this; omega
    have hc1 : All2 (RdT σ rows M) c (cvs.take c.length) := by have := hc.take c.length; simpa using this
    have hc2 : All2 (RdT σ rows M) cs (cvs.drop c.length) := by have := hc.drop c.length; simpa using this
    have step : ∀ (n : Nat) (sv : Sv), c.length = n → RepSv σ rows boxes M v sv → match look i ((k, sv) :: argSlots (k + 1) shs (cvs.drop n)) with
      | some sv => k ≤ i ∧ i - k < (v :: vs).length ∧ RepSv σ rows boxes M ((v :: vs).getD (i - k) undef) sv
      | none => True := by
      intro n sv hn hsv
      subst hn
      rw [look_cons]
      by_cases hki : k = i
      · subst hki; simp; exact hsv
      · rw [if_neg hki]
        have := ih (k + 1) hc2 i
        split at this
        · rename_i sv' hl
          obtain ⟨h1, h2, h3⟩ := this
          refine ⟨by omega, by simp; omega, ?_⟩
          rw [show i - k = (i - (k + 1)) + 1 by omega]
          simpa using h3
        · trivial
    cases sh with
    | one =>
      obtain ⟨rfl, hag⟩ := hx
      refine step 1 _ rfl ⟨?_, hag⟩
      have : v.cells = #[v] := by cases v <;> first | rfl | (simp [isAgg'] at hag)
      rw [this]; exact hc1
    | agg n =>
      obtain ⟨hn, vs', rfl, rfl⟩ := hx
      exact step n _ hn ⟨by rw [hn] at hc1; exact hc1, rfl⟩
    | ptr n =>
      obtain ⟨hn, ad, rfl, hM⟩ := hx
      refine step n _ hn ⟨ad, rfl, fun j cv hj => ?_⟩
      rw [hn] at hc1
      obtain ⟨u, hu, hr⟩ := hc1.get hj
      exact ⟨u, hM j u hu, hr⟩

/-! ### What comes back -/

def resOne (tmps : Array Value) : ResultVar → Sem Value
  | .tmp t => pure (tmps.getD t undef)
  | .cell ad t => do loadVar t (← asAddr (tmps.getD ad undef))

theorem retVal_eq (l : List Value) : (if h : l.toArray.size = 1 then l.toArray[0] else Value.tuple l.toArray) = retVal l := by
  match l with
  | [] => rfl
  | [v] => rfl
  | v :: u :: r =>
    rw [dif_neg (by simp)]; rfl

theorem results_eq (fn : Func) (tmps : Array Value) : results fn tmps = (do let vs ← fn.results.toList.mapM (resOne tmps); pure (retVal vs)) := by
  have h : results fn tmps = (do
      let vs ← fn.results.mapM (resOne tmps)
      pure (if h : vs.size = 1 then vs[0] else .tuple vs)) := by
    unfold results
    congr 1
  rw [h, Array.mapM_eq_mapM_toList, map_eq_pure_bind, bind_assoc]
  congr 1
  funext vs
  rw [pure_bind]
  congr 1
  exact retVal_eq vs

theorem res_run (hT : TabOk P tab) (hS : Sim P base M0 ios σ M w a st) : ∀ (rs : List ResultVar) (tys : List TypeId) (l : List (Bool × List CellV)), resCells tab st rs tys = some l →
    ∃ vs, (rs.mapM (resOne a.tmps)).run P w = .ok vs w ∧ All2 (RepVal σ st.rows M) vs l
  | [], [], l, h => by
    simp only [resCells, Option.some.injEq] at h; subst h
    exact ⟨[], by simp, .nil⟩
  | [], _ :: _, l, h => by simp [resCells] at h
  | .tmp t :: rs, [], l, h => by simp [resCells] at h
  | .cell ad ty :: rs, [], l, h => by simp [resCells] at h
  | .tmp t :: rs, ty :: tys, l, h => by
    simp only [resCells] at h
    split at h
    · rename_i ag cs hc
      obtain ⟨r, hr, e⟩ := Option.bind_eq_some_iff.1 h
      cases e
      obtain ⟨vs, h1, h2⟩ := res_run hT hS rs tys r hr
      have h3 := typed_rep (tab := tab) ty (hS.slots t)
      rw [hc] at h3
      exact ⟨a.tmps.getD t undef :: vs, by simp only [List.mapM_cons, resOne, pure_bind, Sem.run_bind, h1, Result.andThen_ok, Sem.run_pure], .cons h3 h2⟩
    · cases h
  | .cell ad ty :: rs, _ :: tys, l, h => by
    simp only [resCells] at h
    split at h
    · rename_i k off ti hg ht
      split at h
      · rename_i cs hk
        split at h
        · rename_i hc
          obtain ⟨r, hr, e⟩ := Option.bind_eq_some_iff.1 h
          cases e
          obtain ⟨vs, h1, h2⟩ := res_run hT hS rs tys r hr
          have h3 := hS.slots ad
          rw [hg] at h3
          obtain ⟨arr, E, hh, hcs⟩ := hS.boxes k cs hk
          have h4 := (hcs.drop off).take (size ti.ty)
          obtain ⟨v, hv, hvc, hva⟩ := run_loadVar_cells (w := w) hT ht hc.2 ((⟨σ.box k, 0, none⟩ : Addr).add off) ((arr.toList.drop off).take (size ti.ty))
            (by rw [List.length_take, List.length_drop, hcs.length]; omega)
            (by
              intro j u hu
              rw [add_lit, add_lit, cell_of_row w (σ.box k) _ arr E (0, 0) hh]
              rw [List.getElem?_take] at hu
              split at hu
              · rw [List.getElem?_drop] at hu; rw [Nat.zero_add]; simpa using hu
              · cases hu)
            h4.one
          refine ⟨v :: vs, ?_, .cons ⟨by rw [hvc]; exact h4, hva⟩ h2⟩
          simp only [List.mapM_cons, resOne, h3.1, asAddr, pure_bind, Sem.run_bind, hv, h1, Result.andThen_ok, Sem.run_pure]
        · cases h
      · cases h
    · cases h

theorem All2.flatten {vs : List Value} {l : List (Bool × List CellV)} (h : All2 (RepVal σ st.rows M) vs l) : All2 (RdT σ st.rows M) (vs.flatMap fun v => v.cells.toList) (cellsOf l) := by
  induction h with
  | nil => exact .nil
  | cons hx _ ih => rw [List.flatMap_cons]; exact hx.1.append ih

theorem resRep_of {vs : List Value} {l : List (Bool × List CellV)} (h : All2 (RepVal σ st.rows M) vs l) : ∀ {shs : List (Bool × Nat)}, shapeOk shs l = true → ResRep shs vs (vs.flatMap fun v => v.cells.toList) := by
  induction h with
  | nil => intro shs hs; cases shs with
    | nil => exact .nil
    | cons sh shs => simp [shapeOk] at hs
  | @cons v p vs l hx hr ih =>
    intro shs hs
    cases shs with
    | nil => simp [shapeOk] at hs
    | cons sh shs =>
      obtain ⟨ag, n⟩ := sh
      obtain ⟨ag', cs⟩ := p
      simp only [shapeOk, Bool.and_eq_true, beq_iff_eq] at hs
      rw [List.flatMap_cons]
      refine .cons ?_ ?_ (ih hs.2)
      · have := hx.1.length; simp at this; omega
      · rw [hs.1.1]; exact hx.2

theorem tagOf_at (hS : Sim P base M0 ios σ M w a st) {vs : List Value} {cs : List CellV} (h : All2 (RdT σ st.rows M) vs cs) {i r : Nat} (ht : tagOf cs i = some r) :
    ∃ u, vs[i]? = some u ∧ (r = 0 → u = .slice none 0 0) ∧ (r ≠ 0 → (st.row r).isSome = true → u = σ.row r) := by
  unfold tagOf at ht
  cases hc : cs[i]? with
  | none => rw [hc] at ht; cases ht
  | some c =>
    rw [hc] at ht
    cases c with
    | lst t l tag =>
      simp only at ht; subst ht
      obtain ⟨u, hu, hr⟩ := h.get hc
      refine ⟨u, hu, fun h0 => ?_, fun h0 hs => ?_⟩
      · subst h0; simpa [tagOk] using hr.2
      · have := hr.2; simp only [tagOk, if_neg h0] at this; exact this hs
    | _ => simp at ht

theorem nodup_of : ∀ {l : List Nat}, nodupB l = true → l.Nodup
  | [], _ => List.nodup_nil
  | k :: l, h => by
    simp only [nodupB, Bool.and_eq_true] at h
    exact List.nodup_cons.2 ⟨notMem_iff.1 h.1, nodup_of h.2⟩

theorem good_row (hT : TabOk P tab) (hS : Sim P base M0 ios σ M w a st) {vs : List Value} {cs : List CellV} (h : All2 (RdT σ st.rows M) vs cs) {p : Nat × TypeId} (hg : goodTag tab st cs p = true) :
    ∃ r u, tagOf cs p.1 = some r ∧ vs[p.1]? = some u ∧ ((r = 0 ∧ u = .slice none 0 0) ∨ (r ≠ 0 ∧ st.row r = some p.2 ∧ u = σ.row r)) ∧ RowOk P base.heap.size M w u p.2 := by
  simp only [goodTag, Bool.and_eq_true] at hg
  obtain ⟨he, hg⟩ := hg
  cases ht : tagOf cs p.1 with
  | none => rw [ht] at hg; cases hg
  | some r =>
    rw [ht] at hg
    simp only at hg
    obtain ⟨u, hu, h0, h1⟩ := tagOf_at hS h ht
    by_cases hr : r = 0
    · refine ⟨r, u, rfl, hu, .inl ⟨hr, h0 hr⟩, ?_⟩
      rw [h0 hr]
      obtain ⟨ti, hti⟩ := Option.isSome_iff_exists.1 he
      obtain ⟨inf, z, hi, _⟩ := (hT _ ti hti).info
      exact ⟨⟨0, [], inf, hi, World.ownsRow_nil _ _ _ _, fun g hg => by cases hg⟩⟩
    · cases hre : st.row r with
      | none => rw [hre] at hg; simp [hr] at hg
      | some e' =>
        rw [hre] at hg
        have : e' = p.2 := by simpa [hr] using hg
        subst this
        have hv := h1 hr (by rw [hre]; rfl)
        exact ⟨r, u, rfl, hu, .inr ⟨hr, hre, hv⟩, by rw [hv]; exact hS.rows r _ hre⟩

theorem fresh_of (hT : TabOk P tab) (hS : Sim P base M0 ios σ M w a st) {vs : List Value} {cs : List CellV} (h : All2 (RdT σ st.rows M) vs cs) {fr : List (Nat × TypeId)} (hf : freshOk tab st cs fr = true) : FreshRows P base w M fr vs := by
  simp only [freshOk, Bool.and_eq_true, List.all_eq_true] at hf
  obtain ⟨⟨h1, h2⟩, h3⟩ := hf
  refine ⟨fun p hp => ?_, fun p hp q hq hne u v hu hv => ?_, nodup_of h3⟩
  · obtain ⟨r, u, _, hu, _, hrow⟩ := good_row hT hS h (h1 p hp)
    exact ⟨u, hu, hrow⟩
  · obtain ⟨r, u', ht, hu', hc, _⟩ := good_row hT hS h (h1 p hp)
    obtain ⟨s, v', ht', hv', hc', _⟩ := good_row hT hS h (h1 q hq)
    rw [hu] at hu'; cases hu'
    rw [hv] at hv'; cases hv'
    have ha := h2 p hp q hq
    simp only [apartTag, ht, ht', Bool.or_eq_true, beq_iff_eq, Bool.not_eq_true', Option.some.injEq, hne, false_or] at ha
    rcases hc with ⟨_, e⟩ | ⟨hr, hre, e⟩
    · rw [e]; exact .inl rfl
    · rcases hc' with ⟨_, e'⟩ | ⟨hs, hse, e'⟩
      · rw [e']
        show _ ∨ u.ownBlock ≠ none
        cases u.ownBlock <;> simp
      · rw [e, e']
        refine hS.rowInj r s (by rw [hre]; rfl) (by rw [hse]; rfl) ?_
        intro e2; subst e2
        rcases ha with ha | ha
        · exact hr ha
        · simp at ha

/-! ### The contract -/

/-- What a value's lists keep to. -/
def Wf : (t : Ty) → El t → Prop
  | .list t, l => List.length l ≤ maxLen ∧ ∀ x, x ∈ (show List (El t) from l) → Wf t x
  | .pair a b, x => Wf a x.1 ∧ Wf b x.2
  | _, _ => True

theorem RdC.wf : ∀ (t : Ty) (cs : List Value) (x : El t), RdC M t cs x → Wf t x
  | .int _, _, _, _ => trivial
  | .bool, _, _, _ => trivial
  | .str, _, _, _ => trivial
  | .unit, _, _, _ => trivial
  | .pair a b, _, _, ⟨_, _, _, h1, h2⟩ => ⟨RdC.wf a _ _ h1, RdC.wf b _ _ h2⟩
  | .list t, _, l, ⟨_, _, _, h1, h2, h⟩ => by
    refine ⟨Nat.le_trans h1 h2, fun x hx => ?_⟩
    obtain ⟨i, hi, e⟩ := List.getElem_of_mem hx
    obtain ⟨_, vs, _, _, _, h4⟩ := h i hi
    have := RdC.wf t vs _ h4
    rw [← e]; exact this

theorem args_length {shs : List Sh} {vs cs : List Value} (h : ArgsRep M shs vs cs) : vs.length = shs.length := by
  induction h with
  | nil => rfl
  | cons _ _ ih => simp [ih]

theorem frame_at (args : List Value) (n i : Nat) (hi : i < args.length) : ((args.toArray ++ Array.replicate n undef).getD i undef) = args.getD i undef := by
  rw [Array.getD_eq_getD_getElem?, List.getD_eq_getElem?_getD, Array.getElem?_append_left (by simpa using hi)]
  simp

theorem slots_start {σ : Sg} {boxes : List (Nat × List CellV)} {shs : List Sh} {vs cs : List Value} {cvs : List CellV} (h : ArgsRep M shs vs cs) (hc : All2 (RdT σ [] M) cs cvs) (n : Nat) (pre : List Value) (i : Nat) :
    RepSv σ [] boxes M (((pre ++ vs).toArray ++ Array.replicate n undef).getD i undef) (match look i (argSlots pre.length shs cvs) with | some sv => sv | none => .und) := by
  have := argSlots_at (boxes := boxes) h pre.length hc i
  split
  · rename_i sv hl
    rw [hl] at this
    obtain ⟨h1, h2, h3⟩ := this
    rw [frame_at _ _ _ (by simp; omega)]
    rw [List.getD_eq_getElem?_getD, List.getElem?_append_right h1, ← List.getD_eq_getElem?_getD]
    exact h3
  · trivial

theorem conOk_of_vc {con : Con} (L : (i : El con.I) → El con.A → Nat → Option LoopAnn) {n : FuncId} {fn : Func} {c : Code} (hm : P.follows .mixedOrders = true) (hT : TabOk P tab) (hΓ : GamOk P Γ) (hf : P.funcs[n]? = some fn) (hb : fn.body = some c) (tys : List TypeId)
    (hnt : con.shA.length + (match con.io with | true => 1 | false => 0) ≤ fn.ntmps)
    (h : ∀ i x, con.pre i x → (con.io = true → Wf con.I i) → Wf con.A x → vc tab Γ (L i x) c 1 (initSt con fn.ntmps i x) (bodyK tab con fn.results.toList tys i x)) : ConOk P n con := by
  intro w M vs cs i x hM hargs hx hpre
  have hcs : ∀ σ, All2 (RdT σ [] M) cs (flat con.A x) := fun σ => rdT_of (rd_flat _ _ _ hx) (flat_none _ _)
  have hlen := args_length hargs
  -- the end
  have fin : ∀ (ios : List Nat) (i : El con.I) (X : World → Mem → Prop) (σ' : Sg) (M' : Mem) (w' : World) (a' : Act) (st' : St), Sim P w M ios σ' M' w' a' st' → finK tab con fn.results.toList tys i x st' →
      (∀ cs, con.io = true → st'.box 0 = some cs → unflat con.I cs = some ((con.f i x).2, []) → X w' M') → (con.io = false → X w' M') →
      a'.defers = [] ∧ ∃ v, (results fn a'.tmps).run P w' = .ok v w' ∧ Ret P con w M ios (con.f i x).1 X (.returned v) w' := by
    intro ios i X σ' M' w' a' st' hS' hK hX hX0
    unfold finK at hK
    split at hK
    · exact hK.elim
    · rename_i l hl
      split at hK
      · rename_i r hsf hr
        rw [Bool.and_eq_true] at hsf
        obtain ⟨hK1, hK2⟩ := hK
        obtain ⟨vs', h1, h2⟩ := res_run hT hS' _ _ _ hl
        refine ⟨hS'.defers, retVal vs', ?_, ⟨vs', vs'.flatMap fun v => v.cells.toList, M', rfl, hS'.le, hS'.mem, hS'.fr, hS'.old, resRep_of h2 hsf.1, ?_, fresh_of hT hS' h2.flatten hsf.2, ?_⟩⟩
        · rw [results_eq]
          simp only [Sem.run_bind, h1, Result.andThen_ok, Sem.run_pure]
        · obtain ⟨c1, c2, e, hr1, hr2⟩ := rd_unflat _ _ _ _ _ (h2.flatten.imp fun _ _ h => h.1) hr
          cases hr2
          rw [e, List.append_nil, ← hK1]; exact hr1
        · cases hio : con.io with
          | false => exact hX0 hio
          | true =>
            rw [hio] at hK2
            simp only at hK2
            split at hK2
            · rename_i cs' hc'
              split at hK2
              · rename_i i' hi'
                exact hX _ hio hc' (by rw [hi', hK2])
              · exact hK2.elim
            · exact hK2.elim
      · exact hK.elim
  have body : ∀ (pre : List Value) (ios : List Nat) (boxes : List (Nat × List CellV)) (slots : List (Nat × Sv)) (X : World → Mem → Prop) (σ : Sg), initSt con fn.ntmps i x = ⟨fn.ntmps, slots, boxes, []⟩ → (pre ++ vs).length ≤ fn.ntmps →
      (∀ i, RepSv σ [] boxes M (((pre ++ vs).toArray ++ Array.replicate (fn.ntmps - (pre ++ vs).toArray.size) undef).getD i undef) (match look i slots with | some sv => sv | none => .und)) →
      (∀ k cs, look k boxes = some cs → ∃ arr E, w.heap[σ.box k]? = some (.cells arr E (0, 0)) ∧ All2 (RdT σ [] M) arr.toList cs) →
      (∀ k, (look k boxes).isSome = true → ∀ ad, ad.block = σ.box k → M ad = none) →
      (∀ k k', (look k boxes).isSome = true → (look k' boxes).isSome = true → σ.box k = σ.box k' → k = k') →
      (∀ k, (look k boxes).isSome = true → σ.box k ∈ ios) → (∀ b ∈ ios, σ.box 0 = b) →
      (con.io = true → Wf con.I i) → (∀ (σ' : Sg) (M' : Mem) (w' : World) (a' : Act) (st' : St), Sim P w M ios σ' M' w' a' st' → finK tab con fn.results.toList tys i x st' →
        a'.defers = [] ∧ ∃ v, (results fn a'.tmps).run P w' = .ok v w' ∧ Ret P con w M ios (con.f i x).1 X (.returned v) w') →
      Calls P n (pre ++ vs).toArray w (Ret P con w M ios (con.f i x).1 X) := by
    intro pre ios boxes slots X σ hst hle hslots hbx hbm hinj hin hpin hwf hend
    refine calls_of_wp hf hb ?_
    have hS : Sim P w M ios σ M w { tmps := (pre ++ vs).toArray ++ Array.replicate (fn.ntmps - (pre ++ vs).toArray.size) undef, defers := [] } (initSt con fn.ntmps i x) := by
      rw [hst]
      exact {
        mem := hM
        nt := by simp at hle ⊢; omega
        slots := hslots
        boxes := hbx
        boxM := hbm
        boxInj := hinj
        boxBase := fun k hk => .inr (hin k hk)
        rows := fun r e he => by cases he
        rowBox := fun r k hr => by cases hr
        rowInj := fun r r' hr => by cases hr
        fr := Fr.refl _ _
        defers := rfl
        old := fun ad _ h => h
        le := Mem.le_refl _
        pin := hpin }
    refine vc_sound hm hT hΓ c _ _ _ _ σ M w _ hS ?_ (h i x hpre hwf (RdC.wf _ _ _ hx))
    intro e σ' M' w' a' st' hS' hK
    cases e with
    | normal => exact hend _ _ _ _ _ hS' hK
    | ret => exact hend _ _ _ _ _ hS' hK
    | exit id => exact hK.elim
  cases hio : con.io with
  | false =>
    simp only [Bool.false_eq_true, if_false]
    rw [hio] at hnt
    let σ : Sg := ⟨fun _ => 0, fun _ => undef⟩
    have := body [] [] [] (argSlots 0 con.shA (flat con.A x)) (fun _ _ => True) σ (by unfold initSt; rw [if_neg (by rw [hio]; simp)]) (by simp; simp at hnt; omega)
      (fun i => by have := slots_start (σ := σ) (boxes := []) hargs (hcs σ) (fn.ntmps - ([] ++ vs).toArray.size) [] i; exact this)
      (fun k cs hk => by cases hk) (fun k hk => by cases hk) (fun k k' hk => by cases hk) (fun k hk => by cases hk) (fun b hb => by cases hb) (fun e => by rw [hio] at e; cases e)
      (fun σ' M' w' a' st' hS' hK => fin [] i _ σ' M' w' a' st' hS' hK (fun _ _ _ _ => trivial) (fun _ => trivial))
    simpa using this
  | true =>
    simp only [if_true]
    intro b hrep
    rw [hio] at hnt
    obtain ⟨arr, E, hh, hbm, hrd⟩ := hrep
    let σ : Sg := ⟨fun _ => b, fun _ => undef⟩
    have one : ∀ k, (look k [(0, flat con.I i)]).isSome = true → k = 0 := by
      intro k hk
      simp only [look] at hk
      split at hk
      · rename_i e; exact e.symm
      · cases hk
    refine body [.pointer (some ⟨b, 0, none⟩)] [b] [(0, flat con.I i)] ((0, .box 0 0) :: argSlots 1 con.shA (flat con.A x)) _ σ (by unfold initSt; rw [if_pos hio]) (by simp; simp at hnt; omega) ?_ ?_ ?_ ?_ ?_ (fun b' hb' => by simp at hb'; exact hb'.symm) (fun _ => RdC.wf _ _ _ hrd) ?_
    · intro j
      rw [look_cons]
      by_cases hj : 0 = j
      · subst hj
        simp only [if_true]
        rw [frame_at _ _ _ (by simp)]
        exact ⟨rfl, rfl⟩
      · rw [if_neg hj]
        exact slots_start (σ := σ) (boxes := [(0, flat con.I i)]) hargs (hcs σ) _ [.pointer (some ⟨b, 0, none⟩)] j
    · intro k cs' hk
      have : k = 0 := one k (by rw [hk]; rfl)
      subst this
      simp only [look, if_true, Option.some.injEq] at hk
      subst hk
      exact ⟨arr, E, hh, rdT_of (rd_flat _ _ _ hrd) (flat_none _ _)⟩
    · intro k _ ad had; exact hbm ad had
    · intro k k' hk hk' _; rw [one k hk, one k' hk']
    · intro k _; simp [σ]
    · intro σ' M' w' a' st' hS' hK
      have h0 : σ'.box 0 = b := hS'.pin b (by simp)
      refine fin [b] i _ σ' M' w' a' st' hS' hK (fun cs' _ hc' hu => ?_) (fun e => by rw [hio] at e; cases e)
      obtain ⟨arr', E', hh', hcs'⟩ := hS'.boxes 0 cs' hc'
      rw [h0] at hh'
      obtain ⟨c1, c2, e, hr1, hr2⟩ := rd_unflat _ _ _ _ _ (hcs'.imp fun _ _ h => h.1) hu
      cases hr2
      refine ⟨arr', E', hh', ?_, ?_⟩
      · intro ad had; exact hS'.boxM 0 (by rw [hc']; rfl) ad (by rw [had, h0])
      · rw [e, List.append_nil]; exact hr1

end Go.Proofs.Ytcbehcpmojnnfaa.Bv
