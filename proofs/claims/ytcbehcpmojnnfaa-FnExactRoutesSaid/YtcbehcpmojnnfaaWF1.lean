/- What a function's end must show. -/
import Derived.Test.YtcbehcpmojnnfaaWL5
namespace Go.Proofs.Ytcbehcpmojnnfaa.Bv
set_option linter.unusedVariables false
set_option linter.unusedSimpArgs false

/-- What is returned. -/
def resCells (tab : Tab) (st : St) : List ResultVar → List TypeId → Option (List (Bool × List CellV))
  | [], [] => some []
  | .tmp t :: rs, ty :: tys => match typed tab ty (st.get t) with
    | .val ag cs => (resCells tab st rs tys).bind fun l => some ((ag, cs) :: l)
    | _ => none
  | .cell ad ty :: rs, _ :: tys => match st.get ad, look ty tab with
    | .box k off, some ti => match st.box k with
      | some cs => if off + size ti.ty ≤ cs.length ∧ (ti.agg = true ∨ size ti.ty = 1) then (resCells tab st rs tys).bind fun l => some ((ti.agg, (cs.drop off).take (size ti.ty)) :: l) else none
      | none => none
    | _, _ => none
  | _, _ => none

def shapeOk : List (Bool × Nat) → List (Bool × List CellV) → Bool
  | [], [] => true
  | (ag, n) :: s, (ag', cs) :: l => (ag == ag') && (cs.length == n) && shapeOk s l
  | _, _ => false

def cellsOf : List (Bool × List CellV) → List CellV
  | [] => []
  | p :: l => p.2 ++ cellsOf l


/-- Rows that come back: what is in them. -/
def backVals (rows : List (Nat × RowV)) : List (Nat × TypeId) → Option (List CellV)
  | [] => some []
  | (j, e) :: l => match look (keyA j) rows, backVals rows l with
    | some (.hot _ t x _ none _), some r => some (.lst t x none :: r)
    | _, _ => none

def ioCells (con : Con) (st : St) : Option (List CellV) := match con.io with
  | true => st.box 0
  | false => some []

def backK (con : Con) : List Nat := con.backA.map fun p => keyA p.1

/-- The function's end: what comes back, and that it is what is said. -/
def finK (tab : Tab) (con : Con) (rs : List ResultVar) (tys : List TypeId) (i : El con.I) (x : El con.A) (st : St) : Prop :=
  match resCells tab st rs tys, ioCells con st with
  | some l, some bc =>
    let fz := frzRows st.rows (hotKeys st.rows (borrowed (restC con.fresh 0 (cellsOf l)) ++ borrowed (restC con.ownI 0 bc)))
    let rows := fz ++ st.rows
    let cs := resCs rows (cellsOf l)
    let ib := resCs rows bc
    match valCs rows cs, handed rows cs con.fresh, valCs rows ib, handed rows ib con.ownI, backVals rows con.backA with
    | some cv, some ks, some iv, some iks, some bv => match unflat con.R cv, unflat con.I iv, unflat con.B bv with
      | some (r, []), some (i', []), some (b', []) =>
        match shapeOk con.shR l && nodupB (fz.map (·.1)) && nodupB (ks ++ (iks ++ backK con)) && (borrowed (restC con.fresh 0 cs)).isEmpty && (borrowed (restC con.ownI 0 ib)).isEmpty with
        | true => con.Post i x (r, (i', b'))
        | false => False
      | _, _, _ => False
    | _, _, _, _, _ => False
  | _, _ => False

def bodyK (tab : Tab) (con : Con) (rs : List ResultVar) (tys : List TypeId) (i : El con.I) (x : El con.A) : Ex → St → Prop
  | .normal, st => finK tab con rs tys i x st
  | .ret, st => finK tab con rs tys i x st
  | .exit _, _ => False

/-! ### The table's types -/

def elemB (tab : Tab) (own : List (Nat × TypeId)) (cs : List CellV) : Bool := own.all fun p => match cs[p.1]?, look p.2 tab with
  | some (.lst t _ _), some te => decide (te.ty = t) && decide (0 < size t)
  | _, _ => false

variable {P : Program} {base : World} {M0 : Mem} {ios : Ios} {σ : Sg} {M : Mem} {w : World} {a : Act} {st : St} {tab : Tab} {Γ : Gam}

def tyC : CellV → Option Ty
  | .lst t _ _ => some t
  | _ => none

theorem flat_tys : ∀ (t : Ty) (x y : El t), (flat t x).map tyC = (flat t y).map tyC
  | .int _, _, _ => rfl
  | .bool, _, _ => rfl
  | .str, _, _ => rfl
  | .list _, _, _ => rfl
  | .unit, _, _ => rfl
  | .pair a b, x, y => by simp [flat, flat_tys a x.1 y.1, flat_tys b x.2 y.2]

theorem elemsOk_of (hT : TabOk P tab) {own : List (Nat × TypeId)} {t : Ty} {x0 : El t} (h : elemB tab own (flat t x0) = true) (x : El t) : elemsOk P own (flat t x) := fun j e hj t' l tag hc => by
  have h1 := List.all_eq_true.1 h (j, e) (look_mem hj)
  simp only at h1
  have hty : ((flat t x0).map tyC)[j]? = some (some t') := by rw [flat_tys t x0 x, List.getElem?_map, hc]; rfl
  rw [List.getElem?_map] at hty
  split at h1
  · rename_i t0 l0 tag0 te hc0 hte
    rw [hc0] at hty
    have e1 : t0 = t' := by simpa [tyC] using hty
    subst e1
    simp only [Bool.and_eq_true, decide_eq_true_eq] at h1
    obtain ⟨i, z, hi, hs, _⟩ := (hT e te hte).info
    exact ⟨⟨i, hi, by rw [hs, h1.1]⟩, h1.2⟩
  · cases h1

/-! ### What comes back -/

def resOne (tmps : Array Value) : ResultVar → Sem Value
  | .tmp t => pure (tmps.getD t undef)
  | .cell ad t => do loadVar t (← asAddr (tmps.getD ad undef))

theorem retVal_eq (l : List Value) : (if h : l.toArray.size = 1 then l.toArray[0] else Value.tuple l.toArray) = retVal l := by
  match l with
  | [] => rfl
  | [v] => rfl
  | v :: u :: r =>
    rw [dif_neg (by simp)]; rfl

theorem results_eq (fn : Func) (tmps : Array Value) : results fn tmps = (do let vs ← fn.results.toList.mapM (resOne tmps); pure (retVal vs)) := by
  have h : results fn tmps = (do
      let vs ← fn.results.mapM (resOne tmps)
      pure (if h : vs.size = 1 then vs[0] else .tuple vs)) := by
    unfold results
    congr 1
  rw [h, Array.mapM_eq_mapM_toList, map_eq_pure_bind, bind_assoc]
  congr 1
  funext vs
  rw [pure_bind]
  congr 1
  exact retVal_eq vs

theorem res_run (hT : TabOk P tab) (hS : Sim P base M0 ios σ M w a st) : ∀ (rs : List ResultVar) (tys : List TypeId) (l : List (Bool × List CellV)), resCells tab st rs tys = some l →
    ∃ vs, (rs.mapM (resOne a.tmps)).run P w = .ok vs w ∧ All2 (RepVal σ st.rows M) vs l
  | [], [], l, h => by
    simp only [resCells, Option.some.injEq] at h; subst h
    exact ⟨[], by simp, .nil⟩
  | [], _ :: _, l, h => by simp [resCells] at h
  | .tmp t :: rs, [], l, h => by simp [resCells] at h
  | .cell ad ty :: rs, [], l, h => by simp [resCells] at h
  | .tmp t :: rs, ty :: tys, l, h => by
    simp only [resCells] at h
    split at h
    · rename_i ag cs hc
      obtain ⟨r, hr, e⟩ := Option.bind_eq_some_iff.1 h
      cases e
      obtain ⟨vs, h1, h2⟩ := res_run hT hS rs tys r hr
      have h3 := typed_rep (tab := tab) ty (hS.slots t)
      rw [hc] at h3
      exact ⟨a.tmps.getD t undef :: vs, by simp only [List.mapM_cons, resOne, pure_bind, Sem.run_bind, h1, Result.andThen_ok, Sem.run_pure], .cons h3 h2⟩
    · cases h
  | .cell ad ty :: rs, _ :: tys, l, h => by
    simp only [resCells] at h
    split at h
    · rename_i k off ti hg ht
      split at h
      · rename_i cs hk
        split at h
        · rename_i hc
          obtain ⟨r, hr, e⟩ := Option.bind_eq_some_iff.1 h
          cases e
          obtain ⟨vs, h1, h2⟩ := res_run hT hS rs tys r hr
          have h3 := hS.slots ad
          rw [hg] at h3
          obtain ⟨arr, E, hh, hcs⟩ := hS.boxes k cs hk
          have h4 := (hcs.drop off).take (size ti.ty)
          obtain ⟨v, hv, hvc, hva⟩ := run_loadVar_cells (w := w) hT ht hc.2 ((⟨σ.box k, 0, none⟩ : Addr).add off) ((arr.toList.drop off).take (size ti.ty))
            (by rw [List.length_take, List.length_drop, hcs.length]; omega)
            (by
              intro j u hu
              rw [add_lit, add_lit, cell_of_row w (σ.box k) _ arr E (0, 0) hh]
              rw [List.getElem?_take] at hu
              split at hu
              · rw [List.getElem?_drop] at hu; rw [Nat.zero_add]; simpa using hu
              · cases hu)
            h4.one
          refine ⟨v :: vs, ?_, .cons ⟨by rw [hvc]; exact h4, hva⟩ h2⟩
          simp only [List.mapM_cons, resOne, h3.1, asAddr, pure_bind, Sem.run_bind, hv, h1, Result.andThen_ok, Sem.run_pure]
        · cases h
      · cases h
    · cases h

theorem All2.flatten {vs : List Value} {l : List (Bool × List CellV)} (h : All2 (RepVal σ st.rows M) vs l) : All2 (RdT σ st.rows M) (vs.flatMap fun v => v.cells.toList) (cellsOf l) := by
  induction h with
  | nil => exact .nil
  | cons hx _ ih => rw [List.flatMap_cons]; exact hx.1.append ih

theorem resRep_of {vs : List Value} {l : List (Bool × List CellV)} (h : All2 (RepVal σ st.rows M) vs l) : ∀ {shs : List (Bool × Nat)}, shapeOk shs l = true → ResRep shs vs (vs.flatMap fun v => v.cells.toList) := by
  induction h with
  | nil => intro shs hs; cases shs with
    | nil => exact .nil
    | cons sh shs => simp [shapeOk] at hs
  | @cons v p vs l hx hr ih =>
    intro shs hs
    cases shs with
    | nil => simp [shapeOk] at hs
    | cons sh shs =>
      obtain ⟨ag, n⟩ := sh
      obtain ⟨ag', cs⟩ := p
      simp only [shapeOk, Bool.and_eq_true, beq_iff_eq] at hs
      rw [List.flatMap_cons]
      refine .cons ?_ ?_ (ih hs.2)
      · have := hx.1.length; simp at this; omega
      · rw [hs.1.1]; exact hx.2


theorem handed_hot {rows : List (Nat × RowV)} {cs : List CellV} {own : List (Nat × TypeId)} {ks : List Nat} (h : handed rows cs own = some ks) : ∀ r ∈ ks, ∃ e t l ver z, look r rows = some (.hot e t l ver none z) := fun r hr => by
  obtain ⟨a1, a2⟩ := handed_spec h
  obtain ⟨j, e, t, hm, hc⟩ := a2 r hr
  obtain ⟨c, y, hc', hh, _⟩ := a1 j e hm
  rw [hc] at hc'; cases hc'
  obtain ⟨e', l, ver, z, hl⟩ := handC_hot hh
  exact ⟨_, _, _, _, _, hl⟩

theorem backVals_spec {rows : List (Nat × RowV)} : ∀ {own : List (Nat × TypeId)} {bv : List CellV}, backVals rows own = some bv → bv.length = own.length ∧ bv.map unT = bv ∧ ∀ (k j : Nat) (e : TypeId), own[k]? = some (j, e) → ∃ e0 t l ver z, bv[k]? = some (.lst t l none) ∧ look (keyA j) rows = some (.hot e0 t l ver none z)
  | [], bv, h => by simp only [backVals, Option.some.injEq] at h; subst h; exact ⟨rfl, rfl, fun k j e hk => by simp at hk⟩
  | (j, e) :: own, bv, h => by
    simp only [backVals] at h
    split at h
    · rename_i e0 t x ver z r hl hr
      cases h
      obtain ⟨h1, h2, h3⟩ := backVals_spec hr
      refine ⟨by simp [h1], by simp [unT, h2], fun k j' e' hk => ?_⟩
      cases k with
      | zero => simp at hk; obtain ⟨rfl, rfl⟩ := hk; exact ⟨e0, t, x, ver, z, by simp, hl⟩
      | succ k => simp at hk; obtain ⟨e1, t1, l1, v1, z1, q1, q2⟩ := h3 k j' e' hk; exact ⟨e1, t1, l1, v1, z1, by simpa using q1, q2⟩
    · cases h

theorem blks_keys {own : List (Nat × TypeId)} (f : Nat → Nat) : blks own (fun j => σ.foot (f j)) = foots σ (own.map fun p => f p.1) := by
  unfold blks foots
  rw [List.map_map]; rfl

end Go.Proofs.Ytcbehcpmojnnfaa.Bv
