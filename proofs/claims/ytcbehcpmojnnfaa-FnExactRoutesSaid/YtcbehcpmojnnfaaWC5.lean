/- States that look alike; blocks that are handed over. -/
import Derived.Test.YtcbehcpmojnnfaaWC4
namespace Go.Proofs.Ytcbehcpmojnnfaa.Bv
set_option linter.unusedVariables false
set_option linter.unusedSimpArgs false

variable {P : Program} {base : World} {M0 : Mem} {ios : Ios} {σ : Sg} {M : Mem} {w : World} {a : Act} {st : St} {tab : Tab} {o : Oper} {next : Act → World → Prop} {Q : Exit → Act → World → Prop}

structure Ext (s s' : St) : Prop where
  nt : s.nt = s'.nt
  get : ∀ i, s.get i = s'.get i
  box : ∀ k, s.box k = s'.box k
  row : ∀ r, s.rowv r = s'.rowv r
  olds : ∀ i, i ∈ s.olds ↔ i ∈ s'.olds

theorem Ext.refl (s : St) : Ext s s := ⟨rfl, fun _ => rfl, fun _ => rfl, fun _ => rfl, fun _ => Iff.rfl⟩
theorem Ext.symm {s s' : St} (h : Ext s s') : Ext s' s := ⟨h.nt.symm, fun i => (h.get i).symm, fun i => (h.box i).symm, fun i => (h.row i).symm, fun i => (h.olds i).symm⟩
theorem Ext.trans {s s' s'' : St} (h : Ext s s') (k : Ext s' s'') : Ext s s'' := ⟨h.nt.trans k.nt, fun i => (h.get i).trans (k.get i), fun i => (h.box i).trans (k.box i), fun i => (h.row i).trans (k.row i), fun i => (h.olds i).trans (k.olds i)⟩

theorem Ext.cold {s s' : St} (h : Ext s s') (r : Nat) : s.row r = s'.row r := by
  have := h.row r
  simp only [St.rowv] at this
  simp only [St.row, coldOf, this]

theorem Carry.ext {σ : Sg} {rows rows' : List (Nat × RowV)} {M : Mem} (hr : ∀ r, look r rows = look r rows') : Carry σ rows M σ rows' M (fun _ => True) (fun _ _ => True) :=
  ⟨Mem.le_refl M, fun r _ hs => ⟨by rw [hr]; exact hs, rfl⟩, fun r ver rv' _ _ hl hv => ⟨rv', by rw [hr]; exact hl, hv, Mem.le_refl _, .inl rfl⟩⟩

theorem Sim.ext {s s' : St} (h : Ext s s') (hS : Sim P base M0 ios σ M w a s) : Sim P base M0 ios σ M w a s' := by
  have hr : ∀ r, look r s.rows = look r s'.rows := h.row
  have hh : ∀ r, isHot r s'.rows → isHot r s.rows := fun r ⟨e, t, l, ver, hole, z, hl⟩ => ⟨e, t, l, ver, hole, z, by rw [hr]; exact hl⟩
  exact {
    mem := hS.mem
    nt := hS.nt.trans h.nt
    slots := fun i => by
      rw [← h.get i]
      exact RepSv.carry (boxes := s.boxes) (Carry.ext hr) (hS.slots i) (okS_true _) (fun k _ => ⟨rfl, fun hk => by have := h.box k; simp only [St.box] at this; rw [← this]; exact hk⟩)
    boxes := fun k cs hk => by
      rw [← h.box k] at hk
      obtain ⟨arr, E, h1, h2⟩ := hS.boxes k cs hk
      exact ⟨arr, E, h1, carryC (Carry.ext hr) h2 (fun c _ => okC_true c)⟩
    boxM := fun k hk => hS.boxM k (by rw [h.box k]; exact hk)
    boxInj := fun k k' h1 h2 => hS.boxInj k k' (by rw [h.box k]; exact h1) (by rw [h.box k']; exact h2)
    boxBase := fun k hk => hS.boxBase k (by rw [h.box k]; exact hk)
    rows := fun r e he => hS.rows r e (by rw [h.cold r]; exact he)
    rowBox := fun r k h1 h2 => hS.rowBox r k (by rw [h.cold r]; exact h1) (by rw [h.box k]; exact h2)
    rowInj := fun r r' h1 h2 => hS.rowInj r r' (by rw [h.cold r]; exact h1) (by rw [h.cold r']; exact h2)
    hot := hS.hot.keep (Nat.le_refl _) (Mem.le_refl M) (fun r rv v hl _ => ⟨by rw [hr]; exact hl, rfl, rfl, rfl⟩) (fun _ _ _ _ => rfl) (fun r h1 => hS.hot.noM r (hh r h1)) (fun r h1 k hk => hS.hot.noBox r (hh r h1) k (by rw [h.box k]; exact hk)) (fun r h1 r' h2 => hS.hot.noRow r (hh r h1) r' (by rw [h.cold r']; exact h2))
    fr := hS.fr
    defers := hS.defers
    old := hS.old
    le := hS.le
    pin := hS.pin
    pins := fun p hp hs => hS.pins p hp (by rw [hr]; exact hs)
    olds := fun i hi => by rw [← h.get i]; exact hS.olds i ((h.olds i).2 hi) }

/-! ### Blocks -/

theorem foots_append (σ : Sg) (a b : List Nat) : foots σ (a ++ b) = foots σ a ++ foots σ b := by simp [foots]

theorem handed_blks {rows : List (Nat × RowV)} {cs : List CellV} : ∀ {own : List (Nat × TypeId)} {ks : List Nat}, handed rows cs own = some ks → blks own (footAt σ cs) = foots σ ks
  | [], ks, h => by simp only [handed, Option.some.injEq] at h; subst h; rfl
  | (j, e) :: own, ks, h => by
    simp only [handed] at h
    have hb : blks ((j, e) :: own) (footAt σ cs) = footAt σ cs j ++ blks own (footAt σ cs) := rfl
    rw [hb]
    split at h
    · rename_i t r ks' hc hk
      split at h
      · split at h
        · cases h
          rw [handed_blks hk]
          simp only [footAt, hc]; rfl
        · cases h
      · cases h
    · rename_i t ks' hc hk
      cases h
      rw [handed_blks hk]
      simp only [footAt, hc]; rfl
    · rename_i t ks' hc hk
      cases h
      rw [handed_blks hk]
      simp only [footAt, hc]; rfl
    · cases h

theorem back_blks {cs : List CellV} : ∀ (own : List (Nat × TypeId)), blks own (footAt σ cs) = foots σ (backKeys cs own)
  | [] => rfl
  | (j, e) :: own => by
    have hb : blks ((j, e) :: own) (footAt σ cs) = footAt σ cs j ++ blks own (footAt σ cs) := rfl
    rw [hb, back_blks own]
    simp only [backKeys, footAt]
    split
    · rename_i t r hc; simp only [hc]; rfl
    · rename_i hn
      cases hc : cs[j]? with
      | none => rfl
      | some c => cases c <;> first | rfl | (rename_i t r; exact absurd hc (hn t r))

theorem blks_append (a b : List (Nat × TypeId)) (F : Nat → List Nat) : blks (a ++ b) F = blks a F ++ blks b F := by simp [blks]

theorem look_rows_of {ins : List In} {vals : List Value} (h : All2 (fun v i => RepIn σ st M v i) vals ins) : ∀ r rv, look r (ins.flatMap (·.rows)) = some rv → look r st.rows = some rv := by
  induction h with
  | nil => intro r rv hl; cases hl
  | cons hx _ ih =>
    intro r rv hl
    rw [List.flatMap_cons, look_app] at hl
    split at hl
    · rename_i x he; cases hl; exact hx.rows r _ he
    · exact ih r rv hl

/-! ### Rows that come back -/

def backFo (cs : List CellV) (FB : Nat → List Nat) : List (Nat × TypeId) → List (Nat × List Nat)
  | [] => []
  | (j, _) :: l => match cs[j]? with
    | some (.own _ r) => (r, FB j) :: backFo cs FB l
    | _ => backFo cs FB l

theorem backRows_spec {rows : List (Nat × RowV)} {cs : List CellV} {FB : Nat → List Nat} : ∀ {own : List (Nat × TypeId)} {bs : List CellV} {br : List (Nat × RowV)}, backRows rows cs own bs = some br →
    (∀ r rv, look r br = some rv → ∃ (k j : Nat) (e : TypeId) (t0 : Ty) (e0 : TypeId) (t' : Ty) (l' : List (El t')) (ver : Nat) (x : List (El t')) (z : Bool) (tag : Option Nat), own[k]? = some (j, e) ∧ cs[j]? = some (.own t0 r) ∧ bs[k]? = some (.lst t' l' tag) ∧ look r rows = some (.hot e0 t' x ver none z) ∧ rv = .hot e0 t' l' (ver + 1) none false ∧ look r (backFo cs FB own) = some (FB j)) ∧
    (∀ r, (look r br).isSome = (look r (backFo cs FB own)).isSome) ∧ ∀ r, r ∈ backKeys cs own → (look r br).isSome = true
  | [], [], br, h => by simp only [backRows, Option.some.injEq] at h; subst h; exact ⟨fun r rv hl => by (cases hl), fun r => rfl, fun r hr => by (cases hr)⟩
  | [], _ :: _, br, h => by simp [backRows] at h
  | _ :: _, [], br, h => by simp [backRows] at h
  | (j, e) :: own, b :: bs, br, h => by
    cases b with
    | lst t' l' tag =>
      simp only [backRows] at h
      split at h
      · rename_i t0 r0 ks hc hk
        split at h
        · rename_i e0 t1 x ver z hl
          split at h
          · rename_i ht
            subst ht
            cases h
            obtain ⟨k1, k2, k3⟩ := backRows_spec (FB := FB) hk
            refine ⟨fun r rv hr => ?_, fun r => ?_, fun r hr => ?_⟩
            · simp only [look_cons] at hr
              split at hr
              · rename_i e1; subst e1; cases hr
                exact ⟨0, j, e, t0, e0, _, l', ver, x, z, tag, rfl, hc, rfl, hl, rfl, by simp [backFo, hc, look_cons]⟩
              · rename_i e1
                obtain ⟨k, j', e', t0', e0', t2, l2, ver2, x2, z2, tag2, m1, m2, m3, m4, m5, m6⟩ := k1 r rv hr
                exact ⟨k + 1, j', e', t0', e0', t2, l2, ver2, x2, z2, tag2, by simpa using m1, m2, by simpa using m3, m4, m5, by simp only [backFo, hc, look_cons, if_neg e1]; exact m6⟩
            · simp only [backFo, hc, look_cons]
              split
              · rfl
              · exact k2 r
            · simp only [backKeys, hc, List.mem_cons] at hr
              simp only [look_cons]
              split
              · rfl
              · rename_i e1
                rcases hr with e2 | hr
                · exact absurd e2.symm e1
                · exact k3 r hr
          · cases h
        · cases h
      · rename_i t ks hc hk
        cases h
        obtain ⟨k1, k2, k3⟩ := backRows_spec (FB := FB) hk
        refine ⟨fun r rv hr => ?_, fun r => ?_, fun r hr => ?_⟩
        · obtain ⟨k, j', e', t0', e0', t2, l2, ver2, x2, z2, tag2, m1, m2, m3, m4, m5, m6⟩ := k1 r rv hr
          exact ⟨k + 1, j', e', t0', e0', t2, l2, ver2, x2, z2, tag2, by simpa using m1, m2, by simpa using m3, m4, m5, by simp only [backFo, hc]; exact m6⟩
        · simp only [backFo, hc]; exact k2 r
        · simp only [backKeys, hc] at hr; exact k3 r hr
      · rename_i t ks hc hk
        cases h
        obtain ⟨k1, k2, k3⟩ := backRows_spec (FB := FB) hk
        refine ⟨fun r rv hr => ?_, fun r => ?_, fun r hr => ?_⟩
        · obtain ⟨k, j', e', t0', e0', t2, l2, ver2, x2, z2, tag2, m1, m2, m3, m4, m5, m6⟩ := k1 r rv hr
          exact ⟨k + 1, j', e', t0', e0', t2, l2, ver2, x2, z2, tag2, by simpa using m1, m2, by simpa using m3, m4, m5, by simp only [backFo, hc]; exact m6⟩
        · simp only [backFo, hc]; exact k2 r
        · simp only [backKeys, hc] at hr; exact k3 r hr
      · cases h
    | _ => simp [backRows] at h

theorem backFo_mem {cs : List CellV} {FB : Nat → List Nat} {r : Nat} {fo : List Nat} : ∀ {own : List (Nat × TypeId)}, look r (backFo cs FB own) = some fo → ∃ j e, (j, e) ∈ own ∧ fo = FB j ∧ ∃ t, cs[j]? = some (.own t r)
  | [], h => by cases h
  | (j, e) :: own, h => by
    simp only [backFo] at h
    split at h
    · rename_i t r0 hc
      rw [look_cons] at h
      split at h
      · rename_i e1; subst e1; cases h; exact ⟨j, e, by simp, rfl, t, hc⟩
      · obtain ⟨j', e', h1, h2, h3⟩ := backFo_mem h; exact ⟨j', e', List.mem_cons_of_mem _ h1, h2, h3⟩
    · obtain ⟨j', e', h1, h2, h3⟩ := backFo_mem h; exact ⟨j', e', List.mem_cons_of_mem _ h1, h2, h3⟩

theorem OwnIn.one {M : Mem} {own : List (Nat × TypeId)} {vs : List Value} {cs : List CellV} {F : Nat → List Nat} (h : OwnIn w M own vs cs F) : ∀ u ∈ vs, u.oneCell' = true := fun u hu => by
  obtain ⟨j, hj⟩ := List.getElem?_of_mem hu
  have hlt : j < cs.length := by rw [← h.len]; exact (List.getElem?_eq_some_iff.1 hj).1
  cases hl : look j own with
  | none => exact RdV.oneCell (h.rd j u _ hl hj (List.getElem?_eq_getElem hlt))
  | some e =>
    obtain ⟨u', t, l, h1, _, h3⟩ := h.own j e hl
    rw [hj] at h1; cases h1
    obtain ⟨ad, cap, e1, _⟩ := h3.slice
    rw [e1]; rfl

end Go.Proofs.Ytcbehcpmojnnfaa.Bv
