/- What a function's end shows is what its contract says. -/
import Derived.Test.YtcbehcpmojnnfaaWF1
namespace Go.Proofs.Ytcbehcpmojnnfaa.Bv
set_option linter.unusedVariables false
set_option linter.unusedSimpArgs false

variable {P : Program} {base : World} {M0 : Mem} {ios : Ios} {σ : Sg} {M : Mem} {w w' : World} {a : Act} {st : St} {tab : Tab} {Γ : Gam}

theorem resCells_frz {fz : List (Nat × RowV)} : ∀ (rs : List ResultVar) (tys : List TypeId), resCells tab (frzSt fz st) rs tys = resCells tab st rs tys
  | [], [] => rfl
  | [], _ :: _ => rfl
  | .tmp t :: rs, [] => rfl
  | .cell ad ty :: rs, [] => rfl
  | .tmp t :: rs, ty :: tys => by
    simp only [resCells, resCells_frz rs tys]
    rfl
  | .cell ad ty :: rs, t :: tys => by
    simp only [resCells, resCells_frz rs tys]
    rfl

theorem fin_ret (hT : TabOk P tab) {con : Con} {fn : Func} {tys : List TypeId} {i : El con.I} {x : El con.A} {acs : List Value} (hpins : ∀ j e, (j, e) ∈ con.backA → ∃ u, acs[j]? = some u ∧ (keyA j, u) ∈ ios.rows)
    (hio : con.io = ios.box.isSome) (hnew : con.newR = false) (hR : elemB tab con.fresh (flat con.R (dfl con.R)) = true) (hI : elemB tab con.ownI (flat con.I (dfl con.I)) = true)
    (hS : Sim P base M0 ios σ M w' a st) (hK : finK tab con fn.results.toList tys i x st) : a.defers = [] ∧ ∃ v, (results fn a.tmps).run P w' = .ok v w' ∧ Ret P con base M0 ios.blk ios.box acs i x (.returned v) w' := by
  refine ⟨hS.defers, ?_⟩
  unfold finK at hK
  split at hK
  case h_2 => exact hK.elim
  rename_i l bc hl hbc
  simp only at hK
  have hmem : ∀ p ∈ frzRows st.rows (hotKeys st.rows (borrowed (restC con.fresh 0 (cellsOf l)) ++ borrowed (restC con.ownI 0 bc))), ∃ e t l ver z, p.2 = .frz e t l ver z ∧ look p.1 st.rows = some (.hot e t l ver none z) := fun p hp => frz_mem hp
  generalize frzRows st.rows (hotKeys st.rows (borrowed (restC con.fresh 0 (cellsOf l)) ++ borrowed (restC con.ownI 0 bc))) = fz at hK hmem
  split at hK
  case h_2 => exact hK.elim
  rename_i cv ks iv iks bv e1 e2 e3 e4 e5
  split at hK
  case h_2 => exact hK.elim
  rename_i r i' b' u1 u2 u3
  split at hK
  case h_2 => exact hK.elim
  rename_i hc
  simp only [Bool.and_eq_true, List.isEmpty_iff] at hc
  obtain ⟨⟨⟨⟨c1, c2⟩, c3⟩, c4⟩, c5⟩ := hc
  obtain ⟨M2, hS2⟩ := hS.freezes hmem (nodup_of c2)
  obtain ⟨vs, hv1, hv2⟩ := res_run (st := frzSt fz st) hT hS2 _ _ _ ((resCells_frz _ _).trans hl)
  refine ⟨retVal vs, ?_, ?_⟩
  · rw [results_eq]
    simp only [Sem.run_bind, hv1, Result.andThen_ok, Sem.run_pure]
  have hrows : ∀ r rv, look r (fz ++ st.rows) = some rv → look r (frzSt fz st).rows = some rv := fun _ _ h => h
  have hrd := resCs_rep hS2 hrows hv2.flatten
  -- the rows that are handed out
  have hB := backVals_spec e5
  have hhot : ∀ r ∈ ks ++ (iks ++ backK con), isHot r (frzSt fz st).rows := fun r hr => by
    rcases List.mem_append.1 hr with h | h
    · obtain ⟨e, t, l, ver, z, hl⟩ := handed_hot e2 r h; exact ⟨_, _, _, _, _, _, hl⟩
    · rcases List.mem_append.1 h with h | h
      · obtain ⟨e, t, l, ver, z, hl⟩ := handed_hot e4 r h; exact ⟨_, _, _, _, _, _, hl⟩
      · obtain ⟨p, hp, rfl⟩ := List.mem_map.1 h
        obtain ⟨j, e⟩ := p
        obtain ⟨k, hk⟩ := List.getElem?_of_mem hp
        obtain ⟨e0, t, l, ver, z, _, q⟩ := hB.2.2 k j e hk
        exact ⟨_, _, _, _, _, _, q⟩
  have hnd := foots_nodup hS2 (nodup_of c3) hhot
  rw [foots_append, foots_append] at hnd
  have hcvR := unflat_eq e1 u1
  have hivI := unflat_eq e3 u2
  have hbvB : bv = flat con.B b' := by
    have := unflat_flat _ _ _ _ u3
    rw [hB.2.1] at this; simpa using this
  obtain ⟨a1, _⟩ := handed_spec e2
  obtain ⟨b1, _⟩ := handed_spec e4
  have hblk : ∀ g, (∃ r ∈ ks ++ (iks ++ backK con), g ∈ σ.foot r) → (base.heap.size ≤ g ∨ (g ∈ ios.blk ∧ ios.box ≠ some g)) ∧ g < w'.heap.size ∧ ∀ ad, ad.block = g → M2 ad = none := fun g ⟨r, hr, hg⟩ => by
    have hh := hhot r hr
    refine ⟨?_, hS2.hot.lt r hh g hg, hS2.hot.noM r hh g hg⟩
    rcases hS2.hot.base r hh g hg with h | h
    · exact .inl h
    · by_cases hb : ios.box = some g
      · -- the variable's block is in no row
        have hbx : (frzSt fz st).box 0 = some bc := by
          have : con.io = true := by rw [hio, hb]; rfl
          unfold ioCells at hbc
          rw [this] at hbc
          exact hbc
        have := hS2.hot.noBox r hh 0 (by rw [hbx]; rfl)
        rw [hS2.pin g hb] at this
        exact absurd hg this
      · exact .inr ⟨h, hb⟩
  refine ⟨vs, (r, (i', b')), vs.flatMap fun v => v.cells.toList, M2, footAt σ (resCs (fz ++ st.rows) (cellsOf l)), footAt σ (resCs (fz ++ st.rows) bc), fun j => σ.foot (keyA j), [], rfl, hK, hS2.le, hS2.mem, hS2.fr, hS2.old, ?_, ?_, ?_, ?_, elemsOk_of hT hR _, elemsOk_of hT hI _, ?_, ?_⟩
  · rw [hnew]
    exact ⟨rfl, resRep_of hv2 c1⟩
  · rw [← hcvR]
    exact ownIn_of hS2 (Mem.le_refl _) hrows hrd e1 (fun j e hm => by obtain ⟨c, y, k1, k2, _⟩ := a1 j e hm; exact ⟨c, y, k1, k2⟩) (fun r hb => by rw [c4] at hb; cases hb)
  · intro g hg
    have hio' : con.io = true := by rw [hio, hg]; rfl
    have hbx : (frzSt fz st).box 0 = some bc := by
      unfold ioCells at hbc
      rw [hio'] at hbc
      exact hbc
    obtain ⟨arr, E, h1, h2⟩ := hS2.boxes 0 bc hbx
    rw [hS2.pin g hg] at h1
    refine ⟨arr, E, h1, ?_, fun ad had => hS2.boxM 0 (by rw [hbx]; rfl) ad (by rw [had, hS2.pin g hg])⟩
    rw [← hivI]
    exact ownIn_of hS2 (Mem.le_refl _) hrows (resCs_rep hS2 hrows h2) e3 (fun j e hm => by obtain ⟨c, y, k1, k2, _⟩ := b1 j e hm; exact ⟨c, y, k1, k2⟩) (fun r hb => by rw [c5] at hb; cases hb)
  · refine ⟨by rw [← hbvB]; exact hB.1, fun k j e hk => ?_⟩
    obtain ⟨e0, t, x', ver, z, q1, q2⟩ := hB.2.2 k j e hk
    obtain ⟨u, hu, hp⟩ := hpins j e (List.mem_of_getElem? hk)
    have hrow : σ.row (keyA j) = u := hS2.pins (keyA j, u) hp (by show (look (keyA j) (fz ++ st.rows)).isSome = true; rw [q2]; rfl)
    refine ⟨u, t, x', hu, by rw [← hbvB]; exact q1, ?_⟩
    rw [← hrow]
    exact (hS2.hotAt q2).own
  · rw [handed_blks e2]
    have hbk : blks con.backA (fun j => σ.foot (keyA j)) = foots σ (backK con) := blks_keys keyA
    rw [hbk]
    cases hb : ios.box with
    | none =>
      have h2 : (foots σ ks ++ foots σ (backK con)).Nodup := hnd.sublist (List.Sublist.append_left (List.sublist_append_right _ _) _)
      simpa using h2
    | some g =>
      show ([] ++ (foots σ ks ++ (blks con.ownI (footAt σ (resCs (fz ++ st.rows) bc)) ++ foots σ (backK con)))).Nodup
      rw [handed_blks e4]
      simpa using hnd
  · intro g hg
    refine hblk g ?_
    rw [handed_blks e2] at hg
    have hbk : blks con.backA (fun j => σ.foot (keyA j)) = foots σ (backK con) := blks_keys keyA
    rw [hbk] at hg
    have hg2 : g ∈ foots σ (ks ++ (iks ++ backK con)) := by
      rw [foots_append, foots_append]
      simp only [List.nil_append] at hg
      rcases List.mem_append.1 hg with h | h
      · exact List.mem_append.2 (.inl h)
      · refine List.mem_append.2 (.inr ?_)
        rcases List.mem_append.1 h with h | h
        · cases hb : ios.box with
          | none => rw [hb] at h; cases h
          | some g' =>
            rw [hb] at h
            have h' : g ∈ blks con.ownI (footAt σ (resCs (fz ++ st.rows) bc)) := h
            rw [handed_blks e4] at h'
            exact List.mem_append.2 (.inl h')
        · exact List.mem_append.2 (.inr h)
    obtain ⟨r, hr, hg3⟩ := mem_foots hg2
    exact ⟨r, hr, hg3⟩

end Go.Proofs.Ytcbehcpmojnnfaa.Bv
