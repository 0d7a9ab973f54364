/- A call by its contract: what it leaves of the state. -/
import Derived.Test.YtcbehcpmojnnfaaWC7
namespace Go.Proofs.Ytcbehcpmojnnfaa.Bv
set_option linter.unusedVariables false
set_option linter.unusedSimpArgs false

variable {P : Program} {base : World} {M0 : Mem} {ios : Ios} {σ : Sg} {M : Mem} {w : World} {a : Act} {st : St} {tab : Tab} {o : Oper} {next : Act → World → Prop} {Q : Exit → Act → World → Prop}
variable {k : Option Nat} {ks iks bks : List Nat}

theorem mem_none {A B : Mem} (h : A.le B) {ad : Addr} (hb : B ad = none) : A ad = none := by
  cases ha : A ad with
  | none => rfl
  | some v => have := h ad v ha; rw [hb] at this; cases this

theorem after_step {rows : List (Nat × RowV)} {cs : List CellV} {acs : List Value} {own : List (Nat × TypeId)} {bs : List CellV} {br : List (Nat × RowV)} {FB : Nat → List Nat} {w' : World} {M' M2 : Mem} (hS : Sim P base M0 ios σ M w a st)
    (hr : ∀ r rv, look r rows = some rv → look r st.rows = some rv) (hH : HandS σ st k ks iks (backKeys cs own)) (hacs : All2 (RdT σ st.rows M) acs cs)
    (hle : M.le M2) (hle' : M2.le M') (hmem : ∀ ad v, M' ad = some v → w'.cell? ad = some v) (hold : ∀ ad, ad.block < w.heap.size → ad.block ∉ hBlk σ k ks iks (backKeys cs own) → M ad = none → M2 ad = none)
    (hfr : Fr (hBlk σ k ks iks (backKeys cs own)) w w') (hbx : ∀ b, k = some b → (∃ arr E, w'.heap[σ.box b]? = some (.cells arr E (0, 0)) ∧ ∀ u ∈ arr.toList, u.oneCell' = true) ∧ ∀ ad, ad.block = σ.box b → M' ad = none)
    (hback : Back w' own acs bs FB) (hbr : backRows rows cs own bs = some br) (hnd : (blks own FB).Nodup)
    (hall : ∀ g ∈ blks own FB, (w.heap.size ≤ g ∨ (g ∈ hBlk σ k ks iks (backKeys cs own) ∧ k.map σ.box ≠ some g)) ∧ g < w'.heap.size ∧ ∀ ad, ad.block = g → M' ad = none) :
    ∃ σ2, StepC P base σ σ2 M M2 w w' st br (ks ++ iks) (foots σ (ks ++ (iks ++ backKeys cs own))) k ∧ ∀ r, (look r br).isSome = true → ∃ j e, (j, e) ∈ own ∧ σ2.foot r = FB j := by
  obtain ⟨s1, s2, s3⟩ := backRows_spec (FB := FB) hbr
  obtain ⟨f1, f2⟩ := blks_spec hnd
  have hinv : ∀ g, g ∈ hBlk σ k ks iks (backKeys cs own) → k.map σ.box ≠ some g → ∃ r ∈ ks ++ (iks ++ backKeys cs own), g ∈ σ.foot r := fun g hg hne => by
    rcases hH.mem.1 hg with ⟨b, hb, e⟩ | h
    · rw [hb, e] at hne; exact absurd rfl hne
    · exact h
  have hback3 : ∀ r, r ∈ ks ++ (iks ++ backKeys cs own) → r ∈ ks ++ iks ∨ (look r br).isSome = true := fun r hrm => by
    rw [← List.append_assoc] at hrm
    rcases List.mem_append.1 hrm with h | h
    · exact .inl h
    · exact .inr (s3 r h)
  have hbk : ∀ r, (look r br).isSome = true → ∃ j e, (j, e) ∈ own ∧ look r (backFo cs FB own) = some (FB j) ∧ ∃ t, cs[j]? = some (.own t r) := fun r hrs => by
    obtain ⟨rv, hrv⟩ := Option.isSome_iff_exists.1 hrs
    obtain ⟨i, j, e, t0, e0, t', l', ver, x, z, tag, m1, m2, m3, m4, m5, m6⟩ := s1 r rv hrv
    exact ⟨j, e, List.mem_of_getElem? m1, m6, t0, m2⟩
  have hbkk : ∀ r, (look r br).isSome = true → r ∈ backKeys cs own := fun r hrs => by
    obtain ⟨j, e, m1, _, t, m2⟩ := hbk r hrs
    have gen : ∀ (own : List (Nat × TypeId)), (j, e) ∈ own → r ∈ backKeys cs own := fun own => by
      induction own with
      | nil => intro h; cases h
      | cons q own ih =>
        intro h
        obtain ⟨j', e'⟩ := q
        rcases List.mem_cons.1 h with e1 | h
        · cases e1; simp [backKeys, m2]
        · simp only [backKeys]
          split
          · exact List.mem_cons_of_mem _ (ih h)
          · exact ih h
    exact gen own m1
  let σ2 : Sg := { σ with foot := fun r => match look r (backFo cs FB own) with | some fo => fo | none => σ.foot r, mem := fun r => match look r br with | some (.hot _ t _ _ _ _) => memTop w' t (σ.row r) (match look r (backFo cs FB own) with | some fo => fo | none => σ.foot r) | _ => σ.mem r }
  have hfoot : ∀ r fo, look r (backFo cs FB own) = some fo → σ2.foot r = fo := fun r fo h => by show (match look r (backFo cs FB own) with | some fo => fo | none => σ.foot r) = fo; rw [h]
  refine ⟨σ2, {
    le := hle
    mem := fun ad v hv => hmem ad v (hle' ad v hv)
    sbox := rfl
    srow := rfl
    sfoot := fun r hrn => by
      have h1 : look r (backFo cs FB own) = none := by
        have := s2 r; rw [hrn] at this
        cases hx : look r (backFo cs FB own) with
        | none => rfl
        | some y => rw [hx] at this; cases this
      exact ⟨by show (match look r (backFo cs FB own) with | some fo => fo | none => σ.foot r) = _; rw [h1], by show (match look r br with | some (.hot _ t _ _ _ _) => _ | _ => σ.mem r) = _; rw [hrn]⟩
    size := hfr.size
    os := hfr.os
    tape := hfr.tape
    output := hfr.output
    keep := fun g hg hn hb => hfr.block g hg fun hm => by
      rcases hH.mem.1 hm with ⟨b, hb', e⟩ | ⟨r, hr1, hr2⟩
      · exact hb b hb' e
      · exact hn (foots_mem hr1 hr2)
    hold := fun ad h1 h2 h3 => by
      by_cases hm : ad.block ∈ hBlk σ k ks iks (backKeys cs own)
      · rcases hH.mem.1 hm with ⟨b, hb', e⟩ | ⟨r, hr1, hr2⟩
        · exact mem_none hle' ((hbx b hb').2 ad e)
        · exact absurd (foots_mem hr1 hr2) h2
      · exact hold ad h1 hm h3
    touched := fun g hg => by
      obtain ⟨r, h1, h2⟩ := mem_foots hg
      exact ⟨r, hH.hot r h1, h2, hback3 r h1⟩
    bx := fun b hb => ⟨hH.box b hb, (hbx b hb).1⟩
    updOk := fun r rv hrv => by
      have hrs : (look r br).isSome = true := by rw [hrv]; rfl
      obtain ⟨i, j, e, t0, e0, t', l', ver, x, z, tag, m1, m2, m3, m4, m5, m6⟩ := s1 r rv hrv
      have hkb := hbkk r hrs
      have hh := hH.hot r (by simp [hkb])
      refine ⟨fun hm => ?_, hh, e0, t', l', ver + 1, none, false, m5, ?_⟩
      · have := hH.nodup
        rw [← List.append_assoc, List.nodup_append] at this
        exact this.2.2 r hm r hkb rfl
      · have m4' := hr r _ m4
        have hok := hS.hotAt m4'
        obtain ⟨u, t, l, q1, q2, q3⟩ := hback.own i j e m1
        rw [m3] at q2; cases q2
        obtain ⟨u', hu', hrd⟩ := hacs.get m2
        rw [q1] at hu'; cases hu'
        have hu : u = σ.row r := hrd.2 (by rw [m4']; rfl)
        subst hu
        have hm2 : σ2.mem r = memTop w' t' (σ.row r) (FB j) := by
          show (match look r br with | some (.hot _ t _ _ _ _) => _ | _ => σ.mem r) = _
          rw [hrv, m5]; simp only [m6]
        have hf2 : σ2.foot r = FB j := hfoot r _ m6
        exact {
          info := hok.info
          pos := hok.pos
          own := by show OwnL w' t' (σ.row r) l' (σ2.foot r); rw [hf2]; exact q3
          nodup := by rw [hf2]; exact f1 (j, e) (List.mem_of_getElem? m1)
          mem := fun ad u hu => by rw [hm2] at hu; rw [hf2]; exact memTop_some hu
          full := fun _ ad u h1 h2 h3 => by rw [hf2] at h1; rw [hm2, memTop_in h1 h2]; exact h3
          z := fun h => by cases h }
    foot := fun r hrs g hg => by
      obtain ⟨j, e, m1, m2, _⟩ := hbk r hrs
      rw [hfoot r _ m2] at hg
      obtain ⟨q1, q2, q3⟩ := hall g (mem_blks.2 ⟨(j, e), m1, hg⟩)
      refine ⟨q2, fun ad had => mem_none hle' (q3 ad had), ?_⟩
      rcases q1 with q1 | ⟨q1, q4⟩
      · exact .inl q1
      · obtain ⟨r0, h1, h2⟩ := hinv g q1 q4
        exact .inr ⟨r0, hH.hot r0 h1, h2, hback3 r0 h1⟩
    apart := fun r r' h1 h2 hne g hg hg' => by
      obtain ⟨j, e, m1, m2, t, m3⟩ := hbk r h1
      obtain ⟨j', e', m1', m2', t', m3'⟩ := hbk r' h2
      rw [hfoot r _ m2] at hg
      rw [hfoot r' _ m2'] at hg'
      refine f2 (j, e) m1 (j', e') m1' (fun ej => ?_) g hg hg'
      have ej' : j = j' := ej
      subst ej'
      rw [m3] at m3'; cases m3'; exact hne rfl }, fun r hrs => ?_⟩
  obtain ⟨j, e, m1, m2, _⟩ := hbk r hrs
  exact ⟨j, e, m1, hfoot r _ m2⟩

/-- Nobody bears a key that nobody bore. -/
theorem noTag_after {r : Nat} {w' : World} {upd : List (Nat × RowV)} {ks' : List Nat} (h : noTag r st = true) (hu : ∀ r, (look r upd).isSome = true → (look r st.rows).isSome = true) : noTag r { st with rows := stepRows upd ks' st.rows, boxes := unkBoxes w' σ k st.boxes } = true := by
  have h0 := look_noTag h
  unfold noTag at h ⊢
  rw [Bool.and_eq_true, Bool.and_eq_true] at h ⊢
  refine ⟨⟨h.1.1, ?_⟩, ?_⟩
  · cases k with
    | none => exact h.1.2
    | some b =>
      simp only [unkBoxes, noTagBoxes, Bool.and_eq_true]
      refine ⟨?_, h.1.2⟩
      unfold noTagC
      have : ∀ n, keysC (undCs n) = [] := fun n => by
        unfold undCs
        induction n with
        | zero => rfl
        | succ n ih => rw [List.replicate_succ]; exact ih
      rw [this]; rfl
  · have : look r (stepRows upd ks' st.rows) = none := by
      cases hl : look r (stepRows upd ks' st.rows) with
      | none => rfl
      | some rv =>
        rcases (step_nil_mem hl).2 with h1 | ⟨_, h1⟩
        · have := hu r (by rw [h1]; rfl); rw [h0] at this; cases this
        · rw [h0] at h1; cases h1
    simp [this]

end Go.Proofs.Ytcbehcpmojnnfaa.Bv
