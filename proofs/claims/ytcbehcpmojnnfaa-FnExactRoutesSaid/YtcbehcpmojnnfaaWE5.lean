/- One operation in its place; operations in order. -/
import Derived.Test.YtcbehcpmojnnfaaWE4
namespace Go.Proofs.Ytcbehcpmojnnfaa.Bv
set_option linter.unusedVariables false
set_option linter.unusedSimpArgs false

variable {P : Program} {base : World} {M0 : Mem} {ios : Ios} {σ : Sg} {M : Mem} {w : World} {a : Act} {st : St} {tab : Tab} {Γ : Gam} {o : Oper} {next : Act → World → Prop} {Q : Exit → Act → World → Prop}

theorem frz_mem {rows : List (Nat × RowV)} : ∀ {ks : List Nat} {p : Nat × RowV}, p ∈ frzRows rows ks → ∃ e t l ver z, p.2 = .frz e t l ver z ∧ look p.1 rows = some (.hot e t l ver none z)
  | [], p, h => by cases h
  | k :: ks, p, h => by
    simp only [frzRows] at h
    split at h
    · rename_i e t x ver z hl
      rcases List.mem_cons.1 h with e1 | h
      · subst e1; exact ⟨e, t, x, ver, z, rfl, hl⟩
      · exact frz_mem h
    · exact frz_mem h

theorem look_none {α : Type} {k : Nat} {l : List (Nat × α)} (h : k ∉ l.map (·.1)) : look k l = none := by
  cases hl : look k l with
  | none => rfl
  | some x => exact absurd (List.mem_map.2 ⟨(k, x), look_mem hl, rfl⟩) h

theorem Sim.freezes (hS : Sim P base M0 ios σ M w a st) : ∀ {fz : List (Nat × RowV)}, (∀ p ∈ fz, ∃ e t l ver z, p.2 = .frz e t l ver z ∧ look p.1 st.rows = some (.hot e t l ver none z)) → (fz.map (·.1)).Nodup → ∃ M', Sim P base M0 ios σ M' w a (frzSt fz st)
  | [], _, _ => ⟨M, hS⟩
  | p :: fz, h, hn => by
    simp only [List.map_cons, List.nodup_cons] at hn
    obtain ⟨M1, h1⟩ := hS.freezes (fun q hq => h q (List.mem_cons_of_mem _ hq)) hn.2
    obtain ⟨e, t, l, ver, z, e1, e2⟩ := h p (by simp)
    obtain ⟨k, rv⟩ := p
    simp only at e1 e2
    subst e1
    refine ⟨_, h1.freeze (r := k) (e := e) (t := t) (l := l) (ver := ver) (z := z) ?_⟩
    show look k (fz ++ st.rows) = _
    rw [look_app, look_none hn.1]
    exact e2

theorem noTag_frz {fz : List (Nat × RowV)} {r : Nat} (hf : ∀ p ∈ fz, (look p.1 st.rows).isSome = true) (h : noTag r st = true) : noTag r (frzSt fz st) = true := by
  have h0 := look_noTag h
  unfold noTag at h ⊢
  rw [Bool.and_eq_true, Bool.and_eq_true] at h ⊢
  refine ⟨h.1, ?_⟩
  have : look r (fz ++ st.rows) = none := by
    rw [look_app]
    cases hl : look r fz with
    | none => exact h0
    | some x =>
      have := hf _ (look_mem hl)
      rw [h0] at this; cases this
  show (!(look r (fz ++ st.rows)).isSome) = true
  rw [this]; rfl

theorem noTags_frz {fz : List (Nat × RowV)} (hf : ∀ p ∈ fz, (look p.1 st.rows).isSome = true) : ∀ {l : List (Nat × RowV)}, noTags st l = true → noTags (frzSt fz st) l = true
  | [], _ => rfl
  | p :: l, h => by
    simp only [noTags, Bool.and_eq_true] at h ⊢
    exact ⟨noTag_frz hf h.1, noTags_frz hf h.2⟩

theorem noVers_frz {fz : List (Nat × RowV)} : ∀ {l : List (Nat × RowV)}, noVers st l = true → noVers (frzSt fz st) l = true
  | [], _ => rfl
  | (r, .hot _ _ _ _ _ _) :: l, h => by
    simp only [noVers, Bool.and_eq_true] at h ⊢
    exact ⟨h.1, noVers_frz h.2⟩
  | (r, .cold _) :: l, h => by simp only [noVers] at h ⊢; exact noVers_frz h
  | (r, .frz _ _ _ _ _) :: l, h => by simp only [noVers] at h ⊢; exact noVers_frz h

theorem fresh_frz {fz : List (Nat × RowV)} {e : Eff} {d : Option Nat} (hf : ∀ p ∈ fz, (look p.1 st.rows).isSome = true) (h : freshEff e d st = true) : freshEff e d (frzSt fz st) = true := by
  unfold freshEff at h ⊢
  simp only [Bool.and_eq_true] at h ⊢
  exact ⟨⟨⟨h.1.1.1, noTags_frz hf h.1.1.2⟩, noVers_frz h.1.2⟩, h.2⟩

theorem apply_frz {fz : List (Nat × RowV)} {e : Eff} {d : Option Nat} : e.apply d (frzSt fz st) = (e.frz fz).apply d st := by
  unfold Eff.apply
  rw [rowsOf_eq, rowsOf_eq]
  simp only [frzSt, Eff.frz, stepRows, List.append_assoc]

theorem allP_split {ps : List Prop} {X : Prop} (h : allP ps X) : (∀ p ∈ ps, p) ∧ X := by
  induction ps with
  | nil => exact ⟨fun p hp => by simp at hp, h⟩
  | cons p ps ih =>
    obtain ⟨h1, h2⟩ := ih h.2
    refine ⟨fun q hq => ?_, h2⟩
    rcases List.mem_cons.1 hq with e | hq
    · subst e; exact h.1
    · exact h1 q hq

theorem vcOpE_sound (hT : TabOk P tab) (hΓ : GamOk P Γ) (hS : Sim P base M0 ios σ M w a st) {K : Eff → Prop} (h : vcOpE tab Γ o st K)
    (hn : ∀ e, K e → ∀ v σ' M' w', Sim P base M0 ios σ' M' w' (a.put o.dst v) (e.apply o.dst st) → next (a.put o.dst v) w') : o.wp P a w next Q := by
  unfold vcOpE at h
  split at h
  · rename_i hd
    have hd' : ∀ d, o.dst = some d → d < st.nt := fun d e2 => by rw [e2] at hd; simpa using hd
    simp only at h
    generalize hfz : frzRows ((o.op.operands.toList.map (inOf st)).flatMap (·.rows)) (needFrz tab Γ o (o.op.operands.toList.map (inOf st))) = fz at h
    have hmem : ∀ p ∈ fz, ∃ e t l ver z, p.2 = .frz e t l ver z ∧ look p.1 st.rows = some (.hot e t l ver none z) := fun p hp => by
      rw [← hfz] at hp
      obtain ⟨e, t, l, ver, z, h1, h2⟩ := frz_mem hp
      exact ⟨e, t, l, ver, z, h1, look_rows_of (ins_rep (M := M) hS _) _ _ h2⟩
    have hsome : ∀ p ∈ fz, (look p.1 st.rows).isSome = true := fun p hp => by obtain ⟨_, _, _, _, _, _, h2⟩ := hmem p hp; rw [h2]; rfl
    split at h
    · rename_i hnd
      obtain ⟨M1, hS1⟩ := hS.freezes hmem (nodup_of hnd)
      have hins : insFz fz o st (o.op.operands.toList.map (inOf st)) = o.op.operands.toList.map (inOf (frzSt fz st)) := by
        unfold insFz
        split
        · rfl
        · rfl
      rw [hins] at h
      have hgo : ∀ e, K (e.frz fz) → Goes P base M0 ios a o (frzSt fz st) e next := fun e hK v σ' M' w' hS' => by
        rw [apply_frz] at hS'
        exact hn _ hK v σ' M' w' hS'
      split at h
      · rename_i con ts xs hc
        refine call_sound (tab := tab) hΓ hS1 hd' hc (K := fun e => K (e.frz fz)) ?_ (fun e he _ => hgo e he)
        unfold vcCall at h ⊢
        split at h
        · rename_i d x h1 h2 h3
          obtain ⟨hpre, hpost⟩ := h
          refine ⟨hpre, fun y hy => ?_⟩
          have h4 := hpost y hy
          split at h4
          · rename_i br hbr
            split at h4
            · rename_i hfr
              simp only [hbr, fresh_frz hsome hfr]
              exact h4
            · exact h4.elim
          · exact h4.elim
        · exact h.elim
      · split at h
        · rename_i ps e he
          split at h
          · rename_i hfr
            obtain ⟨hps, hK⟩ := allP_split h
            exact opEff_sound hT hS1 hd' he hps (fresh_frz hsome hfr) (hgo e hK)
          · exact h.elim
        · exact h.elim
    · exact h.elim
  · exact h.elim

theorem vcOp_sound (hT : TabOk P tab) (hΓ : GamOk P Γ) (hS : Sim P base M0 ios σ M w a st) {K : St → Prop} (h : vcOp tab Γ o st K)
    (hn : ∀ v σ' M' w' st', Sim P base M0 ios σ' M' w' (a.put o.dst v) st' → K st' → next (a.put o.dst v) w') : o.wp P a w next Q :=
  vcOpE_sound hT hΓ hS h fun e he v σ' M' w' hS' => hn v σ' M' w' _ hS' he

theorem Sim.boolAt (hS : Sim P base M0 ios σ M w a st) {d : Nat} {b : Bool} (h : st.get d = .val false [.bool b]) : a.tmps.getD d undef = .bool b := by
  have := hS.slots d
  rw [h] at this
  exact (RepVal.one this).1

theorem get_lit (st : St) (d : Nat) (b : Bool) (i : Nat) : (st.lit d b).get i = if d = i then .val false [.bool b] else st.get i := by
  simp only [St.get, St.lit, look_cons]
  by_cases h : d = i
  · simp [h]
  · simp [h]

theorem Sim.boolAs (hS : Sim P base M0 ios σ M w a st) {d : Nat} {b c : Bool} (h : st.get d = .val false [.bool b]) (hc : b = c) : Sim P base M0 ios σ M w a (st.lit d c) := by
  subst hc
  have hg : ∀ i, (st.lit d b).get i = st.get i := fun i => by
    rw [get_lit]
    split
    · rename_i e; subst e; exact h.symm
    · rfl
  exact { hS with
    slots := fun i => by rw [hg]; exact hS.slots i
    hot := hS.hot.still rfl fun _ h => h
    olds := fun i hi => by rw [hg]; exact hS.olds i hi }

theorem yielded_at {ops : Array Oper} {tmps : Array Value} {j d : Nat} {b : Bool} (hj : guardDst ops.toList j = some d) (h : tmps.getD d undef = .bool b) : yielded ops tmps j = some b := by
  unfold guardDst at hj
  unfold yielded
  rw [← Array.getElem?_toList]
  cases ho : ops.toList[j]? with
  | none => rw [ho] at hj; cases hj
  | some o =>
    rw [ho] at hj
    simp only [Option.bind_some]
    have hj' : o.dst = some d := hj
    rw [hj']
    simp only [Option.bind_some]
    have : tmps[d]? = some (.bool b) := by
      rw [Array.getD_eq_getD_getElem?] at h
      cases ht : tmps[d]? with
      | none => rw [ht] at h; cases h
      | some v => rw [ht] at h; simp at h; rw [h]
    rw [this]

theorem yielded_und {ops : Array Oper} {tmps : Array Value} {j d : Nat} (hj : guardDst ops.toList j = some d) (h : tmps.getD d undef = .tuple #[]) : yielded ops tmps j = none := by
  unfold guardDst at hj
  unfold yielded
  rw [← Array.getElem?_toList]
  cases ho : ops.toList[j]? with
  | none => rfl
  | some o =>
    rw [ho] at hj
    simp only [Option.bind_some]
    have hj' : o.dst = some d := hj
    rw [hj']
    simp only [Option.bind_some]
    rw [Array.getD_eq_getD_getElem?] at h
    cases ht : tmps[d]? with
    | none => rfl
    | some v => rw [ht] at h; simp at h; rw [h]

theorem Sim.skip (hS : Sim P base M0 ios σ M w a st) (hd : ∀ d, o.dst = some d → d < st.nt) : Sim P base M0 ios σ M w (a.put o.dst undef) (skipSt o st) := by
  unfold skipSt
  cases h : o.dst with
  | none => exact hS
  | some d => exact hS.put (hd d h) ⟨#[], rfl, .nil⟩

theorem skip_nt (o : Oper) (st : St) : (skipSt o st).nt = st.nt := by unfold skipSt; cases o.dst <;> rfl

theorem vcOps_sound (hT : TabOk P tab) (hΓ : GamOk P Γ) {ops : Array Oper} {K : St → Prop}
    (hq : ∀ σ' M' w' a' st', Sim P base M0 ios σ' M' w' a' st' → K st' → Q .normal a' w') :
    ∀ (l : List Oper) (st : St) (σ : Sg) (M : Mem) (w : World) (a : Act), (∀ o ∈ l, ∀ d, o.dst = some d → d < st.nt) → Sim P base M0 ios σ M w a st → vcOps tab Γ ops.toList l st K → wpList P ops Q l a w
  | [], st, σ, M, w, a, _, hS, h => hq _ _ _ _ _ hS h
  | o :: rest, st, σ, M, w, a, hd, hS, h => by
    have hd0 : ∀ d, o.dst = some d → d < st.nt := hd o (by simp)
    -- one operation that is done
    have one : ∀ (st2 : St), st2.nt = st.nt → Sim P base M0 ios σ M w a st2 → vcOp tab Γ o st2 (fun st' => vcOps tab Γ ops.toList rest st' K) → o.wp P a w (wpList P ops Q rest) Q := by
      intro st2 hnt hS2 h2
      refine vcOp_sound hT hΓ hS2 h2 fun v σ' M' w' st' hS' hK => ?_
      refine vcOps_sound hT hΓ hq rest st' _ _ _ _ (fun o' ho' d hd' => ?_) hS' hK
      have e1 := hS'.nt
      have e2 := hS.nt
      have e3 : (a.put o.dst v).tmps.size = a.tmps.size := by cases o.dst <;> simp [Act.put]
      rw [← e1, e3, e2]
      exact hd o' (by simp [ho']) d hd'
    have skip : ∀ (st2 : St), st2.nt = st.nt → Sim P base M0 ios σ M w a st2 → vcOps tab Γ ops.toList rest (skipSt o st2) K → wpList P ops Q rest (a.put o.dst undef) w := by
      intro st2 hnt hS2 h2
      refine vcOps_sound hT hΓ hq rest _ _ _ _ _ (fun o' ho' d hd' => ?_) (hS2.skip (o := o) fun d e => by rw [hnt]; exact hd0 d e) h2
      rw [skip_nt, hnt]
      exact hd o' (by simp [ho']) d hd'
    simp only [vcOps] at h
    unfold wpList
    cases hg : o.guard with
    | none =>
      rw [hg] at h
      have hw : Region.wanted o (yielded ops a.tmps) = true := by simp [Region.wanted, hg]
      rw [if_pos hw]
      exact .inl (one st rfl hS h)
    | some g =>
      obtain ⟨j, want⟩ := g
      rw [hg] at h
      simp only at h
      cases hj : guardDst ops.toList j with
      | none => rw [hj] at h; exact h.elim
      | some dj =>
        rw [hj] at h
        simp only at h
        split at h
        · rename_i b hb
          replace h := caseB_to h
          have hy := yielded_at hj (hS.boolAt hb)
          have hw : Region.wanted o (yielded ops a.tmps) = (b == want) := by
            simp only [Region.wanted, hg, hy]
            cases b <;> cases want <;> rfl
          rw [hw]
          cases hbb : b with
          | true =>
            have h1 := h.1 hbb
            have hS1 := hS.boolAs hb hbb
            cases want with
            | true => exact .inl (one (st.lit dj true) rfl hS1 h1)
            | false => exact skip (st.lit dj true) rfl hS1 h1
          | false =>
            have h1 := h.2 hbb
            have hS1 := hS.boolAs hb hbb
            cases want with
            | false => exact .inl (one (st.lit dj false) rfl hS1 h1)
            | true => exact skip (st.lit dj false) rfl hS1 h1
        · rename_i hb
          have hs := hS.slots dj
          rw [hb] at hs
          obtain ⟨vs, hv, h2⟩ := hs
          have hvs : vs = #[] := by
            have : vs.toList = [] := by
              cases hl : vs.toList with
              | nil => rfl
              | cons x l => rw [hl] at h2; cases h2
            simpa using this
          rw [hvs] at hv
          have hw : Region.wanted o (yielded ops a.tmps) = false := by
            simp only [Region.wanted, hg, yielded_und hj hv]
            rfl
          rw [hw]
          exact skip st rfl hS h
        · exact h.elim

end Go.Proofs.Ytcbehcpmojnnfaa.Bv
