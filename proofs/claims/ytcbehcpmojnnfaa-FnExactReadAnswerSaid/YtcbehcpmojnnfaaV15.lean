/- What code comes to, by value; and that it is so. -/
import Derived.Test.YtcbehcpmojnnfaaV14
namespace Go.Proofs.Ytcbehcpmojnnfaa.Bv
set_option linter.unusedVariables false
set_option linter.unusedSimpArgs false

variable {P : Program} {base : World} {M0 : Mem} {ios : List Nat} {σ : Sg} {M : Mem} {w : World} {a : Act} {st : St} {tab : Tab} {Γ : Nat → Option Con} {o : Oper} {next : Act → World → Prop} {Q : Exit → Act → World → Prop}

theorem allP_split {ps : List Prop} {X : Prop} (h : allP ps X) : (∀ p ∈ ps, p) ∧ X := by
  induction ps with
  | nil => exact ⟨fun p hp => by simp at hp, h⟩
  | cons p ps ih =>
    obtain ⟨h1, h2⟩ := ih h.2
    refine ⟨fun q hq => ?_, h2⟩
    rcases List.mem_cons.1 hq with e | hq
    · subst e; exact h.1
    · exact h1 q hq

theorem callInfo_eff {ins : List In} {con : Con} {ts : List TypeId} {xs : List In} (h : callInfo Γ o ins = some (con, ts, xs)) : opEff tab Γ o ins = callEff tab con o ts xs := by
  unfold callInfo at h
  split at h
  · rename_i c f xs' hop
    obtain ⟨callee, cargs, cts⟩ := c
    cases callee with
    | value v =>
      simp only at h
      split at h
      · rename_i n hf
        split at h
        · rename_i con' hg
          cases h
          simp only [opEff, hop, callOp, hf, hg]
        · cases h
      · cases h
    | _ => cases h
  · cases h

theorem vcOpE_spec {K : Eff → Prop} (h : vcOpE tab Γ o st K) : ∃ ps e, (∀ d, o.dst = some d → d < st.nt) ∧ opEff tab Γ o (o.op.operands.toList.map (inOf st)) = some (ps, e) ∧ (∀ p ∈ ps, p) ∧ freshEff e o.dst st = true ∧ K e := by
  unfold vcOpE at h
  split at h
  · rename_i hd
    have hd' : ∀ d, o.dst = some d → d < st.nt := fun d e2 => by rw [e2] at hd; simpa using hd
    split at h
    · rename_i con ts xs hc
      unfold vcCall at h
      split at h
      · rename_i d i x k hdst hp
        split at h
        · rename_i hf
          obtain ⟨hpre, hK⟩ := h
          refine ⟨_, _, hd', (callInfo_eff (tab := tab) hc).trans (callEff_parts hdst hp), fun p hp => by rw [List.mem_singleton.1 hp]; exact hpre, ?_, hK _ rfl⟩
          simp only [freshEff, callRes, Bool.true_and]; exact hf
        · exact h.elim
      · exact h.elim
    · split at h
      · rename_i ps e he
        split at h
        · rename_i hf
          obtain ⟨hps, hK⟩ := allP_split h
          exact ⟨ps, e, hd', he, hps, hf, hK⟩
        · exact h.elim
      · exact h.elim
  · exact h.elim

theorem vcOp_sound (hT : TabOk P tab) (hΓ : GamOk P Γ) (hS : Sim P base M0 ios σ M w a st) {K : St → Prop} (h : vcOp tab Γ o st K)
    (hn : ∀ v σ' M' w' st', Sim P base M0 ios σ' M' w' (a.put o.dst v) st' → K st' → next (a.put o.dst v) w') : o.wp P a w next Q := by
  obtain ⟨ps, e, hd', he, hps, hf, hK⟩ := vcOpE_spec h
  exact opEff_sound hT hΓ hS hd' he hps hf fun v σ' M' w' hS' => hn v σ' M' w' _ hS' hK

theorem Sim.boolAt (hS : Sim P base M0 ios σ M w a st) {d : Nat} {b : Bool} (h : st.get d = .val false [.bool b]) : a.tmps.getD d undef = .bool b := by
  have := hS.slots d
  rw [h] at this
  exact (RepVal.one this).1

theorem Sim.boolAs (hS : Sim P base M0 ios σ M w a st) {d : Nat} {b c : Bool} (h : st.get d = .val false [.bool b]) (hc : b = c) : Sim P base M0 ios σ M w a (st.put d (.val false [.bool c])) := by
  subst hc
  exact { hS with
    slots := fun i => by
      rw [get_put]
      split
      · rename_i e; subst e; rw [← h]; exact hS.slots _
      · exact hS.slots i }

theorem yielded_at {ops : Array Oper} {tmps : Array Value} {j d : Nat} {b : Bool} (hj : guardDst ops.toList j = some d) (h : tmps.getD d undef = .bool b) : yielded ops tmps j = some b := by
  unfold guardDst at hj
  unfold yielded
  rw [← Array.getElem?_toList]
  cases ho : ops.toList[j]? with
  | none => rw [ho] at hj; cases hj
  | some o =>
    rw [ho] at hj
    simp only [Option.bind_some]
    have hj' : o.dst = some d := hj
    rw [hj']
    simp only [Option.bind_some]
    have : tmps[d]? = some (.bool b) := by
      rw [Array.getD_eq_getD_getElem?] at h
      cases ht : tmps[d]? with
      | none => rw [ht] at h; cases h
      | some v => rw [ht] at h; simp at h; rw [h]
    rw [this]

theorem yielded_und {ops : Array Oper} {tmps : Array Value} {j d : Nat} (hj : guardDst ops.toList j = some d) (h : tmps.getD d undef = .tuple #[]) : yielded ops tmps j = none := by
  unfold guardDst at hj
  unfold yielded
  rw [← Array.getElem?_toList]
  cases ho : ops.toList[j]? with
  | none => rfl
  | some o =>
    rw [ho] at hj
    simp only [Option.bind_some]
    have hj' : o.dst = some d := hj
    rw [hj']
    simp only [Option.bind_some]
    rw [Array.getD_eq_getD_getElem?] at h
    cases ht : tmps[d]? with
    | none => rfl
    | some v => rw [ht] at h; simp at h; rw [h]

theorem Sim.skip (hS : Sim P base M0 ios σ M w a st) (hd : ∀ d, o.dst = some d → d < st.nt) : Sim P base M0 ios σ M w (a.put o.dst undef) (skipSt o st) := by
  unfold skipSt
  cases h : o.dst with
  | none => exact hS
  | some d => exact hS.put (hd d h) ⟨#[], rfl, .nil⟩

theorem skip_nt (o : Oper) (st : St) : (skipSt o st).nt = st.nt := by unfold skipSt; cases o.dst <;> rfl

theorem vcOps_sound (hT : TabOk P tab) (hΓ : GamOk P Γ) {ops : Array Oper} {K : St → Prop}
    (hq : ∀ σ' M' w' a' st', Sim P base M0 ios σ' M' w' a' st' → K st' → Q .normal a' w') :
    ∀ (l : List Oper) (st : St) (σ : Sg) (M : Mem) (w : World) (a : Act), (∀ o ∈ l, ∀ d, o.dst = some d → d < st.nt) → Sim P base M0 ios σ M w a st → vcOps tab Γ ops.toList l st K → wpList P ops Q l a w
  | [], st, σ, M, w, a, _, hS, h => hq _ _ _ _ _ hS h
  | o :: rest, st, σ, M, w, a, hd, hS, h => by
    have hd0 : ∀ d, o.dst = some d → d < st.nt := hd o (by simp)
    -- one operation that is done
    have one : ∀ (st2 : St), st2.nt = st.nt → Sim P base M0 ios σ M w a st2 → vcOp tab Γ o st2 (fun st' => vcOps tab Γ ops.toList rest st' K) → o.wp P a w (wpList P ops Q rest) Q := by
      intro st2 hnt hS2 h2
      refine vcOp_sound hT hΓ hS2 h2 fun v σ' M' w' st' hS' hK => ?_
      refine vcOps_sound hT hΓ hq rest st' _ _ _ _ (fun o' ho' d hd' => ?_) hS' hK
      have e1 := hS'.nt
      have e2 := hS.nt
      have e3 : (a.put o.dst v).tmps.size = a.tmps.size := by cases o.dst <;> simp [Act.put]
      rw [← e1, e3, e2]
      exact hd o' (by simp [ho']) d hd'
    have skip : ∀ (st2 : St), st2.nt = st.nt → Sim P base M0 ios σ M w a st2 → vcOps tab Γ ops.toList rest (skipSt o st2) K → wpList P ops Q rest (a.put o.dst undef) w := by
      intro st2 hnt hS2 h2
      refine vcOps_sound hT hΓ hq rest _ _ _ _ _ (fun o' ho' d hd' => ?_) (hS2.skip (o := o) fun d e => by rw [hnt]; exact hd0 d e) h2
      rw [skip_nt, hnt]
      exact hd o' (by simp [ho']) d hd'
    simp only [vcOps] at h
    unfold wpList
    cases hg : o.guard with
    | none =>
      rw [hg] at h
      have hw : Region.wanted o (yielded ops a.tmps) = true := by simp [Region.wanted, hg]
      rw [if_pos hw]
      exact .inl (one st rfl hS h)
    | some g =>
      obtain ⟨j, want⟩ := g
      rw [hg] at h
      simp only at h
      cases hj : guardDst ops.toList j with
      | none => rw [hj] at h; exact h.elim
      | some dj =>
        rw [hj] at h
        simp only at h
        split at h
        · rename_i b hb
          replace h := caseB_to h
          have hy := yielded_at hj (hS.boolAt hb)
          have hw : Region.wanted o (yielded ops a.tmps) = (b == want) := by
            simp only [Region.wanted, hg, hy]
            cases b <;> cases want <;> rfl
          rw [hw]
          cases hbb : b with
          | true =>
            have h1 := h.1 hbb
            have hS1 := hS.boolAs hb hbb
            cases want with
            | true => exact .inl (one (st.put dj (.val false [.bool true])) rfl hS1 h1)
            | false => exact skip (st.put dj (.val false [.bool true])) rfl hS1 h1
          | false =>
            have h1 := h.2 hbb
            have hS1 := hS.boolAs hb hbb
            cases want with
            | false => exact .inl (one (st.put dj (.val false [.bool false])) rfl hS1 h1)
            | true => exact skip (st.put dj (.val false [.bool false])) rfl hS1 h1
        · rename_i hb
          have hs := hS.slots dj
          rw [hb] at hs
          obtain ⟨vs, hv, h2⟩ := hs
          have hvs : vs = #[] := by
            have : vs.toList = [] := by
              cases hl : vs.toList with
              | nil => rfl
              | cons x l => rw [hl] at h2; cases h2
            simpa using this
          rw [hvs] at hv
          have hw : Region.wanted o (yielded ops a.tmps) = false := by
            simp only [Region.wanted, hg, yielded_und hj hv]
            rfl
          rw [hw]
          exact skip st rfl hS h
        · exact h.elim

end Go.Proofs.Ytcbehcpmojnnfaa.Bv
