/- A region that may run in any order, by value: it comes to what the text's order comes to. -/
import Derived.Test.YtcbehcpmojnnfaaV19
namespace Go.Proofs.Ytcbehcpmojnnfaa.Bv
set_option linter.unusedVariables false
set_option linter.unusedSimpArgs false

variable {P : Program} {base : World} {M0 : Mem} {ios : List Nat} {σ : Sg} {M : Mem} {w : World} {a : Act} {st : St} {tab : Tab} {Γ : Nat → Option Con}

/-- In the order of the text, with what each comes to. -/
def vcRun (tab : Tab) (Γ : Nat → Option Con) (all : List Oper) : List Oper → St → (List (Option Eff) → St → Prop) → Prop
  | [], st, K => K [] st
  | o :: rest, st, K => match o.guard with
    | none => vcOpE tab Γ o st fun e => vcRun tab Γ all rest (e.apply o.dst st) fun outs st' => K (some e :: outs) st'
    | some (j, want) => match guardDst all j with
      | some dj => match st.get dj with
        | .val false [.bool b] => caseB b
            (cond want (vcOpE tab Γ o (st.put dj (.val false [.bool true])) fun e => vcRun tab Γ all rest (e.apply o.dst (st.put dj (.val false [.bool true]))) fun outs st' => K (some e :: outs) st')
              (vcRun tab Γ all rest (skipSt o (st.put dj (.val false [.bool true]))) fun outs st' => K (none :: outs) st'))
            (cond want (vcRun tab Γ all rest (skipSt o (st.put dj (.val false [.bool false]))) fun outs st' => K (none :: outs) st')
              (vcOpE tab Γ o (st.put dj (.val false [.bool false])) fun e => vcRun tab Γ all rest (e.apply o.dst (st.put dj (.val false [.bool false]))) fun outs st' => K (some e :: outs) st'))
        | .tup [] => vcRun tab Γ all rest (skipSt o st) fun outs st' => K (none :: outs) st'
        | _ => False
      | none => False

def want (all : List Oper) (o : Oper) (s : St) : Option Bool := match o.guard with
  | none => some true
  | some (j, wn) => match guardDst all j with
    | some d => match s.get d with
      | .val false [.bool b] => some (b == wn)
      | .tup [] => some false
      | _ => none
    | none => none

def Good (tab : Tab) (Γ : Nat → Option Con) (all : List Oper) (s : St) (o : Oper) : Option Eff → Prop
  | some e => want all o s = some true ∧ ∃ ps, opEff tab Γ o (o.op.operands.toList.map (inOf s)) = some (ps, e) ∧ ∀ p ∈ ps, p
  | none => want all o s = some false

theorem Good.ext {all : List Oper} {s s' : St} {o : Oper} {x : Option Eff} (h : Ext s s') (hg : Good tab Γ all s o x) : Good tab Γ all s' o x := by
  have hw : want all o s' = want all o s := by
    unfold want
    split
    · rfl
    · split
      · rw [h.get]
      · rfl
  have hi : o.op.operands.toList.map (inOf s') = o.op.operands.toList.map (inOf s) := List.map_congr_left fun x _ => (inOf_ext h x).symm
  cases x with
  | some e =>
    obtain ⟨h1, ps, h2, h3⟩ := hg
    exact ⟨by rw [hw]; exact h1, ps, by rw [hi]; exact h2, h3⟩
  | none => show want all o s' = some false; rw [hw]; exact hg

def runAll (l : List (Oper × Option Eff)) (s : St) : St := mixI (fun _ => true) 0 l s

theorem runAll_cons (o : Oper) (x : Option Eff) (l : List (Oper × Option Eff)) (s : St) : runAll ((o, x) :: l) s = runAll l (applyO o x s) := by
  unfold runAll
  simp only [mixI, cond_true]
  have : ∀ (l : List (Oper × Option Eff)) (k k' : Nat) (s : St), mixI (fun _ => true) k l s = mixI (fun _ => true) k' l s := by
    intro l
    induction l with
    | nil => intros; rfl
    | cons p l ih => intro k k' s; obtain ⟨o, x⟩ := p; simp only [mixI]; exact ih _ _ _
  exact this _ _ _ _

theorem runAll_ext {l : List (Oper × Option Eff)} {s s' : St} (h : Ext s s') : Ext (runAll l s) (runAll l s') := mixI_ext h

theorem put_lit {st : St} {d : Nat} {b c : Bool} (h : st.get d = .val false [.bool b]) (hc : b = c) : Ext (st.put d (.val false [.bool c])) st where
  nt := rfl
  get := fun i => by
    rw [get_put]
    split
    · rename_i e; subst e; subst hc; exact h.symm
    · rfl
  box := fun _ => rfl
  row := fun _ => rfl

theorem vcRun_spec {all : List Oper} : ∀ (l : List Oper) (st : St) (K : List (Option Eff) → St → Prop), vcRun tab Γ all l st K →
    ∃ outs st', outs.length = l.length ∧ K outs st' ∧ Ext st' (runAll (l.zip outs) st) ∧ ∀ j o x, (l.zip outs)[j]? = some (o, x) → Good tab Γ all (runAll ((l.zip outs).take j) st) o x
  | [], st, K, h => ⟨[], st, rfl, h, Ext.refl _, fun j o x hj => by simp at hj⟩
  | o :: rest, st, K, h => by
    -- one that is done; one that is passed over
    have one : ∀ (st2 : St), Ext st2 st → want all o st = some true → vcOpE tab Γ o st2 (fun e => vcRun tab Γ all rest (e.apply o.dst st2) fun outs st' => K (some e :: outs) st') →
        ∃ outs st', outs.length = (o :: rest).length ∧ K outs st' ∧ Ext st' (runAll ((o :: rest).zip outs) st) ∧ ∀ j o' x, ((o :: rest).zip outs)[j]? = some (o', x) → Good tab Γ all (runAll (((o :: rest).zip outs).take j) st) o' x := by
      intro st2 he hw h2
      obtain ⟨ps, e, _, heq, hps, _, hK⟩ := vcOpE_spec h2
      obtain ⟨outs, st', h3, h4, h5, h6⟩ := vcRun_spec rest _ _ hK
      have hx : Ext (applyO o (some e) st2) (applyO o (some e) st) := applyO_ext he
      refine ⟨some e :: outs, st', by simp [h3], h4, ?_, ?_⟩
      · rw [List.zip_cons_cons, runAll_cons]
        exact h5.trans (runAll_ext hx)
      · intro j o' x hj
        rw [List.zip_cons_cons] at hj ⊢
        cases j with
        | zero =>
          simp at hj
          obtain ⟨rfl, rfl⟩ := hj
          have : Good tab Γ all st2 o (some e) := ⟨by
            unfold want at hw ⊢
            split at hw
            · rfl
            · split at hw
              · rename_i d _; rw [he.get]; exact hw
              · exact hw, ps, heq, hps⟩
          exact this.ext he
        | succ j =>
          rw [List.take_succ_cons, runAll_cons]
          exact (h6 j o' x (by simpa using hj)).ext (runAll_ext hx)
    have skip : ∀ (st2 : St), Ext st2 st → want all o st = some false → vcRun tab Γ all rest (skipSt o st2) (fun outs st' => K (none :: outs) st') →
        ∃ outs st', outs.length = (o :: rest).length ∧ K outs st' ∧ Ext st' (runAll ((o :: rest).zip outs) st) ∧ ∀ j o' x, ((o :: rest).zip outs)[j]? = some (o', x) → Good tab Γ all (runAll (((o :: rest).zip outs).take j) st) o' x := by
      intro st2 he hw h2
      obtain ⟨outs, st', h3, h4, h5, h6⟩ := vcRun_spec rest _ _ h2
      have hx : Ext (applyO o none st2) (applyO o none st) := applyO_ext he
      refine ⟨none :: outs, st', by simp [h3], h4, ?_, ?_⟩
      · rw [List.zip_cons_cons, runAll_cons]
        exact h5.trans (runAll_ext hx)
      · intro j o' x hj
        rw [List.zip_cons_cons] at hj ⊢
        cases j with
        | zero => simp at hj; obtain ⟨rfl, rfl⟩ := hj; exact hw
        | succ j =>
          rw [List.take_succ_cons, runAll_cons]
          exact (h6 j o' x (by simpa using hj)).ext (runAll_ext hx)
    simp only [vcRun] at h
    cases hg : o.guard with
    | none =>
      rw [hg] at h
      exact one st (Ext.refl _) (by unfold want; rw [hg]) h
    | some g =>
      obtain ⟨j, wn⟩ := g
      rw [hg] at h
      simp only at h
      cases hj : guardDst all j with
      | none => rw [hj] at h; exact h.elim
      | some dj =>
        rw [hj] at h
        simp only at h
        split at h
        · rename_i b hb
          have hw : want all o st = some (b == wn) := by unfold want; rw [hg]; simp only [hj, hb]
          replace h := caseB_to h
          cases hbb : b with
          | true =>
            have h1 := h.1 hbb
            cases wn with
            | true => exact one _ (put_lit hb hbb) (by rw [hw, hbb]; rfl) h1
            | false => exact skip _ (put_lit hb hbb) (by rw [hw, hbb]; rfl) h1
          | false =>
            have h1 := h.2 hbb
            cases wn with
            | false => exact one _ (put_lit hb hbb) (by rw [hw, hbb]; rfl) h1
            | true => exact skip _ (put_lit hb hbb) (by rw [hw, hbb]; rfl) h1
        · rename_i hb
          exact skip st (Ext.refl _) (by unfold want; rw [hg]; simp only [hj, hb]) h
        · exact h.elim

end Go.Proofs.Ytcbehcpmojnnfaa.Bv
