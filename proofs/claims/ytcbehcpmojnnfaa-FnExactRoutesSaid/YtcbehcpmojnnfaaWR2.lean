/- A region that may run in any order, by value: it comes to what the text's order comes to. -/
import Derived.Test.YtcbehcpmojnnfaaWR1
namespace Go.Proofs.Ytcbehcpmojnnfaa.Bv
set_option linter.unusedVariables false
set_option linter.unusedSimpArgs false

variable {P : Program} {base : World} {M0 : Mem} {ios : Ios} {σ : Sg} {M : Mem} {w : World} {a : Act} {st : St} {tab : Tab} {Γ : Gam} {o : Oper} {next : Act → World → Prop} {Q : Exit → Act → World → Prop}

/-- What an operation comes to, outright. -/
def effIns (tab : Tab) (Γ : Gam) (o : Oper) (fz : List (Nat × RowV)) (ins : List In) : Option (List Prop × Eff) :=
  match nodupB (fz.map (·.1)) with
  | true => match callInfo Γ o ins with
    | some (con, ts, xs) => match con.f, o.dst, callArgs tab con ts xs, con.newR && con.io with
      | some f, some d, some x, false => match backRows x.rows x.cs con.backA (flat con.B (f x.i x.a).2.2) with
        | some br => some ([con.pre x.i x.a], (callRes con d x (f x.i x.a) br).frz fz)
        | none => none
      | _, _, _, _ => none
    | none => match opEff tab Γ o ins with
      | some (ps, e) => some (ps, e.frz fz)
      | none => none
  | false => none

def effOf (tab : Tab) (Γ : Gam) (o : Oper) (st : St) : Option (List Prop × Eff) :=
  let ins0 := o.op.operands.toList.map (inOf st)
  let fz := frzRows (ins0.flatMap (·.rows)) (needFrz tab Γ o ins0)
  effIns tab Γ o fz (insFz fz o st ins0)

/-- One operation in its place, of which all is told outright. -/
def vcOpF (tab : Tab) (Γ : Gam) (o : Oper) (st : St) (K : Eff → Prop) : Prop :=
  match (match o.dst with | some d => decide (d < st.nt) | none => true) with
  | true =>
    let ins0 := o.op.operands.toList.map (inOf st)
    let fz := frzRows (ins0.flatMap (·.rows)) (needFrz tab Γ o ins0)
    let ins := insFz fz o st ins0
    match nodupB (fz.map (·.1)) with
    | true =>
      match callInfo Γ o ins with
      | some (con, ts, xs) => match con.f with
        | some _ => vcCall tab con o ts xs st fun e => K (e.frz fz)
        | none => False
      | none => match opEff tab Γ o ins with
        | some (ps, e) => match freshEff e o.dst st with
          | true => allP ps (K (e.frz fz))
          | false => False
        | none => False
    | false => False
  | false => False

theorem noVers_left {fz : List (Nat × RowV)} : ∀ {l : List (Nat × RowV)}, noVers st (l ++ fz) = true → noVers st l = true
  | [], _ => rfl
  | (r, .hot _ _ _ _ _ _) :: l, h => by
    simp only [List.cons_append, noVers, Bool.and_eq_true] at h ⊢
    exact ⟨h.1, noVers_left h.2⟩
  | (r, .cold _) :: l, h => by simp only [List.cons_append, noVers] at h ⊢; exact noVers_left h
  | (r, .frz _ _ _ _ _) :: l, h => by simp only [List.cons_append, noVers] at h ⊢; exact noVers_left h

theorem fresh_unfrz {fz : List (Nat × RowV)} {e : Eff} {d : Option Nat} (h : freshEff (e.frz fz) d st = true) : freshEff e d st = true := by
  unfold freshEff at h ⊢
  simp only [Bool.and_eq_true] at h ⊢
  exact ⟨⟨h.1.1, noVers_left h.1.2⟩, h.2⟩

theorem allP_join {ps : List Prop} {X : Prop} (h : ∀ p ∈ ps, p) (hx : X) : allP ps X := by
  induction ps with
  | nil => exact hx
  | cons p ps ih => exact ⟨h p (by simp), ih fun q hq => h q (by simp [hq])⟩

theorem effOf_sound_aux {ps : List Prop} {e : Eff} (h : effIns tab Γ o (frzRows ((o.op.operands.toList.map (inOf st)).flatMap (·.rows)) (needFrz tab Γ o (o.op.operands.toList.map (inOf st)))) (insFz (frzRows ((o.op.operands.toList.map (inOf st)).flatMap (·.rows)) (needFrz tab Γ o (o.op.operands.toList.map (inOf st)))) o st (o.op.operands.toList.map (inOf st))) = some (ps, e)) (hps : ∀ p ∈ ps, p) (hf : freshEff e o.dst st = true) :
    let ins0 := o.op.operands.toList.map (inOf st)
    let fz := frzRows (ins0.flatMap (·.rows)) (needFrz tab Γ o ins0)
    let ins := insFz fz o st ins0
    match nodupB (fz.map (·.1)) with
    | true =>
      match callInfo Γ o ins with
      | some (con, ts, xs) => vcCall tab con o ts xs st fun e' => e'.frz fz = e
      | none => match opEff tab Γ o ins with
        | some (ps, e') => match freshEff e' o.dst st with
          | true => allP ps (e'.frz fz = e)
          | false => False
        | none => False
    | false => False := by
  intro ins0 fz ins
  have h' : effIns tab Γ o fz ins = some (ps, e) := h
  clear h
  generalize fz = fz at *
  generalize ins = ins at *
  unfold effIns at h'
  cases hnd : nodupB (fz.map (·.1)) with
  | false => rw [hnd] at h'; cases h'
  | true =>
    rw [hnd] at h'
    simp only at h' ⊢
    cases hc : callInfo Γ o ins with
    | some t =>
      obtain ⟨con, ts, xs⟩ := t
      rw [hc] at h'
      simp only at h' ⊢
      split at h'
      · rename_i f d x hcf hdst hx hnew
        split at h'
        · rename_i br hbr
          cases h'
          unfold vcCall
          simp only [hdst, hx, hnew]
          refine ⟨hps _ (by simp), fun y hy => ?_⟩
          have hy' : y = f x.i x.a := by simpa [Con.Post, hcf] using hy
          subst hy'
          simp only [hbr]
          rw [hdst] at hf
          simp only [fresh_unfrz hf]
        · cases h'
      · cases h'
    | none =>
      rw [hc] at h'
      simp only at h' ⊢
      cases he : opEff tab Γ o ins with
      | none => rw [he] at h'; cases h'
      | some t =>
        obtain ⟨ps', e'⟩ := t
        rw [he] at h'
        cases h'
        simp only [fresh_unfrz hf]
        exact allP_join hps trivial

theorem effOf_sound {ps : List Prop} {e : Eff} (hT : TabOk P tab) (hΓ : GamOk P Γ) (hS : Sim P base M0 ios σ M w a st) (hd : ∀ d, o.dst = some d → d < st.nt)
    (h : effOf tab Γ o st = some (ps, e)) (hps : ∀ p ∈ ps, p) (hf : freshEff e o.dst st = true) (hn : Goes P base M0 ios a o st e next) : o.wp P a w next Q := by
  refine vcOpE_sound (tab := tab) (Γ := Γ) (K := fun e' => e' = e) hT hΓ hS ?_ (fun e' he v σ' M' w' hS' => by subst he; exact hn v σ' M' w' hS')
  unfold effOf at h
  unfold vcOpE
  split
  · exact effOf_sound_aux h hps hf
  · rename_i hdd
    exfalso
    cases hdst : o.dst with
    | none => rw [hdst] at hdd; cases hdd
    | some d => rw [hdst] at hdd; have := hd d hdst; simp only [decide_eq_false_iff_not] at hdd; exact hdd this

theorem vcOpF_spec {K : Eff → Prop} (h : vcOpF tab Γ o st K) : ∃ ps e, (∀ d, o.dst = some d → d < st.nt) ∧ effOf tab Γ o st = some (ps, e) ∧ (∀ p ∈ ps, p) ∧ K e := by
  unfold vcOpF at h
  split at h
  · rename_i hd
    have hd' : ∀ d, o.dst = some d → d < st.nt := fun d e2 => by rw [e2] at hd; simpa using hd
    unfold effOf
    simp only at h ⊢
    generalize frzRows ((o.op.operands.toList.map (inOf st)).flatMap (·.rows)) (needFrz tab Γ o (o.op.operands.toList.map (inOf st))) = fz at h ⊢
    generalize insFz fz o st (o.op.operands.toList.map (inOf st)) = ins at h ⊢
    unfold effIns
    cases hnd : nodupB (fz.map (·.1)) with
    | false => rw [hnd] at h; exact h.elim
    | true =>
      rw [hnd] at h
      simp only at h ⊢
      cases hc : callInfo Γ o ins with
      | some t =>
        obtain ⟨con, ts, xs⟩ := t
        rw [hc] at h
        simp only at h ⊢
        split at h
        · rename_i f hcf
          unfold vcCall at h
          split at h
          · rename_i d x hdst hx hnew
            obtain ⟨hpre, hpost⟩ := h
            have h2 := hpost (f x.i x.a) (by simp [Con.Post, hcf])
            split at h2
            · rename_i br hbr
              split at h2
              · simp only [hcf, hdst, hx, hnew, hbr]
                rw [hdst] at hd'
                exact ⟨_, _, hd', rfl, fun p hp => by rw [List.mem_singleton.1 hp]; exact hpre, h2⟩
              · exact h2.elim
            · exact h2.elim
          · exact h.elim
        · exact h.elim
      | none =>
        rw [hc] at h
        simp only at h ⊢
        cases he : opEff tab Γ o ins with
        | none => rw [he] at h; exact h.elim
        | some t =>
          obtain ⟨ps, e⟩ := t
          rw [he] at h
          simp only at h ⊢
          split at h
          · obtain ⟨h1, h2⟩ := allP_split h
            exact ⟨ps, _, hd', rfl, h1, h2⟩
          · exact h.elim
    
  · exact h.elim

theorem insFz_congr {s s' : St} {fz : List (Nat × RowV)} {ins : List In} (h : o.op.operands.toList.map (inOf (frzSt fz s')) = o.op.operands.toList.map (inOf (frzSt fz s))) : insFz fz o s' ins = insFz fz o s ins := by
  unfold insFz
  split
  · rfl
  · exact h

theorem effOf_congr {s s' : St} (h0 : o.op.operands.toList.map (inOf s') = o.op.operands.toList.map (inOf s)) (h : ∀ fz, o.op.operands.toList.map (inOf (frzSt fz s')) = o.op.operands.toList.map (inOf (frzSt fz s))) : effOf tab Γ o s' = effOf tab Γ o s := by
  unfold effOf
  simp only [h0, insFz_congr (h _)]

theorem frz_ext {s s' : St} {fz : List (Nat × RowV)} (h : Ext s s') : Ext (frzSt fz s) (frzSt fz s') :=
  ⟨h.nt, h.get, h.box, fun r => by
    have := h.row r
    simp only [St.rowv] at this
    simp only [St.rowv, frzSt, look_app, this], h.olds⟩

theorem effOf_ext {s s' : St} (h : Ext s s') : effOf tab Γ o s' = effOf tab Γ o s :=
  effOf_congr (List.map_congr_left fun x _ => (inOf_ext h x).symm) fun fz => List.map_congr_left fun x _ => (inOf_ext (frz_ext h) x).symm

/-- In the order of the text, with what each comes to. -/
def vcRun (tab : Tab) (Γ : Gam) (all : List Oper) : List Oper → St → (List (Option Eff) → St → Prop) → Prop
  | [], st, K => K [] st
  | o :: rest, st, K => match o.guard with
    | none => vcOpF tab Γ o st fun e => vcRun tab Γ all rest (e.apply o.dst st) fun outs st' => K (some e :: outs) st'
    | some (j, want) => match guardDst all j with
      | some dj => match st.get dj with
        | .val false [.bool b] => caseB b
            (cond want (vcOpF tab Γ o (st.lit dj true) fun e => vcRun tab Γ all rest (e.apply o.dst (st.lit dj true)) fun outs st' => K (some e :: outs) st')
              (vcRun tab Γ all rest (skipSt o (st.lit dj true)) fun outs st' => K (none :: outs) st'))
            (cond want (vcRun tab Γ all rest (skipSt o (st.lit dj false)) fun outs st' => K (none :: outs) st')
              (vcOpF tab Γ o (st.lit dj false) fun e => vcRun tab Γ all rest (e.apply o.dst (st.lit dj false)) fun outs st' => K (some e :: outs) st'))
        | .tup [] => vcRun tab Γ all rest (skipSt o st) fun outs st' => K (none :: outs) st'
        | _ => False
      | none => False

def want (all : List Oper) (o : Oper) (s : St) : Option Bool := match o.guard with
  | none => some true
  | some (j, wn) => match guardDst all j with
    | some d => match s.get d with
      | .val false [.bool b] => some (b == wn)
      | .tup [] => some false
      | _ => none
    | none => none

def Good (tab : Tab) (Γ : Gam) (all : List Oper) (s : St) (o : Oper) : Option Eff → Prop
  | some e => want all o s = some true ∧ ∃ ps, effOf tab Γ o s = some (ps, e) ∧ ∀ p ∈ ps, p
  | none => want all o s = some false

theorem Good.ext {all : List Oper} {s s' : St} {o : Oper} {x : Option Eff} (h : Ext s s') (hg : Good tab Γ all s o x) : Good tab Γ all s' o x := by
  have hw : want all o s' = want all o s := by
    unfold want
    split
    · rfl
    · split
      · rw [h.get]
      · rfl
  cases x with
  | some e =>
    obtain ⟨h1, ps, h2, h3⟩ := hg
    exact ⟨by rw [hw]; exact h1, ps, by rw [effOf_ext h]; exact h2, h3⟩
  | none => show want all o s' = some false; rw [hw]; exact hg

def runAll (l : List (Oper × Option Eff)) (s : St) : St := mixI (fun _ => true) 0 l s

theorem runAll_cons (o : Oper) (x : Option Eff) (l : List (Oper × Option Eff)) (s : St) : runAll ((o, x) :: l) s = runAll l (applyO o x s) := by
  unfold runAll
  simp only [mixI, cond_true]
  have : ∀ (l : List (Oper × Option Eff)) (k k' : Nat) (s : St), mixI (fun _ => true) k l s = mixI (fun _ => true) k' l s := by
    intro l
    induction l with
    | nil => intros; rfl
    | cons p l ih => intro k k' s; obtain ⟨o, x⟩ := p; simp only [mixI]; exact ih _ _ _
  exact this _ _ _ _

theorem runAll_ext {l : List (Oper × Option Eff)} {s s' : St} (h : Ext s s') : Ext (runAll l s) (runAll l s') := mixI_ext h

theorem put_lit {st : St} {d : Nat} {b c : Bool} (h : st.get d = .val false [.bool b]) (hc : b = c) : Ext (st.lit d c) st where
  nt := rfl
  get := fun i => by
    rw [get_lit]
    split
    · rename_i e; subst e; subst hc; exact h.symm
    · rfl
  box := fun _ => rfl
  row := fun _ => rfl
  olds := fun _ => Iff.rfl

theorem vcRun_spec {all : List Oper} : ∀ (l : List Oper) (st : St) (K : List (Option Eff) → St → Prop), vcRun tab Γ all l st K →
    ∃ outs st', outs.length = l.length ∧ K outs st' ∧ Ext st' (runAll (l.zip outs) st) ∧ ∀ j o x, (l.zip outs)[j]? = some (o, x) → Good tab Γ all (runAll ((l.zip outs).take j) st) o x
  | [], st, K, h => ⟨[], st, rfl, h, Ext.refl _, fun j o x hj => by simp at hj⟩
  | o :: rest, st, K, h => by
    -- one that is done; one that is passed over
    have one : ∀ (st2 : St), Ext st2 st → want all o st = some true → vcOpF tab Γ o st2 (fun e => vcRun tab Γ all rest (e.apply o.dst st2) fun outs st' => K (some e :: outs) st') →
        ∃ outs st', outs.length = (o :: rest).length ∧ K outs st' ∧ Ext st' (runAll ((o :: rest).zip outs) st) ∧ ∀ j o' x, ((o :: rest).zip outs)[j]? = some (o', x) → Good tab Γ all (runAll (((o :: rest).zip outs).take j) st) o' x := by
      intro st2 he hw h2
      obtain ⟨ps, e, _, heq, hps, hK⟩ := vcOpF_spec h2
      obtain ⟨outs, st', h3, h4, h5, h6⟩ := vcRun_spec rest _ _ hK
      have hx : Ext (applyO o (some e) st2) (applyO o (some e) st) := applyO_ext he
      refine ⟨some e :: outs, st', by simp [h3], h4, ?_, ?_⟩
      · rw [List.zip_cons_cons, runAll_cons]
        exact h5.trans (runAll_ext hx)
      · intro j o' x hj
        rw [List.zip_cons_cons] at hj ⊢
        cases j with
        | zero =>
          simp at hj
          obtain ⟨rfl, rfl⟩ := hj
          have : Good tab Γ all st2 o (some e) := ⟨by
            unfold want at hw ⊢
            split at hw
            · rfl
            · split at hw
              · rename_i d _; rw [he.get]; exact hw
              · exact hw, ps, heq, hps⟩
          exact this.ext he
        | succ j =>
          rw [List.take_succ_cons, runAll_cons]
          exact (h6 j o' x (by simpa using hj)).ext (runAll_ext hx)
    have skip : ∀ (st2 : St), Ext st2 st → want all o st = some false → vcRun tab Γ all rest (skipSt o st2) (fun outs st' => K (none :: outs) st') →
        ∃ outs st', outs.length = (o :: rest).length ∧ K outs st' ∧ Ext st' (runAll ((o :: rest).zip outs) st) ∧ ∀ j o' x, ((o :: rest).zip outs)[j]? = some (o', x) → Good tab Γ all (runAll (((o :: rest).zip outs).take j) st) o' x := by
      intro st2 he hw h2
      obtain ⟨outs, st', h3, h4, h5, h6⟩ := vcRun_spec rest _ _ h2
      have hx : Ext (applyO o none st2) (applyO o none st) := applyO_ext he
      refine ⟨none :: outs, st', by simp [h3], h4, ?_, ?_⟩
      · rw [List.zip_cons_cons, runAll_cons]
        exact h5.trans (runAll_ext hx)
      · intro j o' x hj
        rw [List.zip_cons_cons] at hj ⊢
        cases j with
        | zero => simp at hj; obtain ⟨rfl, rfl⟩ := hj; exact hw
        | succ j =>
          rw [List.take_succ_cons, runAll_cons]
          exact (h6 j o' x (by simpa using hj)).ext (runAll_ext hx)
    simp only [vcRun] at h
    cases hg : o.guard with
    | none =>
      rw [hg] at h
      exact one st (Ext.refl _) (by unfold want; rw [hg]) h
    | some g =>
      obtain ⟨j, wn⟩ := g
      rw [hg] at h
      simp only at h
      cases hj : guardDst all j with
      | none => rw [hj] at h; exact h.elim
      | some dj =>
        rw [hj] at h
        simp only at h
        split at h
        · rename_i b hb
          have hw : want all o st = some (b == wn) := by unfold want; rw [hg]; simp only [hj, hb]
          replace h := caseB_to h
          cases hbb : b with
          | true =>
            have h1 := h.1 hbb
            cases wn with
            | true => exact one _ (put_lit hb hbb) (by rw [hw, hbb]; rfl) h1
            | false => exact skip _ (put_lit hb hbb) (by rw [hw, hbb]; rfl) h1
          | false =>
            have h1 := h.2 hbb
            cases wn with
            | false => exact one _ (put_lit hb hbb) (by rw [hw, hbb]; rfl) h1
            | true => exact skip _ (put_lit hb hbb) (by rw [hw, hbb]; rfl) h1
        · rename_i hb
          exact skip st (Ext.refl _) (by unfold want; rw [hg]; simp only [hj, hb]) h
        · exact h.elim

end Go.Proofs.Ytcbehcpmojnnfaa.Bv
