/- Names anew. -/
import Derived.Test.YtcbehcpmojnnfaaWL2
namespace Go.Proofs.Ytcbehcpmojnnfaa.Bv
set_option linter.unusedVariables false
set_option linter.unusedSimpArgs false

variable {P : Program} {base : World} {M0 : Mem} {ios : Ios} {σ : Sg} {M : Mem} {w : World} {a : Act} {st : St} {tab : Tab} {Γ : Gam}

noncomputable def reSg (σ : Sg) (w : World) (a : Act) (st : St) (rows : List KRow) : Sg where
  box := σ.box
  row := fun k => match findKey rows k with | some kr => valAt σ w a kr | none => σ.row k
  foot := fun k => match findKey rows k with | some kr => (match oldOf st kr with | .hot r _ _ => σ.foot r | _ => []) | none => []
  mem := fun k => match findKey rows k with | some kr => (match oldOf st kr with | .hot r _ _ => σ.mem r | _ => fun _ => none) | none => fun _ => none

structure RenF (tab : Tab) (σ : Sg) (w : World) (a : Act) (st : St) (rows : List KRow) : Prop where
  keys : (rows.map (·.k)).Nodup
  hots : ((rho st rows).map (·.1)).Nodup
  colds : (coldOlds st rows).Nodup
  ok : ∀ kr ∈ rows, rowOk tab st kr = true
  row : ∀ kr ∈ rows, (reSg σ w a st rows).row kr.k = valAt σ w a kr
  hotv : ∀ kr ∈ rows, ∀ r t l, oldOf st kr = .hot r t l → valAt σ w a kr = σ.row r ∧ (reSg σ w a st rows).foot kr.k = σ.foot r ∧ (reSg σ w a st rows).mem kr.k = σ.mem r
  nilv : ∀ kr ∈ rows, ∀ t, oldOf st kr = .nil t → (∃ ad, valAt σ w a kr = .slice ad 0 0) ∧ (reSg σ w a st rows).foot kr.k = [] ∧ (reSg σ w a st rows).mem kr.k = fun _ => none
  coldv : ∀ kr ∈ rows, ∀ r, oldOf st kr = .cold r → r ≠ 0 ∧ st.row r = some kr.e ∧ valAt σ w a kr = σ.row r
  cnilv : ∀ kr ∈ rows, oldOf st kr = .cnil → valAt σ w a kr = .slice none 0 0

theorem renF (hS : Sim P base M0 ios σ M w a st) {kp : Keep} (h : renameOk tab kp st = true) : RenF tab σ w a st kp.rows := by
  unfold renameOk at h
  simp only [Bool.and_eq_true, List.all_eq_true] at h
  obtain ⟨⟨⟨h1, h2⟩, h3⟩, h4⟩ := h
  have hk := nodup_of h2
  have fk := fun kr (hm : kr ∈ kp.rows) => findKey_mem hk hm
  refine ⟨hk, nodup_of h3, nodup_of h4, h1, fun kr hm => ?_, fun kr hm r t l ho => ⟨?_, ?_, ?_⟩, fun kr hm t ho => ⟨?_, ?_, ?_⟩, fun kr hm r ho => ?_, fun kr hm ho => ?_⟩
  · simp only [reSg, fk kr hm]
  · have hs := oldOf_spec st kr
    rw [ho] at hs
    obtain ⟨_, hp, ver, z, hl⟩ := hs
    exact (place_rep hS hp).2 (by rw [hl]; rfl)
  · simp only [reSg, fk kr hm, ho]
  · simp only [reSg, fk kr hm, ho]
  · have hs := oldOf_spec st kr
    rw [ho] at hs
    rcases hs.2 with hp | hp
    · exact ⟨none, by have := (place_rep hS hp).2; simpa [tagOk] using this⟩
    · exact (place_rep hS hp).2
  · simp only [reSg, fk kr hm, ho]
  · simp only [reSg, fk kr hm, ho]
  · have hs := oldOf_spec st kr
    rw [ho] at hs
    obtain ⟨_, h0, t, l, hp, hr⟩ := hs
    refine ⟨h0, hr, ?_⟩
    have := (place_rep hS hp).2
    simp only [tagOk, if_neg h0] at this
    obtain ⟨rv, hl, _⟩ := coldOf_of hr
    exact this (by rw [hl]; rfl)
  · have hs := oldOf_spec st kr
    rw [ho] at hs
    obtain ⟨_, t, l, hp⟩ := hs
    have := (place_rep hS hp).2
    simpa [tagOk] using this

theorem reC1_rep (hS : Sim P base M0 ios σ M w a st) {rows : List KRow} (F : RenF tab σ w a st rows) {rows' : List (Nat × RowV)} {v : Value} {c : CellV} (h : RdT σ st.rows M v c) : RdT (reSg σ w a st rows) rows' M v (reC1 (rho st rows) c) := by
  have hk : ∀ {r k : Nat}, look r (rho st rows) = some k → (reSg σ w a st rows).row k = σ.row r ∧ (look r st.rows).isSome = true := fun {r k} hl => by
    obtain ⟨kr, hm, e, t, l, ho⟩ := rho_mem hl
    subst e
    have hs := oldOf_spec st kr
    rw [ho] at hs
    obtain ⟨_, _, ver, z, hl⟩ := hs
    exact ⟨by rw [F.row kr hm, (F.hotv kr hm r t l ho).1], by rw [hl]; rfl⟩
  cases c with
  | lst t l tag => exact ⟨h.1, trivial⟩
  | int k n => exact ⟨h.1, trivial⟩
  | bool b => exact ⟨h.1, trivial⟩
  | str s => exact ⟨h.1, trivial⟩
  | emp t => exact ⟨h.1, h.2⟩
  | und => exact ⟨h.1, trivial⟩
  | bor t l r ver p => exact ⟨h.1, trivial⟩
  | own t r =>
    simp only [reC1]
    split
    · rename_i k hl
      obtain ⟨e1, e2⟩ := hk hl
      exact ⟨h.1, fun _ => by rw [e1]; exact h.2 e2⟩
    · exact ⟨h.1, trivial⟩
  | sub t r lo hi =>
    simp only [reC1]
    split
    · rename_i k hl
      obtain ⟨e1, e2⟩ := hk hl
      exact ⟨h.1, fun _ => by rw [e1]; exact h.2 e2⟩
    · exact ⟨h.1, trivial⟩

theorem reCk_rep {rows : List KRow} (F : RenF tab σ w a st rows) {kr : KRow} (hm : kr ∈ rows) {rows' : List (Nat × RowV)} {v : Value} {c : CellV} (hp : placeC st kr = some c) (hv : valAt σ w a kr = v) (h : RdT σ st.rows M v c) : RdT (reSg σ w a st rows) rows' M v (reCk kr c) := by
  have hrow : v = (reSg σ w a st rows).row kr.k := by rw [F.row kr hm, hv]
  have hk0 : kr.k ≠ 0 := by
    have := F.ok kr hm
    simp only [rowOk, Bool.and_eq_true, Bool.not_eq_true', beq_eq_false_iff_ne] at this
    exact this.1
  have hown : ∀ t, v.oneCell' = true → RdT (reSg σ w a st rows) rows' M v (.own t kr.k) := fun t h1 => ⟨h1, fun _ => hrow⟩
  have h1 : v.oneCell' = true := h.1.oneCell
  cases c with
  | own t r =>
    simp only [reCk]
    cases kr.hot
    · exact ⟨h1, trivial⟩
    · exact hown t h1
  | emp t =>
    simp only [reCk]
    cases kr.hot
    · exact ⟨h1, trivial⟩
    · exact hown t h1
  | lst t l tag =>
    simp only [reCk]
    cases kr.hot
    · refine ⟨h.1, ?_⟩
      simp only [cond_false, tagOk, if_neg hk0]
      exact fun _ => hrow
    · exact hown t h1
  | _ => exact ⟨h1, trivial⟩

theorem reCs_rep (hS : Sim P base M0 ios σ M w a st) {kp : Keep} (F : RenF tab σ w a st kp.rows) {rows' : List (Nat × RowV)} {b : Bool} {s : Nat} {vs : List Value} {cs : List CellV} (h : All2 (RdT σ st.rows M) vs cs) : ∀ (i : Nat),
    (∀ (j : Nat) (kr : KRow) (v : Value) (c : CellV), vs[j]? = some v → cs[j]? = some c → kr ∈ kp.rows → kr.bx = b → kr.s = s → kr.i = i + j → placeC st kr = some c ∧ valAt σ w a kr = v) → All2 (RdT (reSg σ w a st kp.rows) rows' M) vs (reCs kp (rho st kp.rows) b s i cs) := by
  induction h with
  | nil => intro i _; exact .nil
  | @cons v c vs cs hx hr ih =>
    intro i hk
    have ih' := ih (i + 1) (fun j kr u d hu hd hm e1 e2 e3 => hk (j + 1) kr u d (by simpa using hu) (by simpa using hd) hm e1 e2 (by omega))
    simp only [reCs]
    refine .cons ?_ ih'
    split
    · rename_i kr hf
      obtain ⟨hm, e1, e2, e3⟩ := findK_mem hf
      obtain ⟨h1, h2⟩ := hk 0 kr v c (by simp) (by simp) hm e1 e2 (by omega)
      exact reCk_rep F hm h1 h2 hx
    · exact reC1_rep hS F hx

theorem reCaps_rep {kp : Keep} {σ' : Sg} (hb : σ'.box = σ.box) {rows' : List (Nat × RowV)} {boxes' : List (Nat × List CellV)} (hbx : ∀ k, k ∈ kp.boxes → (st.box k).isSome = true → (look k boxes').isSome = true) {vs : List Value} {l : List Cap} (h : All2 (RepCap σ st.rows st.boxes M) vs l) : ∀ {l'}, reCaps kp st l = some l' → All2 (RepCap σ' rows' boxes' M) vs l' := by
  induction h with
  | nil => intro l' e; cases e; exact .nil
  | @cons v c vs l hx hr ih =>
    intro l' e
    cases c with
    | box k off =>
      simp only [reCaps] at e
      split at e
      · rename_i r hc h2
        cases e
        rw [Bool.and_eq_true] at hc
        exact .cons ⟨by rw [hb]; exact hx.1, hbx k (by simpa using hc.1) hc.2⟩ (ih h2)
      · cases e
    | ptr cs =>
      simp only [reCaps] at e
      split at e
      · rename_i r h2
        cases e
        exact .cons (unC_ptr hx) (ih h2)
      · cases e

theorem Sim.rename (hT : TabOk P tab) (hS : Sim P base M0 ios σ M w a st) {kp : Keep} (h : renameOk tab kp st = true) : ∃ σ', Sim P base M0 ios σ' M w a (Bv.rename kp st) := by
  have F := renF hS h
  have hrowof : ∀ {k : Nat} {rv : RowV}, look k (reRows st kp.rows) = some rv → ∃ kr ∈ kp.rows, kr.k = k ∧ reRow st kr = some rv := fun hl => reRows_mem hl
  have hbox : ∀ k, ((Bv.rename kp st).box k).isSome = true → (st.box k).isSome = true := fun k hs => by
    have e : (Bv.rename kp st).box k = if k ∈ kp.boxes then _ else none := look_reBoxes kp _ st k kp.boxes
    rw [e] at hs
    split at hs
    · simpa using hs
    · cases hs
  -- a hot row
  have hhot : ∀ {k : Nat}, isHot k (Bv.rename kp st).rows → ∃ kr ∈ kp.rows, kr.k = k ∧ ((∃ r t l, oldOf st kr = .hot r t l ∧ isHot r st.rows ∧ (reSg σ w a st kp.rows).foot k = σ.foot r) ∨ (reSg σ w a st kp.rows).foot k = []) := fun {k} ⟨e, t, l, ver, hole, z, hl⟩ => by
    obtain ⟨kr, hm, ek, hrr⟩ := hrowof hl
    subst ek
    refine ⟨kr, hm, rfl, ?_⟩
    unfold reRow at hrr
    split at hrr
    · rename_i r t' l' ho
      have hs := oldOf_spec st kr
      rw [ho] at hs
      obtain ⟨_, _, ver, z, hl⟩ := hs
      exact .inl ⟨r, t', l', ho, ⟨_, _, _, _, _, _, hl⟩, (F.hotv kr hm r t' l' ho).2.1⟩
    · rename_i t' ho; exact .inr (F.nilv kr hm t' ho).2.1
    · cases hrr
    · cases hrr
    · cases hrr
  -- a cold row
  have hcold : ∀ {k : Nat} {e : TypeId}, (Bv.rename kp st).row k = some e → ∃ kr ∈ kp.rows, kr.k = k ∧ kr.e = e ∧ ((∃ r, oldOf st kr = .cold r ∧ st.row r = some e ∧ (reSg σ w a st kp.rows).row k = σ.row r) ∨ ((reSg σ w a st kp.rows).row k = .slice none 0 0 ∧ (look e tab).isSome = true)) := fun {k e} hr => by
    obtain ⟨rv, hl, hc⟩ := coldOf_of hr
    obtain ⟨kr, hm, ek, hrr⟩ := hrowof hl
    subst ek
    unfold reRow at hrr
    split at hrr
    · cases hrr; cases hc
    · cases hrr; cases hc
    · rename_i r ho
      cases hrr; cases hc
      obtain ⟨_, h2, h3⟩ := F.coldv kr hm r ho
      exact ⟨kr, hm, rfl, rfl, .inl ⟨r, ho, h2, by rw [F.row kr hm, h3]⟩⟩
    · rename_i ho
      cases hrr; cases hc
      have hok := F.ok kr hm
      simp only [rowOk, ho, Bool.and_eq_true] at hok
      exact ⟨kr, hm, rfl, rfl, .inr ⟨by rw [F.row kr hm, F.cnilv kr hm ho], hok.2.2⟩⟩
    · cases hrr
  refine ⟨reSg σ w a st kp.rows, ?_⟩
  exact {
    mem := hS.mem
    nt := hS.nt
    slots := fun i => by
      have hget : (Bv.rename kp st).get i = if i ∈ kp.hold ++ kp.slots then reS kp (rho st kp.rows) st i (resSv st.rows (st.get i)) else .und := by
        simp only [St.get, Bv.rename, look_reSlots]
        split
        · rename_i sv hs
          split at hs
          · rename_i hm; rw [if_pos hm]; cases hs; rfl
          · cases hs
        · rename_i hs
          split at hs
          · cases hs
          · rename_i hm; rw [if_neg hm]
      rw [hget]
      split
      · have hs := resSv_rep hS (fun _ _ h => h) (hS.slots i)
        have hbx : ∀ k, k ∈ kp.boxes → (st.box k).isSome = true → (look k (Bv.rename kp st).boxes).isSome = true := fun k h1 h2 => by
          have e : look k (Bv.rename kp st).boxes = if k ∈ kp.boxes then _ else none := look_reBoxes kp _ st k kp.boxes
          rw [e, if_pos h1]; simpa using h2
        cases hg : resSv st.rows (st.get i) with
        | und => trivial
        | nil => rw [hg] at hs; exact hs
        | tup l => trivial
        | bptr cs r ver => trivial
        | ptr cs => rw [hg] at hs; exact unC_ptr hs
        | fn f x y =>
          rw [hg] at hs
          obtain ⟨va, vb, hv, h1, h2⟩ := hs
          simp only [reS]
          split
          · rename_i x' y' e1 e2
            exact ⟨va, vb, hv, reCaps_rep (σ := σ) (σ' := reSg σ w a st kp.rows) rfl hbx h1 e1, reCaps_rep (σ := σ) (σ' := reSg σ w a st kp.rows) rfl hbx h2 e2⟩
          · trivial
        | hp t r j off =>
          rw [hg] at hs
          simp only [reS]
          split
          · rename_i k hl
            obtain ⟨kr, hm, e, t', l', ho⟩ := rho_mem hl
            subst e
            have hsp := oldOf_spec st kr
            rw [ho] at hsp
            obtain ⟨_, _, ver, z, hl⟩ := hsp
            intro _
            rw [F.row kr hm, (F.hotv kr hm r t' l' ho).1]
            exact hs (by rw [hl]; rfl)
          · trivial
        | box k off =>
          rw [hg] at hs
          simp only [reS]
          split
          · rename_i hc
            rw [Bool.and_eq_true] at hc
            exact ⟨hs.1, hbx k (by simpa using hc.1) hc.2⟩
          · trivial
        | val ag cs =>
          rw [hg] at hs
          refine ⟨reCs_rep hS F hs.1 0 (fun j kr v c hv hc hm e1 e2 e3 => ?_), hs.2⟩
          rw [Nat.zero_add] at e3
          subst e2; subst e3
          constructor
          · unfold placeC slotC
            rw [e1, hg]; exact hc
          · unfold valAt
            rw [e1]
            exact getD_of hv
      · trivial
    boxes := fun k cs hk => by
      have e : (Bv.rename kp st).box k = if k ∈ kp.boxes then _ else none := look_reBoxes kp _ st k kp.boxes
      rw [e] at hk
      split at hk
      · cases hb : st.box k with
        | none => rw [hb] at hk; cases hk
        | some cs' =>
          rw [hb] at hk
          cases hk
          obtain ⟨arr, E, h1, h2⟩ := hS.boxes k cs' hb
          refine ⟨arr, E, h1, reCs_rep hS F (resCs_rep hS (fun _ _ h => h) h2) 0 (fun j kr v c hv hc hm e1 e2 e3 => ?_)⟩
          rw [Nat.zero_add] at e3
          subst e2; subst e3
          constructor
          · unfold placeC boxCe
            rw [e1, hb]; exact hc
          · unfold valAt
            rw [e1]
            simp only
            rw [h1]
            exact getD_of hv
      · cases hk
    boxM := fun k hk => hS.boxM k (hbox k hk)
    boxInj := fun k k' h1 h2 => hS.boxInj k k' (hbox k h1) (hbox k' h2)
    boxBase := fun k hk => hS.boxBase k (hbox k hk)
    rows := fun k e hr => by
      obtain ⟨kr, hm, ek, ee, hv⟩ := hcold hr
      rcases hv with ⟨r, _, h1, h2⟩ | ⟨h1, h2⟩
      · rw [h2]; exact hS.rows r e h1
      · rw [h1]
        obtain ⟨te, hte⟩ := Option.isSome_iff_exists.1 h2
        obtain ⟨inf, z, hi, _⟩ := (hT e te hte).info
        exact ⟨⟨0, [], inf, hi, World.ownsRow_nil _ _ _ _, fun g hg => by cases hg⟩⟩
    rowBox := fun k b hr hb => by
      obtain ⟨e, he⟩ := Option.isSome_iff_exists.1 hr
      obtain ⟨kr, hm, ek, ee, hv⟩ := hcold he
      rcases hv with ⟨r, _, h1, h2⟩ | ⟨h1, _⟩
      · rw [h2]; exact hS.rowBox r b (by rw [h1]; rfl) (hbox b hb)
      · rw [h1]; intro h2; cases h2
    rowInj := fun k k' h1 h2 hne => by
      obtain ⟨e, he⟩ := Option.isSome_iff_exists.1 h1
      obtain ⟨e', he'⟩ := Option.isSome_iff_exists.1 h2
      obtain ⟨kr, hm, ek, ee, hv⟩ := hcold he
      obtain ⟨kr', hm', ek', ee', hv'⟩ := hcold he'
      rcases hv with ⟨r, ho, hre, hv⟩ | ⟨hv, _⟩
      · rcases hv' with ⟨r', ho', hre', hv'⟩ | ⟨hv', _⟩
        · rw [hv, hv']
          refine hS.rowInj r r' (by rw [hre]; rfl) (by rw [hre']; rfl) (fun e2 => ?_)
          subst e2
          have := cold_inj F.colds hm hm' ho ho'
          subst this
          exact hne (ek.symm.trans ek')
        · rw [hv, hv']
          cases hb : (σ.row r).ownBlock with
          | none => exact .inl rfl
          | some g => right; intro h3; cases h3
      · rw [hv]; exact .inl rfl
    hot := {
      ok := fun k e t l ver hole z hl => by
        obtain ⟨kr, hm, ek, hrr⟩ := hrowof hl
        subst ek
        have hok := F.ok kr hm
        unfold reRow at hrr
        split at hrr
        · rename_i r t' l' ho
          cases hrr
          obtain ⟨v1, v2, v3⟩ := F.hotv kr hm r _ _ ho
          have hs := oldOf_spec st kr
          rw [ho] at hs
          obtain ⟨_, _, ver', z', hl'⟩ := hs
          have hk := hS.hotAt hl'
          have hrow := F.row kr hm
          rw [v1] at hrow
          exact {
            info := hk.info
            pos := hk.pos
            own := by show OwnL w t ((reSg σ w a st kp.rows).row kr.k) l ((reSg σ w a st kp.rows).foot kr.k); rw [hrow, v2]; exact hk.own
            nodup := by rw [v2]; exact hk.nodup
            mem := fun ad u hu => by rw [v3] at hu; rw [v2, hrow]; exact hk.mem ad u hu
            full := fun _ ad u h1 h2 h3 => by rw [v2] at h1; rw [hrow] at h2; rw [v3]; exact hk.full rfl ad u h1 h2 h3
            z := fun h => by cases h }
        · rename_i t' ho
          cases hrr
          obtain ⟨⟨ad, v1⟩, v2, v3⟩ := F.nilv kr hm _ ho
          have hrow := F.row kr hm
          rw [v1] at hrow
          simp only [rowOk, ho, Bool.and_eq_true] at hok
          have hok2 := hok.2.2
          split at hok2
          · rename_i te hte
            simp only [Bool.and_eq_true, decide_eq_true_eq] at hok2
            obtain ⟨i, zz, hi, hs, _⟩ := (hT _ te hte).info
            exact {
              info := ⟨i, hi, by rw [hs, hok2.1]⟩
              pos := hok2.2
              own := by show OwnL w t ((reSg σ w a st kp.rows).row kr.k) [] ((reSg σ w a st kp.rows).foot kr.k); rw [hrow, v2]; exact OwnL.emp ad
              nodup := by rw [v2]; exact List.nodup_nil
              mem := fun ad u hu => by rw [v3] at hu; cases hu
              full := fun _ ad u h1 h2 h3 => by rw [v2] at h1; cases h1
              z := fun h => by cases h }
          · cases hok2
        · cases hrr
        · cases hrr
        · cases hrr
      base := fun k hk g hg => by
        obtain ⟨kr, hm, ek, hv⟩ := hhot hk
        rcases hv with ⟨r, t, l, ho, hr, hf⟩ | hf
        · rw [hf] at hg; exact hS.hot.base r hr g hg
        · rw [hf] at hg; cases hg
      noM := fun k hk g hg => by
        obtain ⟨kr, hm, ek, hv⟩ := hhot hk
        rcases hv with ⟨r, t, l, ho, hr, hf⟩ | hf
        · rw [hf] at hg; exact hS.hot.noM r hr g hg
        · rw [hf] at hg; cases hg
      noBox := fun k hk b hb hg => by
        obtain ⟨kr, hm, ek, hv⟩ := hhot hk
        rcases hv with ⟨r, t, l, ho, hr, hf⟩ | hf
        · rw [hf] at hg; exact hS.hot.noBox r hr b (hbox b hb) hg
        · rw [hf] at hg; cases hg
      noRow := fun k hk k' hk' g hg hgf => by
        obtain ⟨kr, hm, ek, hv⟩ := hhot hk
        obtain ⟨e', he'⟩ := Option.isSome_iff_exists.1 hk'
        obtain ⟨kr', hm', ek', ee', hv'⟩ := hcold he'
        rcases hv' with ⟨r', _, hr', hv'⟩ | ⟨hv', _⟩
        · rw [hv'] at hg
          rcases hv with ⟨r, t, l, ho, hr, hf⟩ | hf
          · rw [hf] at hgf; exact hS.hot.noRow r hr r' (by rw [hr']; rfl) g hg hgf
          · rw [hf] at hgf; cases hgf
        · rw [hv'] at hg; cases hg
      apart := fun k k' hk hk' hne g hg hg' => by
        obtain ⟨kr, hm, ek, hv⟩ := hhot hk
        obtain ⟨kr', hm', ek', hv'⟩ := hhot hk'
        rcases hv with ⟨r, t, l, ho, hr, hf⟩ | hf
        · rcases hv' with ⟨r', t', l', ho', hr', hf'⟩ | hf'
          · rw [hf] at hg
            rw [hf'] at hg'
            refine hS.hot.apart r r' hr hr' (fun e => ?_) g hg hg'
            subst e
            have := rho_inj F.hots hm hm' ho ho'
            subst this
            exact hne (ek.symm.trans ek')
          · rw [hf'] at hg'; cases hg'
        · rw [hf] at hg; cases hg
      lt := fun k hk g hg => by
        obtain ⟨kr, hm, ek, hv⟩ := hhot hk
        rcases hv with ⟨r, t, l, ho, hr, hf⟩ | hf
        · rw [hf] at hg; exact hS.hot.lt r hr g hg
        · rw [hf] at hg; cases hg
      frz := fun k e t l ver z hl => by
        obtain ⟨kr, hm, ek, hrr⟩ := hrowof hl
        unfold reRow at hrr
        split at hrr <;> cases hrr }
    fr := hS.fr
    defers := hS.defers
    old := hS.old
    le := hS.le
    pin := hS.pin
    pins := fun p hp hs => by
      obtain ⟨rv, hl⟩ := Option.isSome_iff_exists.1 hs
      obtain ⟨kr, hm, ek, hrr⟩ := hrowof hl
      have heven := ios.even p hp
      have hok := F.ok kr hm
      have hrow := F.row kr hm
      rw [← ek]
      rw [hrow]
      rw [← ek] at heven
      simp only [rowOk, Bool.and_eq_true] at hok
      have hok2 := hok.2
      have hsp := oldOf_spec st kr
      cases ho : oldOf st kr with
      | bad => rw [ho] at hok2; cases hok2
      | nil t => rw [ho] at hok2; simp only [Bool.and_eq_true, beq_iff_eq] at hok2; omega
      | cnil => rw [ho] at hok2; simp only [Bool.and_eq_true, beq_iff_eq] at hok2; omega
      | hot r t l =>
        rw [ho] at hok2 hsp
        simp only [Bool.or_eq_true, beq_iff_eq] at hok2
        obtain ⟨_, _, ver, z, hl'⟩ := hsp
        have e : r = kr.k := by omega
        rw [(F.hotv kr hm r t l ho).1, e]
        have := hS.pins p hp (by rw [← ek, ← e, hl']; rfl)
        rw [← ek] at this; exact this
      | cold r =>
        rw [ho] at hok2
        simp only [Bool.and_eq_true, Bool.or_eq_true, beq_iff_eq] at hok2
        have e : r = kr.k := by omega
        obtain ⟨_, h2, h3⟩ := F.coldv kr hm r ho
        rw [h3, e]
        obtain ⟨rv', hl', _⟩ := coldOf_of h2
        have := hS.pins p hp (by rw [← ek, ← e, hl']; rfl)
        rw [← ek] at this; exact this
    olds := fun i hi => by cases hi }

theorem Sim.weaken (hT : TabOk P tab) (hS : Sim P base M0 ios σ M w a st) {kp : Keep} (h : keepOk tab kp st = true) : ∃ σ' M', Sim P base M0 ios σ' M' w a (Bv.weaken kp st) := by
  unfold keepOk at h
  rw [Bool.and_eq_true] at h
  obtain ⟨h1, h2⟩ := h
  have hfz : ∀ p ∈ loose kp st, ∃ e t l ver z, p.2 = .frz e t l ver z ∧ look p.1 st.rows = some (.hot e t l ver none z) := fun p hp => frz_mem hp
  obtain ⟨M', hS'⟩ := hS.freezes hfz (nodup_of h1)
  have : ready kp st = frzSt (loose kp st) st := by
    unfold ready
    split
    · rename_i he; rw [he]; rfl
    · rfl
  unfold Bv.weaken
  rw [this] at h2 ⊢
  obtain ⟨σ', hS2⟩ := hS'.rename hT h2
  exact ⟨σ', M', hS2⟩

end Go.Proofs.Ytcbehcpmojnnfaa.Bv
