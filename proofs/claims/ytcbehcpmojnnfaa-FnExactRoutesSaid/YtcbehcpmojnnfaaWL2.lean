/- What is kept at a loop's head is kept. -/
import Derived.Test.YtcbehcpmojnnfaaWL1
namespace Go.Proofs.Ytcbehcpmojnnfaa.Bv
set_option linter.unusedVariables false
set_option linter.unusedSimpArgs false

variable {P : Program} {base : World} {M0 : Mem} {ios : Ios} {σ : Sg} {M : Mem} {w : World} {a : Act} {st : St} {tab : Tab} {Γ : Gam}

/-- What stands at a place. -/
def valAt (σ : Sg) (w : World) (a : Act) (kr : KRow) : Value := match kr.bx with
  | false => (a.tmps.getD kr.s undef).cells.toList.getD kr.i undef
  | true => match w.heap[σ.box kr.s]? with
    | some (.cells arr _ _) => arr.toList.getD kr.i undef
    | _ => undef

theorem getD_of {l : List Value} {i : Nat} {v : Value} (h : l[i]? = some v) : l.getD i undef = v := by rw [List.getD_eq_getElem?_getD, h]; rfl

theorem place_rep (hS : Sim P base M0 ios σ M w a st) {kr : KRow} {c : CellV} (h : placeC st kr = some c) : RdT σ st.rows M (valAt σ w a kr) c := by
  unfold placeC at h
  unfold valAt
  cases hb : kr.bx with
  | false =>
    rw [hb] at h
    simp only [slotC] at h ⊢
    have hs := resSv_rep hS (fun _ _ h => h) (hS.slots kr.s)
    split at h
    · rename_i ag cs he
      rw [he] at hs
      obtain ⟨v, hv, hr⟩ := hs.1.get h
      rw [getD_of hv]; exact hr
    · cases h
  | true =>
    rw [hb] at h
    simp only [boxCe] at h ⊢
    split at h
    · rename_i cs hk
      obtain ⟨arr, E, h1, h2⟩ := hS.boxes kr.s cs hk
      obtain ⟨v, hv, hr⟩ := (resCs_rep hS (fun _ _ h => h) h2).get h
      rw [h1]
      simp only
      rw [getD_of hv]; exact hr
    · cases h

/-- What an old name tells. -/
def OldOk (st : St) (kr : KRow) : Old → Prop
  | .bad => True
  | .hot r t l => kr.hot = true ∧ placeC st kr = some (.own t r) ∧ ∃ ver z, look r st.rows = some (.hot kr.e t l ver none z)
  | .nil t => kr.hot = true ∧ (placeC st kr = some (.lst t [] (some 0)) ∨ placeC st kr = some (.emp t))
  | .cold r => kr.hot = false ∧ r ≠ 0 ∧ ∃ t l, placeC st kr = some (.lst t l (some r)) ∧ st.row r = some kr.e
  | .cnil => kr.hot = false ∧ ∃ t l, placeC st kr = some (.lst t l (some 0))

theorem oldOf_spec (st : St) (kr : KRow) : OldOk st kr (oldOf st kr) := by
  unfold oldOf
  split
  · rename_i t r hh hp
    unfold oldHot
    split
    · rename_i e t' l ver z hl
      split
      · rename_i he
        split
        · rename_i ht
          subst ht; subst he
          exact ⟨hh, hp, ver, z, hl⟩
        · trivial
      · trivial
    · trivial
  · rename_i t hh hp; exact ⟨hh, .inl hp⟩
  · rename_i t hh hp; exact ⟨hh, .inr hp⟩
  · rename_i t l hh hp; exact ⟨hh, t, l, hp⟩
  · rename_i t l r hh hp
    split
    · rename_i e he
      split
      · rename_i h; subst h; exact ⟨hh, by omega, t, l, hp, he⟩
      · trivial
    · trivial
  · trivial

theorem rho_mem {r k : Nat} : ∀ {rows : List KRow}, look r (rho st rows) = some k → ∃ kr ∈ rows, kr.k = k ∧ ∃ t l, oldOf st kr = .hot r t l
  | [], h => by cases h
  | kr :: l, h => by
    simp only [rho] at h
    split at h
    · rename_i r' t' l' ho
      rw [look_cons] at h
      split at h
      · rename_i e; subst e; cases h; exact ⟨kr, by simp, rfl, t', l', ho⟩
      · obtain ⟨kr', h1, h2⟩ := rho_mem h; exact ⟨kr', List.mem_cons_of_mem _ h1, h2⟩
    · obtain ⟨kr', h1, h2⟩ := rho_mem h; exact ⟨kr', List.mem_cons_of_mem _ h1, h2⟩

theorem mem_rho {kr : KRow} {r : Nat} {t : Ty} {l : List (El t)} (ho : oldOf st kr = .hot r t l) : ∀ {rows : List KRow}, kr ∈ rows → r ∈ (rho st rows).map (·.1)
  | kr' :: rows, h => by
    simp only [rho]
    rcases List.mem_cons.1 h with e | h
    · subst e; rw [ho]; simp
    · have := mem_rho ho h
      split
      · exact List.mem_cons_of_mem _ this
      · exact this

theorem mem_cold {kr : KRow} {r : Nat} (ho : oldOf st kr = .cold r) : ∀ {rows : List KRow}, kr ∈ rows → r ∈ coldOlds st rows
  | kr' :: rows, h => by
    simp only [coldOlds]
    rcases List.mem_cons.1 h with e | h
    · subst e; rw [ho]; simp
    · have := mem_cold ho h
      split
      · exact List.mem_cons_of_mem _ this
      · exact this

theorem rho_inj {r : Nat} {t t' : Ty} {l : List (El t)} {l' : List (El t')} {kr kr' : KRow} : ∀ {rows : List KRow}, ((rho st rows).map (·.1)).Nodup → kr ∈ rows → kr' ∈ rows → oldOf st kr = .hot r t l → oldOf st kr' = .hot r t' l' → kr = kr'
  | k0 :: rows, hn, h, h', ho, ho' => by
    rcases List.mem_cons.1 h with e | h1 <;> rcases List.mem_cons.1 h' with e' | h1'
    · rw [e, e']
    · subst e
      simp only [rho, ho, List.map_cons, List.nodup_cons] at hn
      exact absurd (mem_rho ho' h1') hn.1
    · subst e'
      simp only [rho, ho', List.map_cons, List.nodup_cons] at hn
      exact absurd (mem_rho ho h1) hn.1
    · refine rho_inj (rows := rows) ?_ h1 h1' ho ho'
      simp only [rho] at hn
      split at hn
      · exact (List.nodup_cons.1 hn).2
      · exact hn

theorem cold_inj {r : Nat} {kr kr' : KRow} : ∀ {rows : List KRow}, (coldOlds st rows).Nodup → kr ∈ rows → kr' ∈ rows → oldOf st kr = .cold r → oldOf st kr' = .cold r → kr = kr'
  | k0 :: rows, hn, h, h', ho, ho' => by
    rcases List.mem_cons.1 h with e | h1 <;> rcases List.mem_cons.1 h' with e' | h1'
    · rw [e, e']
    · subst e
      simp only [coldOlds, ho, List.nodup_cons] at hn
      exact absurd (mem_cold ho' h1') hn.1
    · subst e'
      simp only [coldOlds, ho', List.nodup_cons] at hn
      exact absurd (mem_cold ho h1) hn.1
    · refine cold_inj (rows := rows) ?_ h1 h1' ho ho'
      simp only [coldOlds] at hn
      split at hn
      · exact (List.nodup_cons.1 hn).2
      · exact hn

theorem findK_mem {b : Bool} {s i : Nat} {kr : KRow} : ∀ {rows : List KRow}, findK rows b s i = some kr → kr ∈ rows ∧ kr.bx = b ∧ kr.s = s ∧ kr.i = i
  | [], h => by cases h
  | k0 :: rows, h => by
    simp only [findK] at h
    split at h
    · rename_i hc; cases h; exact ⟨by simp, hc⟩
    · obtain ⟨h1, h2⟩ := findK_mem h; exact ⟨List.mem_cons_of_mem _ h1, h2⟩

theorem findKey_mem {kr : KRow} : ∀ {rows : List KRow}, (rows.map (·.k)).Nodup → kr ∈ rows → findKey rows kr.k = some kr
  | k0 :: rows, hn, h => by
    simp only [List.map_cons, List.nodup_cons] at hn
    simp only [findKey]
    rcases List.mem_cons.1 h with e | h
    · subst e; simp
    · have : k0.k ≠ kr.k := fun e => hn.1 (List.mem_map.2 ⟨kr, h, e.symm⟩)
      rw [if_neg this]; exact findKey_mem hn.2 h

theorem reRows_mem {k : Nat} {rv : RowV} : ∀ {rows : List KRow}, look k (reRows st rows) = some rv → ∃ kr ∈ rows, kr.k = k ∧ reRow st kr = some rv
  | [], h => by cases h
  | kr :: rows, h => by
    simp only [reRows] at h
    split at h
    · rename_i rv' hv
      rw [look_cons] at h
      split at h
      · rename_i e; cases h; exact ⟨kr, by simp, e, hv⟩
      · obtain ⟨kr', h1, h2⟩ := reRows_mem h; exact ⟨kr', List.mem_cons_of_mem _ h1, h2⟩
    · obtain ⟨kr', h1, h2⟩ := reRows_mem h; exact ⟨kr', List.mem_cons_of_mem _ h1, h2⟩

theorem unC_rep {rows rows' : List (Nat × RowV)} {σ' : Sg} {vs : List Value} {cs : List CellV} (h : All2 (RdT σ rows M) vs cs) : All2 (RdT σ' rows' M) vs (unC cs) := by
  induction h with
  | nil => exact .nil
  | @cons v c vs cs hx hr ih =>
    cases c with
    | lst t l tag => exact .cons ⟨hx.1, trivial⟩ ih
    | int k n => exact .cons ⟨hx.1, trivial⟩ ih
    | bool b => exact .cons ⟨hx.1, trivial⟩ ih
    | str s => exact .cons ⟨hx.1, trivial⟩ ih
    | emp t => exact .cons ⟨hx.1, hx.2⟩ ih
    | _ => exact .cons ⟨hx.1, trivial⟩ ih

theorem unC_ptr {rows rows' : List (Nat × RowV)} {σ' : Sg} {v : Value} {cs : List CellV} (h : RepPtr σ rows M v cs) : RepPtr σ' rows' M v (unC cs) := by
  obtain ⟨ad, hv, hc⟩ := h
  obtain ⟨vs, h1, h2⟩ := ptr_cells (σ := σ) (rows := rows) (ad := ad) (cs := cs) (o := 0) (by simpa using hc)
  refine ⟨ad, hv, fun j c hj => ?_⟩
  obtain ⟨u, hu, hr⟩ := (unC_rep (σ' := σ') (rows' := rows') h1).get hj
  exact ⟨u, by simpa using h2 j u hu, hr⟩

theorem look_reSlots (kp : Keep) (ρ : List (Nat × Nat)) (st : St) (i : Nat) : ∀ l, look i (reSlots kp ρ st l) = if i ∈ l then some (reS kp ρ st i (resSv st.rows (st.get i))) else none
  | [] => rfl
  | s :: l => by
    simp only [reSlots, look_cons, look_reSlots kp ρ st i l, List.mem_cons]
    by_cases h : s = i
    · subst h; simp
    · simp [h, Ne.symm h]

theorem look_reBoxes (kp : Keep) (ρ : List (Nat × Nat)) (st : St) (k : Nat) : ∀ l, look k (reBoxes kp ρ st l) = if k ∈ l then (st.box k).map (fun cs => reCs kp ρ true k 0 (resCs st.rows cs)) else none
  | [] => rfl
  | b :: l => by
    simp only [reBoxes]
    cases hb : st.box b with
    | none =>
      rw [look_reBoxes kp ρ st k l]
      by_cases h : k = b
      · subst h; simp [hb]
      · simp [h]
    | some cs =>
      rw [look_cons, look_reBoxes kp ρ st k l]
      by_cases h : b = k
      · subst h; simp [hb]
      · simp [h, Ne.symm h]

end Go.Proofs.Ytcbehcpmojnnfaa.Bv
