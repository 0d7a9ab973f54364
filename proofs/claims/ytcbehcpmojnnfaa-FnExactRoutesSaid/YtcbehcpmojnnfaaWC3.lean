/- Rows that a call hands over. -/
import Derived.Test.YtcbehcpmojnnfaaWC2
namespace Go.Proofs.Ytcbehcpmojnnfaa.Bv
set_option linter.unusedVariables false
set_option linter.unusedSimpArgs false

variable {P : Program} {base : World} {M0 : Mem} {ios : Ios} {σ : Sg} {M : Mem} {w : World} {a : Act} {st : St} {tab : Tab} {o : Oper} {next : Act → World → Prop} {Q : Exit → Act → World → Prop}

structure NewR where
  key : Nat
  e : TypeId
  t : Ty
  l : List (El t)
  v : Value
  fo : List Nat

def NewR.row (x : NewR) : Nat × RowV := (x.key, .hot x.e x.t x.l 0 none false)

theorem noTag_rows {r : Nat} {nr : List (Nat × RowV)} (h : noTag r st = true) (hn : r ∉ nr.map (·.1)) : noTag r { st with rows := nr ++ st.rows } = true := by
  have h0 := look_noTag h
  unfold noTag at h ⊢
  rw [Bool.and_eq_true, Bool.and_eq_true] at h ⊢
  refine ⟨h.1, ?_⟩
  have : look r (nr ++ st.rows) = none := by
    rw [look_app]
    have hx : look r nr = none := by
      cases hl : look r nr with
      | none => rfl
      | some x => exact absurd (List.mem_map.2 ⟨(r, x), look_mem hl, rfl⟩) hn
    rw [hx]; exact h0
  simp [this]

theorem look_rows {nr : List (Nat × RowV)} {r : Nat} {rv : RowV} (h : look r (nr ++ st.rows) = some rv) : (∃ x ∈ nr, x.1 = r ∧ x.2 = rv) ∨ look r st.rows = some rv := by
  rw [look_app] at h
  cases hl : look r nr with
  | none => rw [hl] at h; exact .inr h
  | some x => rw [hl] at h; cases h; exact .inl ⟨_, look_mem hl, rfl, rfl⟩

theorem Sim.addHotsP : ∀ (D : List NewR) {σ : Sg} {st : St}, Sim P base M0 ios σ M w a st → (∀ x ∈ D, noTag x.key st = true ∧ (∀ q ∈ ios.rows, q.1 = x.key → x.v = q.2) ∧ OwnL w x.t x.v x.l x.fo ∧ (∃ i, P.info? x.e = some i ∧ i.size = size x.t) ∧ 0 < size x.t ∧ x.fo.Nodup ∧ ∀ g ∈ x.fo, Free base ios σ M w st g) →
    (D.map (·.key)).Nodup → (∀ x ∈ D, ∀ y ∈ D, x.key ≠ y.key → ∀ g ∈ x.fo, g ∉ y.fo) →
    ∃ σ', Sim P base M0 ios σ' M w a { st with rows := D.map NewR.row ++ st.rows } ∧ (∀ x ∈ D, σ'.row x.key = x.v ∧ σ'.foot x.key = x.fo) ∧ (∀ r, r ∉ D.map (·.key) → σ'.row r = σ.row r ∧ σ'.foot r = σ.foot r) ∧ σ'.box = σ.box
  | [], σ, st, h, _, _, _ => ⟨σ, h, fun x hx => by (cases hx), fun _ _ => ⟨rfl, rfl⟩, rfl⟩
  | x :: D, σ, st, h, hx, hnd, hap => by
    simp only [List.map_cons, List.nodup_cons] at hnd
    obtain ⟨σ1, h1, h2, h3, h4⟩ := Sim.addHotsP D h (fun y hy => hx y (List.mem_cons_of_mem _ hy)) hnd.2 (fun y hy z hz => hap y (List.mem_cons_of_mem _ hy) z (List.mem_cons_of_mem _ hz))
    obtain ⟨k1, k2, k3, k4, k5, k6, k7⟩ := hx x (by simp)
    have hkey : x.key ∉ (D.map NewR.row).map (·.1) := by rw [List.map_map]; exact hnd.1
    have hne : ∀ y ∈ D, x.key ≠ y.key := fun y hy e => hnd.1 (List.mem_map.2 ⟨y, hy, e.symm⟩)
    have hcold : ∀ r, (({ st with rows := D.map NewR.row ++ st.rows } : St).row r).isSome = true → r ∉ D.map (·.key) ∧ (st.row r).isSome = true := fun r hr => by
      obtain ⟨e, he⟩ := Option.isSome_iff_exists.1 hr
      obtain ⟨rv, hl, hc⟩ := coldOf_of he
      have hl' : look r (D.map NewR.row ++ st.rows) = some rv := hl
      rw [look_app] at hl'
      cases hd : look r (D.map NewR.row) with
      | none =>
        rw [hd] at hl'
        refine ⟨fun hm => ?_, by rw [show st.row r = some e from coldOf_mk hl' hc]; rfl⟩
        obtain ⟨y, hy, e1⟩ := List.mem_map.1 hm
        have : (look r (D.map NewR.row)).isSome = true := by
          have gen : ∀ (D : List NewR), y ∈ D → (look r (D.map NewR.row)).isSome = true := fun D => by
            induction D with
            | nil => intro h; cases h
            | cons z D ih =>
              intro h
              simp only [List.map_cons, NewR.row, look_cons]
              split
              · rfl
              · rename_i hz
                rcases List.mem_cons.1 h with e2 | h2
                · subst e2; exact absurd e1 hz
                · exact ih h2
          exact gen D hy
        rw [hd] at this; cases this
      | some x' =>
        rw [hd] at hl'; cases hl'
        obtain ⟨y, hy, e1⟩ := List.mem_map.1 (look_mem hd)
        simp only [NewR.row, Prod.mk.injEq] at e1
        rw [← e1.2] at hc; cases hc
    have h5 := h1.newHotP (r := x.key) (e := x.e) (t := x.t) (l := x.l) (hole := none) (z := false) (v := x.v) (fo := x.fo) (m := memTop w x.t x.v x.fo) (noTag_rows k1 hkey) k2 (fun g hg => by
      have hf := k7 g hg
      exact {
        base := hf.base
        noM := hf.noM
        noBox := fun k hk => by rw [h4]; exact hf.noBox k hk
        noRow := fun r hr => by
          obtain ⟨m1, m2⟩ := hcold r hr
          rw [(h3 r m1).1]; exact hf.noRow r m2
        noHot := fun r hr hgr => by
          by_cases hm : r ∈ D.map (·.key)
          · obtain ⟨y, hy, e1⟩ := List.mem_map.1 hm
            rw [← e1, (h2 y hy).2] at hgr
            exact hap x (by simp) y (List.mem_cons_of_mem _ hy) (hne y hy) g hg hgr
          · rw [(h3 r hm).2] at hgr
            obtain ⟨e, t, l, ver, hole, z, hl⟩ := hr
            rcases look_rows hl with ⟨y, hy, e1, e2⟩ | hl2
            · obtain ⟨y', hy', e3⟩ := List.mem_map.1 hy
              exact hm (List.mem_map.2 ⟨y', hy', by rw [← e1, ← e3]; rfl⟩)
            · exact hf.noHot r ⟨e, t, l, ver, hole, z, hl2⟩ hgr
        lt := hf.lt }) (hotOk_new (σ := σ1) k4 k5 k3 k6 (fun hz => by cases hz))
    refine ⟨_, h5, ?_, ?_, h4⟩
    · intro y hy
      rcases List.mem_cons.1 hy with rfl | hy
      · simp
      · have := Ne.symm (hne y hy)
        simp only [if_neg this]; exact h2 y hy
    · intro r hr
      simp only [List.map_cons, List.mem_cons, not_or] at hr
      simp only [if_neg hr.1]
      exact h3 r hr.2

theorem Sim.addHots : ∀ (D : List NewR) {σ : Sg} {st : St}, Sim P base M0 ios σ M w a st → (∀ x ∈ D, noTag x.key st = true ∧ x.key % 2 = 1 ∧ OwnL w x.t x.v x.l x.fo ∧ (∃ i, P.info? x.e = some i ∧ i.size = size x.t) ∧ 0 < size x.t ∧ x.fo.Nodup ∧ ∀ g ∈ x.fo, Free base ios σ M w st g) →
    (D.map (·.key)).Nodup → (∀ x ∈ D, ∀ y ∈ D, x.key ≠ y.key → ∀ g ∈ x.fo, g ∉ y.fo) →
    ∃ σ', Sim P base M0 ios σ' M w a { st with rows := D.map NewR.row ++ st.rows } ∧ (∀ x ∈ D, σ'.row x.key = x.v ∧ σ'.foot x.key = x.fo) ∧ (∀ r, r ∉ D.map (·.key) → σ'.row r = σ.row r ∧ σ'.foot r = σ.foot r) ∧ σ'.box = σ.box
  | D, σ, st, h, hx, hnd, hap => Sim.addHotsP D h (fun x hm => by obtain ⟨k1, k2, k3⟩ := hx x hm; exact ⟨k1, fun q hq e => absurd (ios.even q hq) (by rw [e]; omega), k3⟩) hnd hap

/-! ### Cells that get their keys -/

def mkD (key : Nat → Nat) (fr : List (Nat × TypeId)) (F : Nat → List Nat) : Nat → List Value → List CellV → List NewR
  | i, u :: vs, .lst t l _ :: cs => match look i fr with
    | some e => ⟨key i, e, t, l, u, F i⟩ :: mkD key fr F (i + 1) vs cs
    | none => mkD key fr F (i + 1) vs cs
  | i, _ :: vs, _ :: cs => mkD key fr F (i + 1) vs cs
  | _, _, _ => []

theorem mkD_rows {key : Nat → Nat} {fr : List (Nat × TypeId)} {F : Nat → List Nat} : ∀ {vs : List Value} {cs : List CellV} (i : Nat), vs.length = cs.length → (mkD key fr F i vs cs).map NewR.row = newRows key fr i cs
  | [], [], i, _ => rfl
  | [], _ :: _, i, h => by simp at h
  | _ :: _, [], i, h => by simp at h
  | u :: vs, c :: cs, i, h => by
    have ih := mkD_rows (key := key) (fr := fr) (F := F) (vs := vs) (cs := cs) (i + 1) (by simpa using h)
    cases c with
    | lst t l tag =>
      simp only [mkD, newRows]
      cases look i fr with
      | none => exact ih
      | some e => simp only [List.map_cons, ih, NewR.row]
    | _ => simp only [mkD, newRows, ih]

theorem mkD_mem {key : Nat → Nat} {fr : List (Nat × TypeId)} {F : Nat → List Nat} {x : NewR} : ∀ {vs : List Value} {cs : List CellV} (i : Nat), x ∈ mkD key fr F i vs cs → ∃ j tag, vs[j]? = some x.v ∧ cs[j]? = some (.lst x.t x.l tag) ∧ look (i + j) fr = some x.e ∧ x.key = key (i + j) ∧ x.fo = F (i + j)
  | [], _, i, h => by simp [mkD] at h
  | _ :: _, [], i, h => by simp [mkD] at h
  | u :: vs, c :: cs, i, h => by
    have rec' : x ∈ mkD key fr F (i + 1) vs cs → ∃ j tag, (u :: vs)[j]? = some x.v ∧ (c :: cs)[j]? = some (.lst x.t x.l tag) ∧ look (i + j) fr = some x.e ∧ x.key = key (i + j) ∧ x.fo = F (i + j) := fun h => by
      obtain ⟨j, tag, h1, h2, h3, h4, h5⟩ := mkD_mem (i + 1) h
      exact ⟨j + 1, tag, by simpa using h1, by simpa using h2, by rw [← h3]; congr 1; omega, by rw [h4]; congr 1; omega, by rw [h5]; congr 1; omega⟩
    cases c with
    | lst t l tag =>
      simp only [mkD] at h
      cases hl : look i fr with
      | none => rw [hl] at h; exact rec' h
      | some e =>
        rw [hl] at h
        rcases List.mem_cons.1 h with rfl | h
        · exact ⟨0, tag, by simp, by simp, by simpa using hl, by simp, by simp⟩
        · exact rec' h
    | _ => exact rec' h

theorem newRows_keys {key : Nat → Nat} {fr : List (Nat × TypeId)} : ∀ {cs : List CellV} (i : Nat) {p : Nat × RowV}, p ∈ newRows key fr i cs → ∃ j, p.1 = key j
  | [], i, p, h => by simp [newRows] at h
  | c :: cs, i, p, h => by
    cases c with
    | lst t l tag =>
      simp only [newRows] at h
      cases hl : look i fr with
      | none => rw [hl] at h; exact newRows_keys (i + 1) h
      | some e =>
        rw [hl] at h
        rcases List.mem_cons.1 h with rfl | h
        · exact ⟨i, rfl⟩
        · exact newRows_keys (i + 1) h
    | _ => exact newRows_keys (i + 1) h

/-- Cells that are handed over read as what they are, under their keys. -/
theorem retag_rep {key : Nat → Nat} {fr : List (Nat × TypeId)} {σ' : Sg} {rows : List (Nat × RowV)} {F : Nat → List Nat} : ∀ {vs : List Value} {cs : List CellV} (i : Nat), vs.length = cs.length → (∀ c ∈ cs, (∃ t l, c = .lst t l none) ∨ plainC c = true) →
    (∀ (j : Nat) (u : Value) (c : CellV), look (i + j) fr = none → vs[j]? = some u → cs[j]? = some c → RdV M u c) → (∀ (j : Nat) (u : Value) (c : CellV), (∀ t l tag, c ≠ .lst t l tag) → vs[j]? = some u → cs[j]? = some c → RdV M u c) →
    (∀ (j : Nat) (e : TypeId), look (i + j) fr = some e → ∀ (u : Value) (t : Ty) (l : List (El t)), vs[j]? = some u → cs[j]? = some (.lst t l none) → u.oneCell' = true ∧ σ'.row (key (i + j)) = u) → All2 (RdT σ' rows M) vs (retag key fr i cs)
  | [], [], i, _, _, _, _, _ => .nil
  | [], _ :: _, i, h, _, _, _, _ => by simp at h
  | _ :: _, [], i, h, _, _, _, _ => by simp at h
  | u :: vs, c :: cs, i, h, hpl, h1, h1', h2 => by
    have ih := retag_rep (key := key) (fr := fr) (σ' := σ') (rows := rows) (F := F) (vs := vs) (cs := cs) (i + 1) (by simpa using h) (fun c hc => hpl c (List.mem_cons_of_mem _ hc))
      (fun j u c hl hu hc => h1 (j + 1) u c (by rw [← hl]; congr 1; omega) (by simpa using hu) (by simpa using hc)) (fun j u c hn hu hc => h1' (j + 1) u c hn (by simpa using hu) (by simpa using hc))
      (fun j e hl u t l hu hc => by
        have := h2 (j + 1) e (by rw [← hl]; congr 1; omega) u t l (by simpa using hu) (by simpa using hc)
        rw [show i + 1 + j = i + (j + 1) by omega]; exact this)
    rcases hpl c (by simp) with ⟨t, l, rfl⟩ | hp
    · simp only [retag]
      cases hl : look i fr with
      | none => exact .cons ⟨h1 0 u _ (by simpa using hl) (by simp) (by simp), trivial⟩ ih
      | some e =>
        obtain ⟨k1, k2⟩ := h2 0 e (by simpa using hl) u t l (by simp) (by simp)
        exact .cons ⟨k1, fun _ => by simpa using k2.symm⟩ ih
    · have hr := h1' 0 u c (fun t l tag e => by subst e; simp [plainC] at hp) (by simp) (by simp)
      cases c <;> simp [plainC] at hp <;> exact .cons ⟨hr, trivial⟩ ih

theorem blks_spec {F : Nat → List Nat} : ∀ {own : List (Nat × TypeId)}, (blks own F).Nodup → (∀ p ∈ own, (F p.1).Nodup) ∧ ∀ p ∈ own, ∀ q ∈ own, p.1 ≠ q.1 → ∀ g ∈ F p.1, g ∉ F q.1
  | [], _ => ⟨fun p hp => (by cases hp), fun p hp => (by cases hp)⟩
  | x :: own, h => by
    have h' : (F x.1 ++ blks own F).Nodup := h
    rw [List.nodup_append] at h'
    obtain ⟨h1, h2, h3⟩ := h'
    obtain ⟨k1, k2⟩ := blks_spec h2
    refine ⟨fun p hp => ?_, fun p hp q hq hne g hg hg' => ?_⟩
    · rcases List.mem_cons.1 hp with e | hp2
      · rw [e]; exact h1
      · exact k1 p hp2
    · rcases List.mem_cons.1 hp with e | hp2 <;> rcases List.mem_cons.1 hq with e' | hq2
      · rw [e, e'] at hne; exact hne rfl
      · rw [e] at hg; exact h3 g hg g (mem_blks.2 ⟨q, hq2, hg'⟩) rfl
      · rw [e'] at hg'; exact h3 g hg' g (mem_blks.2 ⟨p, hp2, hg⟩) rfl
      · exact k2 p hp2 q hq2 hne g hg hg'

theorem look_in {α : Type} {k : Nat} : ∀ {l : List (Nat × α)}, (look k l).isSome = true ↔ ∃ x, (k, x) ∈ l
  | [] => by simp [look]
  | (j, y) :: l => by
    rw [look_cons]
    split
    · rename_i h; subst h; simp
    · rename_i h
      rw [look_in]
      constructor
      · rintro ⟨x, hx⟩; exact ⟨x, List.mem_cons_of_mem _ hx⟩
      · rintro ⟨x, hx⟩
        rcases List.mem_cons.1 hx with e | hx
        · cases e; exact absurd rfl h
        · exact ⟨x, hx⟩

end Go.Proofs.Ytcbehcpmojnnfaa.Bv
