/- The arguments of a call. -/
import Derived.Test.YtcbehcpmojnnfaaWC3
namespace Go.Proofs.Ytcbehcpmojnnfaa.Bv
set_option linter.unusedVariables false
set_option linter.unusedSimpArgs false

variable {P : Program} {base : World} {M0 : Mem} {ios : Ios} {σ : Sg} {M : Mem} {w : World} {a : Act} {st : St} {tab : Tab} {o : Oper} {next : Act → World → Prop} {Q : Exit → Act → World → Prop}

/-- Cells of a variable behind a pointer. -/
theorem box_cells (hS : Sim P base M0 ios σ M w a st) {N : Mem} {k off n : Nat} {cs : List CellV} (hk : st.box k = some cs) (hl : off + n ≤ cs.length) (hN : ∀ ad u, ad.block = σ.box k → w.cell? ad = some u → N ad = some u) {v : Value} (hv : v = .pointer (some ((⟨σ.box k, 0, none⟩ : Addr).add off))) :
    ∃ vs, PtrRep N n v vs ∧ All2 (RdT σ st.rows M) vs ((cs.drop off).take n) := by
  obtain ⟨arr, E, h1, h2⟩ := hS.boxes k cs hk
  have h3 := (h2.drop off).take n
  have hlen := h2.length
  refine ⟨(arr.toList.drop off).take n, ⟨by rw [List.length_take, List.length_drop]; omega, _, hv, fun j u hj => ?_⟩, h3⟩
  rw [List.getElem?_take] at hj
  split at hj
  · rw [addLit, addLit, Nat.zero_add]
    exact hN _ u rfl (cellAtArr h1 hj)
  · cases hj

theorem capCells_rep (hS : Sim P base M0 ios σ M w a st) {N : Mem} (hMN : M.le N) {boxes : List (Nat × List CellV)} (hb : ∀ k cs, look k boxes = some cs → st.box k = some cs) : ∀ {ns : List Nat} {l : List Cap} {vs : List Value} {p : List CellV × List Nat}, All2 (RepCap σ st.rows st.boxes M) vs l → capCells boxes ns l = some p →
    (∀ k ∈ p.2, (st.box k).isSome = true → ∀ ad u, ad.block = σ.box k → w.cell? ad = some u → N ad = some u) → ∃ cs, CapsRep N ns vs cs ∧ All2 (RdT σ st.rows M) cs p.1
  | [], [], vs, p, h, e, _ => by cases h; simp only [capCells, Option.some.injEq] at e; subst e; exact ⟨[], .nil, .nil⟩
  | [], _ :: _, vs, p, h, e, _ => by simp [capCells] at e
  | _ :: _, [], vs, p, h, e, _ => by simp [capCells] at e
  | n :: ns, .ptr cs :: l, vs, p, h, e, hN => by
    cases h with
    | @cons v _ vs _ hx hr =>
      simp only [capCells] at e
      split at e
      · rename_i hn
        simp only [Option.map_eq_some_iff] at e
        obtain ⟨q, hq, e⟩ := e; subst e
        obtain ⟨cs', h1, h2⟩ := capCells_rep hS hMN hb hr hq hN
        obtain ⟨ad, hv, hc⟩ := hx
        obtain ⟨us, k1, k2⟩ := ptr_cells (σ := σ) (rows := st.rows) (ad := ad) (cs := cs) (o := 0) (by simpa using hc)
        refine ⟨us.take n ++ cs', .cons ⟨by rw [List.length_take, k1.length]; omega, ad, hv, fun j u hj => ?_⟩ h1, (k1.take n).append h2⟩
        rw [List.getElem?_take] at hj
        split at hj
        · exact hMN _ _ (by simpa using k2 j u hj)
        · cases hj
      · cases e
  | n :: ns, .box k off :: l, vs, p, h, e, hN => by
    cases h with
    | @cons v _ vs _ hx hr =>
      simp only [capCells] at e
      split at e
      · rename_i cs hk
        split at e
        · rename_i hn
          simp only [Option.map_eq_some_iff] at e
          obtain ⟨q, hq, e⟩ := e; subst e
          obtain ⟨cs', h1, h2⟩ := capCells_rep hS hMN hb hr hq (fun k' hk' => hN k' (by simp [hk']))
          obtain ⟨us, k1, k2⟩ := box_cells hS (N := N) (hb k cs hk) hn (hN k (by simp) (by rw [hb k cs hk]; rfl)) hx.1
          exact ⟨us ++ cs', .cons k1 h1, k2.append h2⟩
        · cases e
      · cases e

theorem argCells_rep (hS : Sim P base M0 ios σ M w a st) {N : Mem} (hMN : M.le N) {vals : List Value} {ins : List In} (h : All2 (fun v i => RepIn σ st M v i) vals ins) :
    ∀ {shs : List Sh} {ts : List TypeId} {p : List CellV × List Nat}, argCells tab shs ts ins = some p → (∀ k ∈ p.2, (st.box k).isSome = true → ∀ ad u, ad.block = σ.box k → w.cell? ad = some u → N ad = some u) →
    ∃ cs, ArgsRep N shs vals cs ∧ All2 (RdT σ st.rows M) cs p.1 := by
  induction h with
  | nil =>
    intro shs ts p h _
    cases shs with
    | nil => cases ts with
      | nil => simp only [argCells, Option.some.injEq] at h; subst h; exact ⟨[], .nil, .nil⟩
      | cons t ts => simp [argCells] at h
    | cons sh shs => cases sh <;> cases ts <;> simp [argCells] at h
  | @cons v i vals ins hx hr ih =>
    intro shs ts p h hN
    cases shs with
    | nil => cases ts <;> simp [argCells] at h
    | cons sh shs =>
      cases ts with
      | nil => cases sh <;> simp [argCells] at h
      | cons t ts =>
        have ht := typed_rep (tab := tab) t hx.rep
        cases sh with
        | one =>
          simp only [argCells] at h
          split at h
          · rename_i c hc
            simp only [Option.map_eq_some_iff] at h
            obtain ⟨q, hq, e⟩ := h; subst e
            obtain ⟨cs, h1, h2⟩ := ih hq hN
            rw [hc] at ht
            exact ⟨_, .cons (sh := .one) (c := [v]) ⟨rfl, ht.2⟩ h1, .cons (RepVal.one ht) h2⟩
          · cases h
        | agg n =>
          simp only [argCells] at h
          split at h
          · rename_i cs0 hc
            split at h
            · rename_i hn
              simp only [Option.map_eq_some_iff] at h
              obtain ⟨q, hq, e⟩ := h; subst e
              obtain ⟨cs, h1, h2⟩ := ih hq hN
              rw [hc] at ht
              obtain ⟨vs, hv, h3⟩ := RepVal.agg ht
              exact ⟨_, .cons (sh := .agg n) (c := vs.toList) ⟨by rw [h3.length]; exact hn, vs, hv, rfl⟩ h1, h3.append h2⟩
            · cases h
          · cases h
        | ptr n =>
          simp only [argCells] at h
          have hp := hx.rep
          split at h
          · rename_i cs0 hc
            split at h
            · rename_i hn
              simp only [Option.map_eq_some_iff] at h
              obtain ⟨q, hq, e⟩ := h; subst e
              obtain ⟨cs, h1, h2⟩ := ih hq hN
              rw [hc] at hp
              obtain ⟨ad, hv, hcs⟩ := hp
              obtain ⟨vs, h3, h4⟩ := ptr_cells (σ := σ) (rows := st.rows) (ad := ad) (cs := cs0) (o := 0) (by simpa using hcs)
              refine ⟨_, .cons (sh := .ptr n) (c := vs.take n) ⟨by rw [List.length_take, h3.length]; omega, ad, hv, ?_⟩ h1, (h3.take n).append h2⟩
              intro j u hu
              rw [List.getElem?_take] at hu
              split at hu
              · exact hMN _ _ (by simpa using h4 j u hu)
              · cases hu
            · cases h
          · rename_i k off hc
            have hb := hx.box k off hc
            rw [hb] at h
            split at h
            · rename_i cs0 hk
              split at h
              · rename_i hn
                simp only [Option.map_eq_some_iff] at h
                obtain ⟨q, hq, e⟩ := h; subst e
                obtain ⟨cs, h1, h2⟩ := ih hq (fun k' hk' => hN k' (by simp [hk']))
                rw [hc] at hp
                obtain ⟨us, k1, k2⟩ := box_cells hS (N := N) hk hn (hN k (by simp) (by rw [hk]; rfl)) hp.1
                exact ⟨_, .cons (sh := .ptr n) k1 h1, k2.append h2⟩
              · cases h
            · cases h
          · cases h
        | clo f ns =>
          simp only [argCells] at h
          have hp := hx.rep
          split at h
          · rename_i f' caps hc
            split at h
            · rename_i hf
              subst hf
              split at h
              · rename_i q0 hq0
                simp only [Option.map_eq_some_iff] at h
                obtain ⟨q, hq, e⟩ := h; subst e
                obtain ⟨cs, h1, h2⟩ := ih hq (fun k' hk' => hN k' (by simp [hk']))
                rw [hc] at hp
                obtain ⟨va, vb, hv, k1, k2⟩ := hp
                have hva : va = #[] := by
                  cases hl : va.toList with
                  | nil => simpa using hl
                  | cons x l => rw [hl] at k1; cases k1
                subst hva
                obtain ⟨cs', m1, m2⟩ := capCells_rep hS hMN hx.boxes k2 hq0 (fun k' hk' => hN k' (by simp [hk']))
                exact ⟨_, .cons (sh := .clo f' ns) ⟨vb, hv, m1⟩ h1, m2.append h2⟩
              · cases h
            · cases h
          · cases h

/-! ### Cell by cell -/

theorem valCs_get {rows : List (Nat × RowV)} : ∀ {cs vs : List CellV}, valCs rows cs = some vs → vs.length = cs.length ∧ ∀ (j : Nat) (c : CellV), cs[j]? = some c → ∃ c', vs[j]? = some c' ∧ valC rows c = some c'
  | [], vs, h => by simp only [valCs, Option.some.injEq] at h; subst h; exact ⟨rfl, fun j c hc => by simp at hc⟩
  | c :: cs, vs, h => by
    simp only [valCs] at h
    split at h
    · rename_i c' l' h1 h2
      cases h
      obtain ⟨k1, k2⟩ := valCs_get h2
      refine ⟨by simp [k1], fun j d hd => ?_⟩
      cases j with
      | zero => simp at hd; subst hd; exact ⟨c', by simp, h1⟩
      | succ j => simp at hd; simpa using k2 j d hd
    · cases h

theorem valC_unT {rows : List (Nat × RowV)} {c c' : CellV} (h : valC rows c = some c') : unT c' = c' := by
  cases c <;> simp only [valC] at h
  case int => cases h; rfl
  case bool => cases h; rfl
  case str => cases h; rfl
  case lst => cases h; rfl
  case emp => cases h; rfl
  case und => cases h
  case own =>
    split at h
    · split at h
      · rename_i ht; subst ht; cases h; rfl
      · cases h
    · cases h
  case sub =>
    split at h
    · split at h
      · cases h; rfl
      · cases h
    · cases h
  case bor =>
    split at h
    · rw [Bool.cond_eq_ite] at h
      split at h
      · cases h; rfl
      · cases h
    · cases h

theorem valCs_unT {rows : List (Nat × RowV)} : ∀ {cs vs : List CellV}, valCs rows cs = some vs → vs.map unT = vs
  | [], vs, h => by simp only [valCs, Option.some.injEq] at h; subst h; rfl
  | c :: cs, vs, h => by
    simp only [valCs] at h
    split at h
    · rename_i c' l' h1 h2
      cases h
      simp only [List.map_cons, valC_unT h1, valCs_unT h2]
    · cases h

def borC : CellV → Option Nat
  | .own _ r => some r
  | .sub _ r _ _ => some r
  | .bor _ _ r _ _ => some r
  | _ => none

theorem borrowed_mem {c : CellV} {r : Nat} (h : borC c = some r) : ∀ {cs : List CellV}, c ∈ cs → r ∈ borrowed cs
  | d :: cs, hm => by
    rcases List.mem_cons.1 hm with e | hm2
    · subst e
      cases c <;> simp only [borC] at h <;> first | (cases h; simp [borrowed]; done) | (cases h; done)
    · have := borrowed_mem h hm2
      cases d <;> simp only [borrowed] <;> first | exact this | exact List.mem_cons_of_mem _ this

theorem restC_mem {skip : List (Nat × TypeId)} {c : CellV} : ∀ {cs : List CellV} (i j : Nat), cs[j]? = some c → look (i + j) skip = none → c ∈ restC skip i cs
  | [], i, j, h, _ => by simp at h
  | d :: cs, i, 0, h, hl => by
    simp at h; subst h
    rw [Nat.add_zero] at hl
    simp [restC, hl]
  | d :: cs, i, j + 1, h, hl => by
    simp at h
    have := restC_mem (skip := skip) (i + 1) j h (by rw [← hl]; congr 1; omega)
    simp only [restC]
    split
    · exact this
    · exact List.mem_cons_of_mem _ this

/-- It reads so in a memory that has what is read. -/
theorem valC_repN (hS : Sim P base M0 ios σ M w a st) {N : Mem} (hMN : M.le N) {rows : List (Nat × RowV)} (hr : ∀ r rv, look r rows = some rv → look r st.rows = some rv) {v : Value} {c c' : CellV} (h : RdT σ st.rows M v c) (hv : valC rows c = some c')
    (hN : ∀ r, borC c = some r → isHot r st.rows → (σ.mem r).le N) : RdV N v c' := by
  cases c with
  | int k n => cases hv; exact h.1
  | bool b => cases hv; exact h.1
  | str s => cases hv; exact h.1
  | lst t l tag => cases hv; exact RdC.mono hMN (.list t) _ _ h.1
  | und => cases hv
  | emp t =>
    cases hv
    obtain ⟨ad, rfl⟩ := h.2
    exact ⟨ad, 0, rfl, by simp, by simp, fun i hi => by simp at hi⟩
  | own t r =>
    simp only [valC] at hv
    split at hv
    · rename_i e t' l ver z hl
      split at hv
      · rename_i ht
        subst ht
        cases hv
        have hl' := hr r _ hl
        have : v = σ.row r := h.2 (by rw [hl']; rfl)
        rw [this]
        exact RdC.mono (hN r rfl ⟨_, _, _, _, _, _, hl'⟩) (.list _) _ _ (hS.hotAt hl').rd
      · cases hv
    · cases hv
  | sub t r lo hi =>
    simp only [valC] at hv
    split at hv
    · rename_i e t' l ver z hl
      split at hv
      · rename_i ht
        subst ht
        cases hv
        have hl' := hr r _ hl
        exact RdC.mono (hN r rfl ⟨_, _, _, _, _, _, hl'⟩) (.list _) _ _ ((show subOf _ (σ.row r) lo hi v from h.2 (by rw [hl']; rfl)).rd (hS.hotAt hl').rd)
      · cases hv
    · cases hv
  | bor t l r ver p =>
    simp only [valC] at hv
    split at hv
    · rename_i e t' l' ver' z hl
      rw [Bool.cond_eq_ite] at hv
      split at hv
      · rename_i he
        cases hv
        have : ver' = ver := by simpa using he
        subst this
        have hl' := hr r _ hl
        exact RdC.mono (hN r rfl ⟨_, _, _, _, _, _, hl'⟩) (.list _) _ _ (h.2 _ hl' rfl).1
      · cases hv
    · cases hv

/-- The blocks of the row that stands at a place. -/
def footAt (σ : Sg) (cs : List CellV) (j : Nat) : List Nat := match cs[j]? with
  | some (.own _ r) => σ.foot r
  | _ => []

/-- A cell that is handed over: a row of one's own, or nothing. -/
def handC (rows : List (Nat × RowV)) (c : CellV) : Option (Option Nat) := match c with
  | .own t r => match look r rows with
    | some (.hot _ t' _ _ none _) => if t' = t then some (some r) else none
    | _ => none
  | .lst _ [] (some 0) => some none
  | .emp _ => some none
  | _ => none

theorem handC_rep (hS : Sim P base M0 ios σ M w a st) {rows : List (Nat × RowV)} (hr : ∀ r rv, look r rows = some rv → look r st.rows = some rv) {v : Value} {c c' : CellV} {x : Option Nat} (h : RdT σ st.rows M v c) (hv : valC rows c = some c') (hh : handC rows c = some x) :
    ∃ t l, c' = .lst t l none ∧ OwnL w t v l (match x with | some r => σ.foot r | none => []) ∧ ∀ r, x = some r → isHot r st.rows ∧ ∃ t0, c = .own t0 r := by
  cases c
  case int => cases hh
  case bool => cases hh
  case str => cases hh
  case sub => cases hh
  case bor => cases hh
  case und => cases hh
  case own t r =>
    cases hl : look r rows with
    | none => simp [handC, hl] at hh
    | some rv =>
      cases rv with
      | hot e t' l ver hole z =>
        cases hole with
        | none =>
          by_cases ht : t' = t
          · subst ht
            simp only [handC, hl, if_true, Option.some.injEq] at hh
            subst hh
            simp only [valC, hl, dif_pos] at hv
            cases hv
            have hl' := hr r _ hl
            have hv : v = σ.row r := h.2 (by rw [hl']; rfl)
            exact ⟨_, l, rfl, by rw [hv]; exact (hS.hotAt hl').own, fun r' e => by cases e; exact ⟨⟨_, _, _, _, _, _, hl'⟩, _, rfl⟩⟩
          · simp [handC, hl, ht] at hh
        | some p => simp [handC, hl] at hh
      | cold e => simp [handC, hl] at hh
      | frz e t' l ver z => simp [handC, hl] at hh
  case lst t l tag =>
    match l, tag with
    | [], some 0 =>
      cases hh
      cases hv
      have hv : v = .slice none 0 0 := by have := h.2; simpa [tagOk] using this
      exact ⟨t, [], rfl, by rw [hv]; exact OwnL.emp none, fun r e => by cases e⟩
    | [], none => simp [handC] at hh
    | [], some (k + 1) => simp [handC] at hh
    | _ :: _, none => simp [handC] at hh
    | _ :: _, some k => simp [handC] at hh
  case emp t =>
    cases hh
    cases hv
    obtain ⟨ad, rfl⟩ := h.2
    exact ⟨t, [], rfl, OwnL.emp ad, fun r e => by cases e⟩

theorem handed_spec {rows : List (Nat × RowV)} {cs : List CellV} : ∀ {own : List (Nat × TypeId)} {ks : List Nat}, handed rows cs own = some ks → (∀ j e, (j, e) ∈ own → ∃ c x, cs[j]? = some c ∧ handC rows c = some x ∧ ∀ r, x = some r → r ∈ ks) ∧ ∀ r ∈ ks, ∃ j e t, (j, e) ∈ own ∧ cs[j]? = some (.own t r)
  | [], ks, h => by simp only [handed, Option.some.injEq] at h; subst h; exact ⟨fun j e hm => by (cases hm), fun r hr => by (cases hr)⟩
  | (j, e) :: own, ks, h => by
    simp only [handed] at h
    split at h
    · rename_i t r ks' hc hk
      split at h
      · rename_i e0 t' l ver z hl
        split at h
        · rename_i ht
          cases h
          obtain ⟨k1, k2⟩ := handed_spec hk
          refine ⟨fun j' e' hm => ?_, fun r' hr' => ?_⟩
          · rcases List.mem_cons.1 hm with e1 | hm
            · cases e1
              exact ⟨_, some r, hc, by simp [handC, hl, ht], fun r' e2 => by cases e2; simp⟩
            · obtain ⟨c, x, m1, m2, m3⟩ := k1 j' e' hm
              exact ⟨c, x, m1, m2, fun r' e2 => List.mem_cons_of_mem _ (m3 r' e2)⟩
          · rcases List.mem_cons.1 hr' with rfl | hr'
            · exact ⟨j, e, t, by simp, hc⟩
            · obtain ⟨j', e', t', m1, m2⟩ := k2 r' hr'
              exact ⟨j', e', t', List.mem_cons_of_mem _ m1, m2⟩
        · cases h
      · cases h
    · rename_i t ks' hc hk
      cases h
      obtain ⟨k1, k2⟩ := handed_spec hk
      refine ⟨fun j' e' hm => ?_, fun r' hr' => ?_⟩
      · rcases List.mem_cons.1 hm with e1 | hm
        · cases e1
          exact ⟨_, none, hc, rfl, fun r' e2 => by cases e2⟩
        · exact k1 j' e' hm
      · obtain ⟨j', e', t', m1, m2⟩ := k2 r' hr'
        exact ⟨j', e', t', List.mem_cons_of_mem _ m1, m2⟩
    · rename_i t ks' hc hk
      cases h
      obtain ⟨k1, k2⟩ := handed_spec hk
      refine ⟨fun j' e' hm => ?_, fun r' hr' => ?_⟩
      · rcases List.mem_cons.1 hm with e1 | hm
        · cases e1
          exact ⟨_, none, hc, rfl, fun r' e2 => by cases e2⟩
        · exact k1 j' e' hm
      · obtain ⟨j', e', t', m1, m2⟩ := k2 r' hr'
        exact ⟨j', e', t', List.mem_cons_of_mem _ m1, m2⟩
    · cases h

theorem backOk_spec {rows : List (Nat × RowV)} {cs : List CellV} : ∀ {own : List (Nat × TypeId)}, backOk rows cs own = true → (∀ j e, (j, e) ∈ own → ∃ c x, cs[j]? = some c ∧ handC rows c = some x ∧ ∀ r, x = some r → r ∈ backKeys cs own) ∧ ∀ r ∈ backKeys cs own, ∃ j e t, (j, e) ∈ own ∧ cs[j]? = some (.own t r)
  | [], h => ⟨fun j e hm => by (cases hm), fun r hr => by (cases hr)⟩
  | (j, e) :: own, h => by
    simp only [backOk, Bool.and_eq_true] at h
    obtain ⟨h1, h2⟩ := h
    obtain ⟨k1, k2⟩ := backOk_spec h2
    have more : ∀ r, r ∈ backKeys cs own → r ∈ backKeys cs ((j, e) :: own) := fun r hr => by
      simp only [backKeys]
      split
      · exact List.mem_cons_of_mem _ hr
      · exact hr
    constructor
    · intro j' e' hm
      rcases List.mem_cons.1 hm with e1 | hm
      · cases e1
        split at h1
        · rename_i t r hc
          split at h1
          · rename_i e0 t' l ver z hl
            have ht : t' = t := by simpa using h1
            exact ⟨_, some r, hc, by simp [handC, hl, ht], fun r' e2 => by cases e2; simp [backKeys, hc]⟩
          · cases h1
        · rename_i t hc
          exact ⟨_, none, hc, rfl, fun r' e2 => by cases e2⟩
        · rename_i t hc
          exact ⟨_, none, hc, rfl, fun r' e2 => by cases e2⟩
        · cases h1
      · obtain ⟨c, x, m1, m2, m3⟩ := k1 j' e' hm
        exact ⟨c, x, m1, m2, fun r' e2 => more _ (m3 r' e2)⟩
    · intro r hr
      simp only [backKeys] at hr
      split at hr
      · rename_i t r0 hc
        rcases List.mem_cons.1 hr with rfl | hr
        · exact ⟨j, e, t, by simp, hc⟩
        · obtain ⟨j', e', t', m1, m2⟩ := k2 r hr
          exact ⟨j', e', t', List.mem_cons_of_mem _ m1, m2⟩
      · obtain ⟨j', e', t', m1, m2⟩ := k2 r hr
        exact ⟨j', e', t', List.mem_cons_of_mem _ m1, m2⟩

end Go.Proofs.Ytcbehcpmojnnfaa.Bv
