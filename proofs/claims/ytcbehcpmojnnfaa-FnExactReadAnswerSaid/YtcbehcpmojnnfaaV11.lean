/- What a function's contract says of its call; and what a call does by value. -/
import Derived.Test.YtcbehcpmojnnfaaV10
namespace Go.Proofs.Ytcbehcpmojnnfaa.Bv
set_option linter.unusedVariables false
set_option linter.unusedSimpArgs false

variable {P : Program} {base : World} {M0 : Mem} {ios : List Nat} {σ : Sg} {M : Mem} {w : World} {a : Act} {st : St} {tab : Tab} {o : Oper} {next : Act → World → Prop} {Q : Exit → Act → World → Prop}

def ArgRep (M : Mem) : Sh → Value → List Value → Prop
  | .one, v, cs => cs = [v] ∧ isAgg' v = false
  | .agg n, v, cs => cs.length = n ∧ ∃ vs : Array Value, v = .agg vs ∧ vs.toList = cs
  | .ptr n, v, cs => cs.length = n ∧ ∃ ad, v = .pointer (some ad) ∧ ∀ j u, cs[j]? = some u → M (ad.add j) = some u

inductive ArgsRep (M : Mem) : List Sh → List Value → List Value → Prop
  | nil : ArgsRep M [] [] []
  | cons {sh v c shs vs cs} : ArgRep M sh v c → ArgsRep M shs vs cs → ArgsRep M (sh :: shs) (v :: vs) (c ++ cs)

inductive ResRep : List (Bool × Nat) → List Value → List Value → Prop
  | nil : ResRep [] [] []
  | cons {ag n v shs vs cs} : v.cells.size = n → isAgg' v = ag → ResRep shs vs cs → ResRep ((ag, n) :: shs) (v :: vs) (v.cells.toList ++ cs)

def retVal : List Value → Value
  | [v] => v
  | l => .tuple l.toArray

structure FreshRows (P : Program) (w w' : World) (M' : Mem) (fresh : List (Nat × TypeId)) (cs : List Value) : Prop where
  row : ∀ p ∈ fresh, ∃ u, cs[p.1]? = some u ∧ RowOk P w.heap.size M' w' u p.2
  apart : ∀ p ∈ fresh, ∀ q ∈ fresh, p.1 ≠ q.1 → ∀ u v, cs[p.1]? = some u → cs[q.1]? = some v → u.ownBlock = none ∨ u.ownBlock ≠ v.ownBlock
  keys : (fresh.map (·.1)).Nodup

structure Ret (P : Program) (con : Con) (w : World) (M : Mem) (ios : List Nat) (r : El con.R) (X : World → Mem → Prop) (e : Ending) (w' : World) : Prop where
  ex : ∃ rs cs M', e = .returned (retVal rs) ∧ M.le M' ∧ (∀ ad v, M' ad = some v → w'.cell? ad = some v) ∧ Fr ios w w' ∧ (∀ ad, ad.block < w.heap.size → M ad = none → M' ad = none) ∧
    ResRep con.shR rs cs ∧ RdC M' con.R cs r ∧ FreshRows P w w' M' con.fresh cs ∧ X w' M'

def IoRep (con : Con) (i : El con.I) (b : Nat) (w : World) (M : Mem) : Prop :=
  ∃ arr E', w.heap[b]? = some (.cells arr E' (0, 0)) ∧ (∀ ad, ad.block = b → M ad = none) ∧ RdC M con.I arr.toList i

def ConOk (P : Program) (n : FuncId) (con : Con) : Prop :=
  ∀ (w : World) (M : Mem) (vs cs : List Value) (i : El con.I) (x : El con.A), (∀ ad v, M ad = some v → w.cell? ad = some v) → ArgsRep M con.shA vs cs → RdC M con.A cs x → con.pre i x →
    if con.io then ∀ b, IoRep con i b w M → Calls P n ((.pointer (some ⟨b, 0, none⟩)) :: vs).toArray w (Ret P con w M [b] (con.f i x).1 (IoRep con (con.f i x).2 b))
    else Calls P n vs.toArray w (Ret P con w M [] (con.f i x).1 (fun _ _ => True))

/-! ### Arguments -/

theorem argCells_rep {ρ : Operand → Value} {args : List Operand} {ins : List In} (h : All2 (fun x i => RepIn σ st M (ρ x) i) args ins) :
    ∀ {shs : List Sh} {ts : List TypeId} {cvs : List CellV}, argCells tab shs ts ins = some cvs →
    ∃ cs, ArgsRep M shs (args.map ρ) cs ∧ All2 (RdT σ st.rows M) cs cvs := by
  induction h with
  | nil =>
    intro shs ts cvs h
    cases shs with
    | nil => cases ts with
      | nil => simp only [argCells, Option.some.injEq] at h; subst h; exact ⟨[], .nil, .nil⟩
      | cons t ts => simp [argCells] at h
    | cons sh shs => cases sh <;> cases ts <;> simp [argCells] at h
  | @cons x i xs is hx hr ih =>
    intro shs ts cvs h
    cases shs with
    | nil => cases ts <;> simp [argCells] at h
    | cons sh shs =>
      cases ts with
      | nil => cases sh <;> simp [argCells] at h
      | cons t ts =>
        have ht := typed_rep (tab := tab) t hx.rep
        cases sh with
        | one =>
          simp only [argCells] at h
          split at h
          · rename_i c hc
            obtain ⟨r, hr', e⟩ := Option.bind_eq_some_iff.1 h
            cases e
            obtain ⟨cs, h1, h2⟩ := ih hr'
            rw [hc] at ht
            have h3 := RepVal.one ht
            exact ⟨_, .cons (sh := .one) (c := [ρ x]) ⟨rfl, ht.2⟩ h1, .cons h3 h2⟩
          · cases h
        | agg n =>
          simp only [argCells] at h
          split at h
          · rename_i cs0 hc
            split at h
            · rename_i hn
              obtain ⟨r, hr', e⟩ := Option.bind_eq_some_iff.1 h
              cases e
              obtain ⟨cs, h1, h2⟩ := ih hr'
              rw [hc] at ht
              obtain ⟨vs, hv, h3⟩ := RepVal.agg ht
              exact ⟨_, .cons (sh := .agg n) (c := vs.toList) ⟨by rw [h3.length]; exact hn, vs, hv, rfl⟩ h1, h3.append h2⟩
            · cases h
          · cases h
        | ptr n =>
          simp only [argCells] at h
          split at h
          · rename_i cs0 hc
            split at h
            · rename_i hn
              obtain ⟨r, hr', e⟩ := Option.bind_eq_some_iff.1 h
              cases e
              obtain ⟨cs, h1, h2⟩ := ih hr'
              have hp := hx.rep
              rw [hc] at hp
              obtain ⟨ad, hv, hcs⟩ := hp
              obtain ⟨vs, h3, h4⟩ := ptr_cells (σ := σ) (rows := st.rows) (ad := ad) (cs := cs0) (o := 0) (by simpa using hcs)
              refine ⟨_, .cons (sh := .ptr n) (c := vs.take n) ⟨by rw [List.length_take, h3.length]; omega, ad, hv, ?_⟩ h1, (h3.take n).append h2⟩
              intro j u hu
              rw [List.getElem?_take] at hu
              split at hu
              · simpa using h4 j u hu
              · cases hu
            · cases h
          · cases h

/-! ### The state behind a call -/

theorem ownsRow_at {w w' : World} {b : Nat} {e : TypeId} {s : Nat} {v : Value} {n : Nat} {xs : List Value} (ho : w.ownsRow b e s v n xs) (h : ∀ g, v.ownBlock = some g → w'.heap[g]? = w.heap[g]?) : w'.ownsRow b e s v n xs := by
  refine ⟨ho.1, ?_⟩
  rcases ho.2 with h0 | ⟨g, cap, cur, rfl, h1, h2, h3⟩
  · exact .inl h0
  · exact .inr ⟨g, cap, cur, rfl, h1, by rw [h g rfl]; exact h2, h3⟩

theorem Sim.called (hS : Sim P base M0 ios σ M w a st) {w' : World} {M' : Mem} {jos : List Nat} (hle : M.le M') (hm : ∀ ad v, M' ad = some v → w'.cell? ad = some v) (hf : Fr jos w w')
    (hold : ∀ ad, ad.block < w.heap.size → M ad = none → M' ad = none) {boxes' : List (Nat × List CellV)}
    (hj : ∀ j ∈ jos, ∃ k, (st.box k).isSome = true ∧ j = σ.box k)
    (hb : ∀ k, (look k boxes').isSome = (st.box k).isSome)
    (hbx : ∀ k cs, look k boxes' = some cs → ∃ arr E, w'.heap[σ.box k]? = some (.cells arr E (0, 0)) ∧ All2 (RdT σ st.rows M') arr.toList cs) :
    Sim P base M0 ios σ M' w' a { st with boxes := boxes' } where
  mem := hm
  nt := hS.nt
  slots := fun i => by
    refine RepSv.carry (σ := σ) (boxes := st.boxes) (ok := fun _ => True) ⟨hle, fun r _ hr => ⟨hr, rfl⟩⟩ (hS.slots i) ?_ ?_
    · show okS _ (st.get i); cases st.get i <;> simp [okS]
    · intro k off _; exact ⟨rfl, fun h => by rw [hb]; exact h⟩
  boxes := hbx
  boxM := fun k hk ad had => by
    have hk' : (st.box k).isSome = true := by rw [← hb]; exact hk
    exact hold ad (by rw [had]; exact hS.box_lt hk') (hS.boxM k hk' ad had)
  boxInj := fun k k' h1 h2 => hS.boxInj k k' (by rw [← hb]; exact h1) (by rw [← hb]; exact h2)
  boxBase := fun k hk => hS.boxBase k (by rw [← hb]; exact hk)
  rows := fun r e he => by
    obtain ⟨n, xs, i, hi, ho, hm'⟩ := (hS.rows r e he).own
    refine ⟨⟨n, xs, i, hi, ownsRow_at ho fun g hg => ?_, fun g hg ad had hoff => ?_⟩⟩
    · refine hf.block g (ho.lt g hg).2 fun hmem => ?_
      obtain ⟨k, hk, e2⟩ := hj g hmem
      exact hS.rowBox r k (by show (st.row r).isSome = true; have h0 : st.row r = some e := he; rw [h0]; rfl) hk (by rw [hg, e2])
    · exact hold ad (by rw [had]; exact (ho.lt g hg).2) (hm' g hg ad had hoff)
  rowBox := fun r k hr hk => hS.rowBox r k hr (by rw [← hb]; exact hk)
  rowInj := hS.rowInj
  fr := by
    refine ⟨hf.os.trans hS.fr.os, hf.tape.trans hS.fr.tape, hf.output.trans hS.fr.output, Nat.le_trans hS.fr.size hf.size, fun j hj' hn => ?_⟩
    rw [hf.block j (Nat.lt_of_lt_of_le hj' hS.fr.size) fun hmem => ?_]
    · exact hS.fr.block j hj' hn
    · obtain ⟨k, hk, e⟩ := hj j hmem
      rcases hS.boxBase k hk with h0 | h0
      · omega
      · rw [e] at hn; exact hn h0
  defers := hS.defers
  old := fun ad h1 h2 => hold ad (Nat.lt_of_lt_of_le h1 hS.fr.size) (hS.old ad h1 h2)
  le := Mem.le_trans hS.le hle
  pin := hS.pin

/-- Rows that a call hands over are kept, one by one. -/
theorem Sim.addRows {d : Nat} {ws : Nat} {w' : World} {cs : List Value} (hws : base.heap.size ≤ ws) : ∀ (fresh : List (Nat × TypeId)) {σ : Sg} {st : St}, Sim P base M0 ios σ M w' a st →
    (∀ p ∈ fresh, noTag (keyRow d p.1) st = true) → (∀ p ∈ fresh, ∃ u, cs[p.1]? = some u ∧ RowOk P ws M w' u p.2) → (fresh.map (·.1)).Nodup →
    (∀ p ∈ fresh, ∀ q ∈ fresh, p.1 ≠ q.1 → ∀ u v, cs[p.1]? = some u → cs[q.1]? = some v → u.ownBlock = none ∨ u.ownBlock ≠ v.ownBlock) →
    (∀ p ∈ fresh, ∀ u, cs[p.1]? = some u → (∀ k, (st.box k).isSome = true → u.ownBlock ≠ some (σ.box k)) ∧ (∀ r, (st.row r).isSome = true → (σ.row r).ownBlock = none ∨ (σ.row r).ownBlock ≠ u.ownBlock)) →
    ∃ σ', Sim P base M0 ios σ' M w' a { st with rows := (fresh.map fun p => (keyRow d p.1, p.2)) ++ st.rows } ∧ (∀ p ∈ fresh, ∀ u, cs[p.1]? = some u → σ'.row (keyRow d p.1) = u) ∧
      (∀ r, (∀ p ∈ fresh, r ≠ keyRow d p.1) → σ'.row r = σ.row r) ∧ σ'.box = σ.box
  | [], σ, st, hS, _, _, _, _, _ => ⟨σ, hS, fun p hp => by (cases hp), fun _ _ => rfl, rfl⟩
  | p :: fresh, σ, st, hS, hn, hr, hnd, hap, hfr => by
    simp only [List.map_cons, List.nodup_cons] at hnd
    obtain ⟨σ1, hS1, h1, h2, h3⟩ := Sim.addRows (d := d) hws fresh hS (fun q hq => hn q (List.mem_cons_of_mem _ hq)) (fun q hq => hr q (List.mem_cons_of_mem _ hq)) hnd.2
      (fun q hq q' hq' => hap q (List.mem_cons_of_mem _ hq) q' (List.mem_cons_of_mem _ hq')) (fun q hq => hfr q (List.mem_cons_of_mem _ hq))
    obtain ⟨u, hu, hrow⟩ := hr p (by simp)
    have hne : ∀ q ∈ fresh, p.1 ≠ q.1 := fun q hq e => hnd.1 (by rw [e]; exact List.mem_map.2 ⟨q, hq, rfl⟩)
    have hkey : ∀ q ∈ fresh, keyRow d p.1 ≠ keyRow d q.1 := fun q hq e => hne q hq (by unfold keyRow at e; omega)
    have hlk : ∀ r, look r ((fresh.map fun p => (keyRow d p.1, p.2)) ++ st.rows) = (if r ∈ fresh.map (fun p => keyRow d p.1) then look r (fresh.map fun p => (keyRow d p.1, p.2)) else look r st.rows) := by
      intro r
      have gen : ∀ (l : List (Nat × TypeId)), look r ((l.map fun p => (keyRow d p.1, p.2)) ++ st.rows) = (if r ∈ l.map (fun p => keyRow d p.1) then look r (l.map fun p => (keyRow d p.1, p.2)) else look r st.rows) := by
        intro l
        induction l with
        | nil => simp
        | cons q l ih =>
          simp only [List.map_cons, List.cons_append, look_cons, ih, List.mem_cons]
          by_cases e : keyRow d q.1 = r
          · subst e; simp
          · have e' : ¬ r = keyRow d q.1 := fun h => e h.symm
            simp only [if_neg e]
            by_cases hm : r ∈ List.map (fun p => keyRow d p.fst) l
            · rw [if_pos hm, if_pos (.inr hm)]
            · rw [if_neg hm, if_neg (fun h => h.elim e' hm)]
      exact gen fresh
    have hnt : noTag (keyRow d p.1) { st with rows := (fresh.map fun p => (keyRow d p.1, p.2)) ++ st.rows } = true := by
      have h0 := hn p (by simp)
      unfold noTag at h0 ⊢
      rw [Bool.and_eq_true, Bool.and_eq_true] at h0 ⊢
      refine ⟨h0.1, ?_⟩
      have h4 := h0.2
      simp only [hlk]
      rw [if_neg]
      · exact h4
      · intro hm
        obtain ⟨q, hq, e⟩ := List.mem_map.1 hm
        exact hkey q hq e.symm
    have hrow' : RowOk P base.heap.size M w' u p.2 := by
      obtain ⟨n, xs, i, hi, ho, hm⟩ := hrow.own
      refine ⟨⟨n, xs, i, hi, ⟨ho.1, ?_⟩, hm⟩⟩
      rcases ho.2 with h0 | ⟨g, cap, cur, rfl, hb, rest⟩
      · exact .inl h0
      · exact .inr ⟨g, cap, cur, rfl, Nat.le_trans hws hb, rest⟩
    obtain ⟨hf1, hf2⟩ := hfr p (by simp) u hu
    have hS2 := hS1.newRow (r := keyRow d p.1) (e := p.2) (v := u) hnt hrow' (fun k hk => by rw [h3]; exact hf1 k hk) (fun r' hr' => by
      simp only [St.row, hlk] at hr'
      by_cases hm : r' ∈ fresh.map (fun p => keyRow d p.1)
      · obtain ⟨q, hq, e⟩ := List.mem_map.1 hm
        obtain ⟨v, hv, _⟩ := hr q (List.mem_cons_of_mem _ hq)
        rw [← e, h1 q hq v hv]
        exact hap q (List.mem_cons_of_mem _ hq) p (by simp) (Ne.symm (hne q hq)) v u hv hu
      · rw [if_neg hm] at hr'
        rw [h2 r' (fun q hq e => hm (List.mem_map.2 ⟨q, hq, e.symm⟩))]
        exact hf2 r' hr')
    refine ⟨_, hS2, ?_, ?_, h3⟩
    · intro q hq v hv
      simp only [List.mem_cons] at hq
      rcases hq with rfl | hq
      · rw [hu] at hv; cases hv; simp
      · simp only [if_neg (Ne.symm (hkey q hq))]; exact h1 q hq v hv
    · intro r hr'
      simp only [if_neg (hr' p (by simp))]
      exact h2 r fun q hq => hr' q (List.mem_cons_of_mem _ hq)

/-! ### Results -/

theorem retag_rep {d : Nat} {fresh : List (Nat × TypeId)} {σ' : Sg} {rows : List (Nat × TypeId)} {vs : List Value} {cvs : List CellV} (h : All2 (RdV M) vs cvs) (hnone : ∀ c ∈ cvs, ∀ t l tag, c = .lst t l tag → tag = none)
    : ∀ (i : Nat), (∀ j u, vs[j]? = some u → (look (i + j) fresh).isSome = true → σ'.row (keyRow d (i + j)) = u) → All2 (RdT σ' rows M) vs (retag d fresh i cvs) := by
  induction h with
  | nil => intro i _; exact .nil
  | @cons v c vs cvs hx hr ih =>
    intro i hrow
    have ih' := ih (fun c' hc' => hnone c' (List.mem_cons_of_mem _ hc')) (i + 1) (fun j u hu hl => by
      have := hrow (j + 1) u (by simpa using hu) (by rw [show i + (j + 1) = i + 1 + j by omega]; exact hl)
      rw [show i + 1 + j = i + (j + 1) by omega]; exact this)
    cases c with
    | lst t l tag =>
      simp only [retag]
      refine .cons ⟨hx, ?_⟩ ih'
      by_cases hl : (look i fresh).isSome = true
      · rw [if_pos hl]
        simp only [tagOk, if_neg (keyRow_ne d i)]
        intro _
        exact (hrow 0 v (by simp) (by simpa using hl)).symm
      · rw [if_neg hl]
        trivial
    | int k n => exact .cons ⟨hx, trivial⟩ ih'
    | bool b => exact .cons ⟨hx, trivial⟩ ih'
    | str s => exact .cons ⟨hx, trivial⟩ ih'

theorem flat_none : ∀ (t : Ty) (x : El t), ∀ c ∈ flat t x, ∀ t' l tag, c = .lst t' l tag → tag = none
  | .int _, _, c, h, t', l, tag, e => by simp [flat] at h; subst h; cases e
  | .bool, _, c, h, t', l, tag, e => by simp [flat] at h; subst h; cases e
  | .str, _, c, h, t', l, tag, e => by simp [flat] at h; subst h; cases e
  | .list t, l0, c, h, t', l, tag, e => by simp [flat] at h; subst h; cases e; rfl
  | .unit, _, c, h, t', l, tag, e => by simp [flat] at h
  | .pair a b, x, c, h, t', l, tag, e => by
    simp only [flat, List.mem_append] at h
    rcases h with h | h
    · exact flat_none a x.1 c h t' l tag e
    · exact flat_none b x.2 c h t' l tag e

theorem splitR_rep {σ' : Sg} {rows : List (Nat × TypeId)} : ∀ {shs : List (Bool × Nat)} {rs cs : List Value} {cvs : List CellV}, ResRep shs rs cs → All2 (RdT σ' rows M) cs cvs → All2 (RepVal σ' rows M) rs (splitR shs cvs)
  | _, _, _, _, .nil, _ => .nil
  | _, _, _, cvs, .cons (ag := ag) (n := n) (v := v) (cs := cs) hn ha hr, h => by
    simp only [splitR]
    have hlen : v.cells.toList.length = n := by rw [Array.length_toList]; exact hn
    have h1 := h.take n
    have h2 := h.drop n
    rw [← hlen] at h1 h2
    rw [List.take_left] at h1
    rw [List.drop_left] at h2
    rw [hlen] at h1 h2
    exact .cons ⟨h1, ha⟩ (splitR_rep hr h2)

theorem resSv_rep {σ' : Sg} {rows : List (Nat × TypeId)} {boxes : List (Nat × List CellV)} {rs : List Value} {l : List (Bool × List CellV)} (h : All2 (RepVal σ' rows M) rs l) : RepSv σ' rows boxes M (retVal rs) (resSv l) := by
  cases h with
  | nil => exact ⟨#[], rfl, .nil⟩
  | cons hx hr =>
    cases hr with
    | nil => exact hx
    | cons hy hr' => exact ⟨_, rfl, by simpa using .cons hx (.cons hy hr')⟩

end Go.Proofs.Ytcbehcpmojnnfaa.Bv
