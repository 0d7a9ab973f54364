/- When a local state by value is what a frame and its memory hold; and how it is kept when memory grows. -/
import Derived.Test.YtcbehcpmojnnfaaV2
import Derived.OwnWalk
import Derived.Deep.Draws
import Derived.Laws.Append
namespace Go.Proofs.Ytcbehcpmojnnfaa.Bv
set_option linter.unusedVariables false
set_option linter.unusedSimpArgs false

/-! ### The tables -/

def zeros : Ty → List Value
  | .int k => [.int k 0]
  | .bool => [.bool false]
  | .str => [.string ⟨#[]⟩]
  | .list _ => [.slice none 0 0]
  | .unit => []
  | .pair a b => zeros a ++ zeros b

structure TIok (P : Program) (tab : Tab) (t : TypeId) (ti : TI) : Prop where
  info : ∃ i z, P.info? t = some i ∧ i.size = size ti.ty ∧ i.bytes = ti.bytes ∧ i.zero = some z ∧ z.cells.toList = zeros ti.ty
  und : if ti.agg then ∃ fs, P.underlying t = some (.struct fs) ∧ fs.toList.map (fun f => (f.offset, f.type)) = ti.fields ∧ (∀ p ∈ ti.fields, (look p.2 tab).isSome = true)
    else match ti.ty with
      | .int k => P.underlying t = some (.int k)
      | .bool => P.underlying t = some .bool
      | .str => P.underlying t = some .string
      | .list _ => P.underlying t = some (.slice ti.elem)
      | _ => False

def TabOk (P : Program) (tab : Tab) : Prop := ∀ t ti, look t tab = some ti → TIok P tab t ti

/-! ### What is what -/

structure Sg where
  box : Nat → Nat
  row : Nat → Value

def tagOk (σ : Sg) (rows : List (Nat × TypeId)) (v : Value) : CellV → Prop
  | .lst _ _ (some r) => if r = 0 then v = .slice none 0 0 else (look r rows).isSome = true → v = σ.row r
  | _ => True

def RdT (σ : Sg) (rows : List (Nat × TypeId)) (M : Mem) (v : Value) (c : CellV) : Prop := RdV M v c ∧ tagOk σ rows v c

def isAgg' : Value → Bool
  | .agg _ => true
  | _ => false

def RepVal (σ : Sg) (rows : List (Nat × TypeId)) (M : Mem) (v : Value) (p : Bool × List CellV) : Prop :=
  All2 (RdT σ rows M) v.cells.toList p.2 ∧ isAgg' v = p.1

def RepPtr (σ : Sg) (rows : List (Nat × TypeId)) (M : Mem) (v : Value) (cs : List CellV) : Prop :=
  ∃ a, v = .pointer (some a) ∧ ∀ i c, cs[i]? = some c → ∃ u, M (a.add i) = some u ∧ RdT σ rows M u c

def RepSv (σ : Sg) (rows : List (Nat × TypeId)) (boxes : List (Nat × List CellV)) (M : Mem) (v : Value) : Sv → Prop
  | .und => True
  | .nil => v = .slice none 0 0
  | .val ag cs => RepVal σ rows M v (ag, cs)
  | .box k off => v = .pointer (some ((⟨σ.box k, 0, none⟩ : Addr).add off)) ∧ (look k boxes).isSome = true
  | .ptr cs => RepPtr σ rows M v cs
  | .tup l => ∃ vs, v = .tuple vs ∧ All2 (RepVal σ rows M) vs.toList l
  | .fn f caps => caps = [] ∧ v = .func (.func f) #[] #[]

/-- What a call leaves of the memory that was there: all but some blocks. -/
structure Fr (ios : List Nat) (w0 w : World) : Prop where
  os : w.os = w0.os
  tape : w.tape = w0.tape
  output : w.output = w0.output
  size : w0.heap.size ≤ w.heap.size
  block : ∀ k, k < w0.heap.size → k ∉ ios → w.heap[k]? = w0.heap[k]?

theorem Fr.refl (ios : List Nat) (w : World) : Fr ios w w := ⟨rfl, rfl, rfl, Nat.le_refl _, fun _ _ _ => rfl⟩
theorem Fr.trans {ios : List Nat} {a b c : World} (h : Fr ios a b) (k : Fr ios b c) : Fr ios a c :=
  ⟨k.os.trans h.os, k.tape.trans h.tape, k.output.trans h.output, Nat.le_trans h.size k.size,
    fun i hi hn => (k.block i (Nat.lt_of_lt_of_le hi h.size) hn).trans (h.block i hi hn)⟩
theorem Fr.of_grown {ios : List Nat} {w0 w w' : World} {row : Option Nat} (h : Fr ios w0 w) (hg : w.grownBy w' row) (hr : ∀ k, row = some k → w0.heap.size ≤ k) : Fr ios w0 w' :=
  ⟨hg.os.trans h.os, hg.tape.trans h.tape, hg.output.trans h.output, Nat.le_trans h.size hg.size,
    fun i hi hn => (hg.block i (Nat.lt_of_lt_of_le hi h.size) (fun e => by have := hr i e.symm; omega)).trans (h.block i hi hn)⟩

structure RowOk (P : Program) (base : Nat) (M : Mem) (w : World) (v : Value) (e : TypeId) : Prop where
  own : ∃ n xs i, P.info? e = some i ∧ w.ownsRow base e i.size v n xs ∧ ∀ g, v.ownBlock = some g → ∀ ad, ad.block = g → n * i.size ≤ ad.off → M ad = none

structure Sim (P : Program) (base : World) (M0 : Mem) (ios : List Nat) (σ : Sg) (M : Mem) (w : World) (a : Act) (st : St) : Prop where
  mem : ∀ ad v, M ad = some v → w.cell? ad = some v
  nt : a.tmps.size = st.nt
  slots : ∀ i, RepSv σ st.rows st.boxes M (a.tmps.getD i undef) (st.get i)
  boxes : ∀ k cs, st.box k = some cs → ∃ arr E, w.heap[σ.box k]? = some (.cells arr E (0, 0)) ∧ All2 (RdT σ st.rows M) arr.toList cs
  boxM : ∀ k, (st.box k).isSome = true → ∀ ad, ad.block = σ.box k → M ad = none
  boxInj : ∀ k k', (st.box k).isSome = true → (st.box k').isSome = true → σ.box k = σ.box k' → k = k'
  boxBase : ∀ k, (st.box k).isSome = true → base.heap.size ≤ σ.box k ∨ σ.box k ∈ ios
  rows : ∀ r e, st.row r = some e → RowOk P base.heap.size M w (σ.row r) e
  rowBox : ∀ r k, (st.row r).isSome = true → (st.box k).isSome = true → (σ.row r).ownBlock ≠ some (σ.box k)
  rowInj : ∀ r r', (st.row r).isSome = true → (st.row r').isSome = true → r ≠ r' → (σ.row r).ownBlock = none ∨ (σ.row r).ownBlock ≠ (σ.row r').ownBlock
  fr : Fr ios base w
  defers : a.defers = []
  old : ∀ ad, ad.block < base.heap.size → M0 ad = none → M ad = none
  le : M0.le M
  pin : ∀ b ∈ ios, σ.box 0 = b

/-! ### Monotone -/

theorem tagOk.mono {σ σ' : Sg} {rows rows' : List (Nat × TypeId)} {v : Value} {c : CellV} (h : tagOk σ rows v c)
    (hr : ∀ t l r, c = .lst t l (some r) → (look r rows').isSome = true → (look r rows).isSome = true ∧ σ'.row r = σ.row r) : tagOk σ' rows' v c := by
  cases c with
  | lst t l tag =>
    cases tag with
    | none => trivial
    | some r =>
      simp only [tagOk] at h ⊢
      split at h
      · rename_i h0; rw [if_pos h0]; exact h
      · rename_i h0
        rw [if_neg h0]
        intro hs
        obtain ⟨h1, h2⟩ := hr t l r rfl hs
        rw [h2]; exact h h1
  | _ => trivial

theorem look_mem {α : Type} {k : Nat} {l : List (Nat × α)} {x : α} (h : look k l = some x) : (k, x) ∈ l := by
  induction l with
  | nil => simp [look] at h
  | cons p r ih =>
    obtain ⟨j, y⟩ := p
    simp only [look] at h
    split at h
    · rename_i e; subst e; cases h; simp
    · exact List.mem_cons_of_mem _ (ih h)

theorem All2.imp_mem {α β : Type} {R S : α → β → Prop} {as : List α} {bs : List β} (h : All2 R as bs) (hi : ∀ a b, b ∈ bs → R a b → S a b) : All2 S as bs := by
  induction h with
  | nil => exact .nil
  | cons x _ ih => exact .cons (hi _ _ (by simp) x) (ih fun a b hb => hi a b (List.mem_cons_of_mem _ hb))

theorem noTagC_mem {r : Nat} {cs : List CellV} (h : noTagC r cs = true) {t : Ty} {l : List (El t)} {r' : Nat} (hm : CellV.lst t l (some r') ∈ cs) : r' ≠ r := by
  induction cs with
  | nil => cases hm
  | cons c cs ih =>
    simp only [List.mem_cons] at hm
    rcases hm with hm | hm
    · subst hm
      simp only [noTagC, Bool.and_eq_true] at h
      simpa using h.1
    · refine ih ?_ hm
      cases c with
      | lst t l tag => cases tag with
        | none => exact h
        | some r2 => simp only [noTagC, Bool.and_eq_true] at h; exact h.2
      | _ => exact h

theorem noTagL_mem {r : Nat} {l : List (Bool × List CellV)} (h : noTagL r l = true) {p : Bool × List CellV} (hp : p ∈ l) : noTagC r p.2 = true := by
  induction l with
  | nil => cases hp
  | cons q l ih =>
    simp only [noTagL, Bool.and_eq_true] at h
    simp only [List.mem_cons] at hp
    rcases hp with rfl | hp
    · exact h.1
    · exact ih h.2 hp

theorem noTagSlots_mem {r : Nat} {l : List (Nat × Sv)} (h : noTagSlots r l = true) {p : Nat × Sv} (hp : p ∈ l) : noTagS r p.2 = true := by
  induction l with
  | nil => cases hp
  | cons q l ih =>
    simp only [noTagSlots, Bool.and_eq_true] at h
    simp only [List.mem_cons] at hp
    rcases hp with rfl | hp
    · exact h.1
    · exact ih h.2 hp

theorem noTagBoxes_mem {r : Nat} {l : List (Nat × List CellV)} (h : noTagBoxes r l = true) {p : Nat × List CellV} (hp : p ∈ l) : noTagC r p.2 = true := by
  induction l with
  | nil => cases hp
  | cons q l ih =>
    simp only [noTagBoxes, Bool.and_eq_true] at h
    simp only [List.mem_cons] at hp
    rcases hp with rfl | hp
    · exact h.1
    · exact ih h.2 hp

theorem noBoxSlots_mem {k : Nat} {l : List (Nat × Sv)} (h : noBoxSlots k l = true) {p : Nat × Sv} (hp : p ∈ l) : noBoxS k p.2 = true := by
  induction l with
  | nil => cases hp
  | cons q l ih =>
    simp only [noBoxSlots, Bool.and_eq_true] at h
    simp only [List.mem_cons] at hp
    rcases hp with rfl | hp
    · exact h.1
    · exact ih h.2 hp

theorem noTags_mem {st : St} {l : List (Nat × TypeId)} (h : noTags st l = true) {p : Nat × TypeId} (hp : p ∈ l) : noTag p.1 st = true := by
  induction l with
  | nil => cases hp
  | cons q l ih =>
    simp only [noTags, Bool.and_eq_true] at h
    simp only [List.mem_cons] at hp
    rcases hp with rfl | hp
    · exact h.1
    · exact ih h.2 hp

/-- How reading carries over to other memory, rows and maps. -/
structure Carry (σ : Sg) (rows : List (Nat × TypeId)) (M : Mem) (σ' : Sg) (rows' : List (Nat × TypeId)) (M' : Mem) (ok : Nat → Prop) : Prop where
  mem : M.le M'
  row : ∀ r, ok r → (look r rows').isSome = true → (look r rows).isSome = true ∧ σ'.row r = σ.row r

theorem RdT.carry {σ σ' : Sg} {rows rows' : List (Nat × TypeId)} {M M' : Mem} {ok : Nat → Prop} (hc : Carry σ rows M σ' rows' M' ok) {v : Value} {c : CellV}
    (h : RdT σ rows M v c) (hok : ∀ t l r, c = .lst t l (some r) → ok r) : RdT σ' rows' M' v c :=
  ⟨h.1.mono hc.mem, h.2.mono fun t l r e hs => hc.row r (hok t l r e) hs⟩

theorem carryC {σ σ' : Sg} {rows rows' : List (Nat × TypeId)} {M M' : Mem} {ok : Nat → Prop} (hc : Carry σ rows M σ' rows' M' ok) {vs : List Value} {cs : List CellV}
    (h : All2 (RdT σ rows M) vs cs) (hok : ∀ t l r, CellV.lst t l (some r) ∈ cs → ok r) : All2 (RdT σ' rows' M') vs cs :=
  h.imp_mem fun a b hb hab => hab.carry hc fun t l r e => hok t l r (e ▸ hb)

def okS (ok : Nat → Prop) : Sv → Prop
  | .val _ cs => ∀ t l r, CellV.lst t l (some r) ∈ cs → ok r
  | .ptr cs => ∀ t l r, CellV.lst t l (some r) ∈ cs → ok r
  | .tup l => ∀ p ∈ l, ∀ t l' r, CellV.lst t l' (some r) ∈ p.2 → ok r
  | _ => True

theorem RepSv.carry {σ σ' : Sg} {rows rows' : List (Nat × TypeId)} {boxes boxes' : List (Nat × List CellV)} {M M' : Mem} {ok : Nat → Prop} (hc : Carry σ rows M σ' rows' M' ok) {v : Value} {sv : Sv}
    (h : RepSv σ rows boxes M v sv) (hok : okS ok sv) (hb : ∀ k off, sv = .box k off → σ'.box k = σ.box k ∧ ((look k boxes).isSome = true → (look k boxes').isSome = true)) :
    RepSv σ' rows' boxes' M' v sv := by
  cases sv with
  | und => trivial
  | nil => exact h
  | val ag cs => exact ⟨carryC hc h.1 hok, h.2⟩
  | box k off => obtain ⟨h1, h2⟩ := h; obtain ⟨h3, h4⟩ := hb k off rfl; exact ⟨by rw [h3]; exact h1, h4 h2⟩
  | ptr cs =>
    obtain ⟨a, ha, h⟩ := h
    refine ⟨a, ha, fun i c hi => ?_⟩
    obtain ⟨u, hu, hr⟩ := h i c hi
    exact ⟨u, hc.mem _ _ hu, hr.carry hc fun t l r e => hok t l r (e ▸ List.mem_of_getElem? hi)⟩
  | tup l =>
    obtain ⟨vs, hv, h⟩ := h
    exact ⟨vs, hv, h.imp_mem fun a b hb hab => ⟨carryC hc hab.1 (hok b hb), hab.2⟩⟩
  | fn f caps => exact h

theorem get_mem {st : St} {i : Nat} : st.get i = .und ∨ (i, st.get i) ∈ st.slots := by
  unfold St.get
  cases h : look i st.slots with
  | none => exact .inl rfl
  | some sv => exact .inr (look_mem h)

theorem noTag_okS {r : Nat} {sv : Sv} (h : noTagS r sv = true) : okS (fun r' => r' ≠ r) sv := by
  cases sv with
  | val ag cs => exact fun t l r' hm => noTagC_mem h hm
  | ptr cs => exact fun t l r' hm => noTagC_mem h hm
  | tup l => exact fun p hp t l' r' hm => noTagC_mem (noTagL_mem h hp) hm
  | _ => trivial

end Go.Proofs.Ytcbehcpmojnnfaa.Bv
