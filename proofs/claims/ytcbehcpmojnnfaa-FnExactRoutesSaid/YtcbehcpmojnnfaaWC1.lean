/- What a function's contract says of its call. -/
import Derived.Test.YtcbehcpmojnnfaaWH5
namespace Go.Proofs.Ytcbehcpmojnnfaa.Bv
set_option linter.unusedVariables false
set_option linter.unusedSimpArgs false

variable {P : Program} {base : World} {M0 : Mem} {ios : Ios} {σ : Sg} {M : Mem} {w : World} {a : Act} {st : St} {tab : Tab} {o : Oper} {next : Act → World → Prop} {Q : Exit → Act → World → Prop}

/-- A pointer to cells that are only read. -/
def PtrRep (M : Mem) (n : Nat) (v : Value) (cs : List Value) : Prop := cs.length = n ∧ ∃ ad, v = .pointer (some ad) ∧ ∀ j u, cs[j]? = some u → M (ad.add j) = some u

inductive CapsRep (M : Mem) : List Nat → List Value → List Value → Prop
  | nil : CapsRep M [] [] []
  | cons {n v c ns vs cs} : PtrRep M n v c → CapsRep M ns vs cs → CapsRep M (n :: ns) (v :: vs) (c ++ cs)

def ArgRep (M : Mem) : Sh → Value → List Value → Prop
  | .one, v, cs => cs = [v] ∧ isAgg' v = false
  | .agg n, v, cs => cs.length = n ∧ ∃ vs : Array Value, v = .agg vs ∧ vs.toList = cs
  | .ptr n, v, cs => PtrRep M n v cs
  | .clo f ns, v, cs => ∃ vb, v = .func (.func f) #[] vb ∧ CapsRep M ns vb.toList cs

inductive ArgsRep (M : Mem) : List Sh → List Value → List Value → Prop
  | nil : ArgsRep M [] [] []
  | cons {sh v c shs vs cs} : ArgRep M sh v c → ArgsRep M shs vs cs → ArgsRep M (sh :: shs) (v :: vs) (c ++ cs)

inductive ResRep : List (Bool × Nat) → List Value → List Value → Prop
  | nil : ResRep [] [] []
  | cons {ag n v shs vs cs} : v.cells.size = n → isAgg' v = ag → ResRep shs vs cs → ResRep ((ag, n) :: shs) (v :: vs) (v.cells.toList ++ cs)

def retVal : List Value → Value
  | [v] => v
  | l => .tuple l.toArray

/-- Cells, some of them rows of one's own. -/
structure OwnIn (w : World) (M : Mem) (own : List (Nat × TypeId)) (vs : List Value) (cs : List CellV) (F : Nat → List Nat) : Prop where
  len : vs.length = cs.length
  rd : ∀ j u c, look j own = none → vs[j]? = some u → cs[j]? = some c → RdV M u c
  own : ∀ j e, look j own = some e → ∃ u t l, vs[j]? = some u ∧ cs[j]? = some (.lst t l none) ∧ OwnL w t u l (F j)

/-- Their blocks. -/
def blks (own : List (Nat × TypeId)) (F : Nat → List Nat) : List Nat := (own.map fun p => F p.1).flatten

theorem mem_blks {own : List (Nat × TypeId)} {F : Nat → List Nat} {g : Nat} : g ∈ blks own F ↔ ∃ p ∈ own, g ∈ F p.1 := by
  unfold blks
  simp only [List.mem_flatten, List.mem_map]
  constructor
  · rintro ⟨l, ⟨p, hp, rfl⟩, hg⟩; exact ⟨p, hp, hg⟩
  · rintro ⟨p, hp, hg⟩; exact ⟨_, ⟨p, hp, rfl⟩, hg⟩

/-- The types of the elements are as the table has them. -/
def elemsOk (P : Program) (own : List (Nat × TypeId)) (cs : List CellV) : Prop := ∀ j e, look j own = some e → ∀ t l tag, cs[j]? = some (.lst t l tag) → (∃ i, P.info? e = some i ∧ i.size = size t) ∧ 0 < size t

structure Back (w : World) (own : List (Nat × TypeId)) (vs : List Value) (bs : List CellV) (F : Nat → List Nat) : Prop where
  len : bs.length = own.length
  own : ∀ (k j : Nat) (e : TypeId), own[k]? = some (j, e) → ∃ (u : Value) (t : Ty) (l : List (El t)), vs[j]? = some u ∧ bs[k]? = some (CellV.lst t l none) ∧ OwnL w t u l (F j)

structure Ret (P : Program) (con : Con) (w : World) (M : Mem) (blk : List Nat) (b : Option Nat) (cs : List Value) (i : El con.I) (x : El con.A) (e : Ending) (w' : World) : Prop where
  ex : ∃ rs y cs' M' FR FI FB nb, e = .returned (retVal rs) ∧ con.Post i x y ∧ M.le M' ∧ (∀ ad v, M' ad = some v → w'.cell? ad = some v) ∧ Fr blk w w' ∧ (∀ ad, ad.block < w.heap.size → ad.block ∉ blk → M ad = none → M' ad = none) ∧
    (match con.newR with
      | false => nb = [] ∧ ResRep con.shR rs cs'
      | true => ∃ g arr E, nb = [g] ∧ rs = [.pointer (some ⟨g, 0, none⟩)] ∧ w'.heap[g]? = some (.cells arr E (0, 0)) ∧ arr.toList = cs' ∧ w.heap.size ≤ g) ∧
    OwnIn w' M' con.fresh cs' (flat con.R y.1) FR ∧
    (∀ g, b = some g → ∃ arr E, w'.heap[g]? = some (.cells arr E (0, 0)) ∧ OwnIn w' M' con.ownI arr.toList (flat con.I y.2.1) FI ∧ ∀ ad, ad.block = g → M' ad = none) ∧
    Back w' con.backA cs (flat con.B y.2.2) FB ∧
    elemsOk P con.fresh (flat con.R y.1) ∧ elemsOk P con.ownI (flat con.I y.2.1) ∧
    (nb ++ (blks con.fresh FR ++ ((match b with | some _ => blks con.ownI FI | none => []) ++ blks con.backA FB))).Nodup ∧
    ∀ g ∈ nb ++ (blks con.fresh FR ++ ((match b with | some _ => blks con.ownI FI | none => []) ++ blks con.backA FB)), (w.heap.size ≤ g ∨ (g ∈ blk ∧ b ≠ some g)) ∧ g < w'.heap.size ∧ ∀ ad, ad.block = g → M' ad = none

/-- All blocks that are handed over. -/
def handBlk (con : Con) (b : Option Nat) (F FI : Nat → List Nat) : List Nat := (match b with | some g => g :: blks con.ownI FI | none => []) ++ blks (con.ownA ++ con.backA) F

def ConOk (P : Program) (n : FuncId) (con : Con) : Prop :=
  ∀ (w : World) (M : Mem) (vs cs : List Value) (i : El con.I) (x : El con.A) (F FI : Nat → List Nat) (b : Option Nat), (∀ ad v, M ad = some v → w.cell? ad = some v) → ArgsRep M con.shA vs cs →
    OwnIn w M (con.ownA ++ con.backA) cs (flat con.A x) F → (con.io = b.isSome) →
    (∀ g, b = some g → ∃ arr E, w.heap[g]? = some (.cells arr E (0, 0)) ∧ OwnIn w M con.ownI arr.toList (flat con.I i) FI) →
    (handBlk con b F FI).Nodup → (∀ g ∈ handBlk con b F FI, ∀ ad, ad.block = g → M ad = none) → con.pre i x →
    Calls P n ((match b with | some g => [.pointer (some ⟨g, 0, none⟩)] | none => []) ++ vs).toArray w (Ret P con w M (handBlk con b F FI) b cs i x)

end Go.Proofs.Ytcbehcpmojnnfaa.Bv
