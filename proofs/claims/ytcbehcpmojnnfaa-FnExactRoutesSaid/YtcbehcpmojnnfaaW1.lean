/- Data of Go values by value: element types, their Lean types, and how cells of memory read as data. Plain: no program. -/
import Derived.WalkKit
import Derived.DataElems
namespace Go.Proofs.Ytcbehcpmojnnfaa.Bv
set_option linter.unusedVariables false
set_option linter.unusedSimpArgs false

/-- What an element of a slice is, cell by cell. -/
inductive Ty where
  | int (k : IntKind)
  | bool
  | str
  | list (t : Ty)
  | unit
  | pair (a b : Ty)
  deriving DecidableEq

/-- The Lean type of an element. -/
@[reducible] def El : Ty → Type
  | .int _ => Int
  | .bool => Bool
  | .str => List UInt8
  | .list t => List (El t)
  | .unit => Unit
  | .pair a b => El a × El b

/-- How many cells. -/
def size : Ty → Nat
  | .unit => 0
  | .pair a b => size a + size b
  | _ => 1

/-- Memory that is no longer written: what its cells hold. -/
abbrev Mem := Addr → Option Value

def Mem.le (M N : Mem) : Prop := ∀ a v, M a = some v → N a = some v
theorem Mem.le_refl (M : Mem) : M.le M := fun _ _ h => h
theorem Mem.le_trans {M N K : Mem} (h : M.le N) (h' : N.le K) : M.le K := fun a v x => h' a v (h a v x)

/-- Cells that read as an element. -/
def RdC (M : Mem) : (t : Ty) → List Value → El t → Prop
  | .int k, cs, n => cs = [.int k n]
  | .bool, cs, b => cs = [.bool b]
  | .str, cs, s => cs = [.string ⟨s.toArray⟩]
  | .list t, cs, l => ∃ ad cap, cs = [.slice ad l.length cap] ∧ l.length ≤ cap ∧ cap ≤ maxLen ∧
      ∀ i (h : i < l.length), ∃ a vs, ad = some a ∧ vs.length = size t ∧ (∀ j u, vs[j]? = some u → M (a.add (i * size t + j)) = some u) ∧ RdC M t vs (List.get l ⟨i, h⟩)
  | .unit, cs, _ => cs = []
  | .pair a b, cs, x => ∃ c1 c2, cs = c1 ++ c2 ∧ RdC M a c1 x.1 ∧ RdC M b c2 x.2

theorem RdC.mono {M N : Mem} (hMN : M.le N) : ∀ (t : Ty) (cs : List Value) (x : El t), RdC M t cs x → RdC N t cs x
  | .int _, _, _, h => h
  | .bool, _, _, h => h
  | .str, _, _, h => h
  | .unit, _, _, h => h
  | .pair a b, _, _, ⟨c1, c2, e, h1, h2⟩ => ⟨c1, c2, e, RdC.mono hMN a _ _ h1, RdC.mono hMN b _ _ h2⟩
  | .list t, _, _, ⟨ad, cap, e, hl, hm, h⟩ => ⟨ad, cap, e, hl, hm, fun i hi => by
      obtain ⟨a, vs, e1, e2, e3, e4⟩ := h i hi
      exact ⟨a, vs, e1, e2, fun j u hu => hMN _ _ (e3 j u hu), RdC.mono hMN t _ _ e4⟩⟩

theorem RdC.length {M : Mem} : ∀ (t : Ty) (cs : List Value) (x : El t), RdC M t cs x → cs.length = size t
  | .int _, _, _, h => by cases h; rfl
  | .bool, _, _, h => by cases h; rfl
  | .str, _, _, h => by cases h; rfl
  | .unit, _, _, h => by cases h; rfl
  | .pair a b, _, _, ⟨c1, c2, e, h1, h2⟩ => by
      subst e; rw [List.length_append, RdC.length a _ _ h1, RdC.length b _ _ h2]; rfl
  | .list t, _, _, ⟨ad, cap, e, _, _, _⟩ => by cases e; rfl

theorem RdC.oneCell {M : Mem} : ∀ (t : Ty) (cs : List Value) (x : El t), RdC M t cs x → ∀ u ∈ cs, u.oneCell' = true
  | .int _, _, _, h => by cases h; simp [Value.oneCell']
  | .bool, _, _, h => by cases h; simp [Value.oneCell']
  | .str, _, _, h => by cases h; simp [Value.oneCell']
  | .unit, _, _, h => by cases h; simp
  | .pair a b, _, _, ⟨c1, c2, e, h1, h2⟩ => by
      subst e; intro u hu
      rcases List.mem_append.1 hu with h | h
      · exact RdC.oneCell a _ _ h1 u h
      · exact RdC.oneCell b _ _ h2 u h
  | .list t, _, _, ⟨ad, cap, e, _, _, _⟩ => by cases e; simp [Value.oneCell']

/-! ### Cells with a tag -/

/-- What one cell of a local value holds. The tag of a slice: the row whose owner it is. `own`: the slice of a row that may be written, which the state keeps; `sub`: a piece of it; `bor`: a slice that stands in an element of it, and where; `emp`: a slice without room. -/
inductive CellV where
  | int (k : IntKind) (n : Int)
  | bool (b : Bool)
  | str (s : List UInt8)
  | lst (t : Ty) (l : List (El t)) (tag : Option Nat)
  | own (t : Ty) (r : Nat)
  | sub (t : Ty) (r lo hi : Nat)
  | bor (t : Ty) (l : List (El t)) (r ver : Nat) (at' : Option (Nat × Nat))
  | emp (t : Ty)
  | und

def RdV (M : Mem) (v : Value) : CellV → Prop
  | .int k n => v = .int k n
  | .bool b => v = .bool b
  | .str s => v = .string ⟨s.toArray⟩
  | .lst t l _ => RdC M (.list t) [v] l
  | _ => v.oneCell' = true

theorem RdV.mono {M N : Mem} (h : M.le N) {v : Value} : ∀ {c : CellV}, RdV M v c → RdV N v c
  | .int .., h' => h'
  | .bool _, h' => h'
  | .str _, h' => h'
  | .lst t l _, h' => RdC.mono h (.list t) _ _ h'
  | .own .., h' => h'
  | .sub .., h' => h'
  | .bor .., h' => h'
  | .emp .., h' => h'
  | .und, h' => h'

theorem RdV.oneCell {M : Mem} {v : Value} : ∀ {c : CellV}, RdV M v c → v.oneCell' = true
  | .int .., h => by cases h; rfl
  | .bool _, h => by cases h; rfl
  | .str _, h => by cases h; rfl
  | .lst t l _, h => RdC.oneCell (.list t) _ _ h _ (by simp)
  | .own .., h => h
  | .sub .., h => h
  | .bor .., h => h
  | .emp .., h => h
  | .und, h => h

/-- The cells of an element. -/
def flat : (t : Ty) → El t → List CellV
  | .int k, n => [.int k n]
  | .bool, b => [.bool b]
  | .str, s => [.str s]
  | .list t, l => [.lst t l none]
  | .unit, _ => []
  | .pair a b, x => flat a x.1 ++ flat b x.2

/-- An element out of cells. -/
def unflat : (t : Ty) → List CellV → Option (El t × List CellV)
  | .int k, .int k' n :: r => if k' = k then some (n, r) else none
  | .bool, .bool b :: r => some (b, r)
  | .str, .str s :: r => some (s, r)
  | .list t, .lst t' l _ :: r => if h : t' = t then some (h ▸ l, r) else none
  | .unit, r => some ((), r)
  | .pair a b, r => (unflat a r).bind fun p => (unflat b p.2).bind fun q => some ((p.1, q.1), q.2)
  | _, _ => none

/-- Two lists alike, place by place. -/
inductive All2 {α β : Type} (R : α → β → Prop) : List α → List β → Prop
  | nil : All2 R [] []
  | cons {a b as bs} : R a b → All2 R as bs → All2 R (a :: as) (b :: bs)

theorem All2.imp {α β : Type} {R S : α → β → Prop} (h : ∀ a b, R a b → S a b) {as bs} : All2 R as bs → All2 S as bs
  | .nil => .nil
  | .cons x y => .cons (h _ _ x) (y.imp h)

theorem All2.append {α β : Type} {R : α → β → Prop} {as bs as' bs'} (h : All2 R as bs) (h' : All2 R as' bs') : All2 R (as ++ as') (bs ++ bs') := by
  induction h with
  | nil => exact h'
  | cons x _ ih => exact .cons x ih

theorem All2.length {α β : Type} {R : α → β → Prop} {as bs} (h : All2 R as bs) : as.length = bs.length := by
  induction h with
  | nil => rfl
  | cons _ _ ih => simp [ih]

theorem All2.get {α β : Type} {R : α → β → Prop} {as : List α} {bs : List β} (h : All2 R as bs) : ∀ {i : Nat} {b}, bs[i]? = some b → ∃ a, as[i]? = some a ∧ R a b := by
  induction h with
  | nil => intro i b hb; simp at hb
  | cons x _ ih =>
    intro i b hb
    cases i with
    | zero => simp at hb; subst hb; exact ⟨_, by simp, x⟩
    | succ i => simp at hb; obtain ⟨a, ha, hr⟩ := ih hb; exact ⟨a, by simpa using ha, hr⟩

theorem All2.take {α β : Type} {R : α → β → Prop} {as : List α} {bs : List β} (h : All2 R as bs) (n : Nat) : All2 R (as.take n) (bs.take n) := by
  induction h generalizing n with
  | nil => simp; exact .nil
  | cons x _ ih => cases n with
    | zero => simp; exact .nil
    | succ n => exact .cons x (ih n)

theorem All2.drop {α β : Type} {R : α → β → Prop} {as : List α} {bs : List β} (h : All2 R as bs) (n : Nat) : All2 R (as.drop n) (bs.drop n) := by
  induction h generalizing n with
  | nil => simp; exact .nil
  | cons x y ih => cases n with
    | zero => exact .cons x y
    | succ n => exact ih n

theorem rd_flat {M : Mem} : ∀ (t : Ty) (cs : List Value) (x : El t), RdC M t cs x → All2 (RdV M) cs (flat t x)
  | .int _, _, _, h => by cases h; exact .cons rfl .nil
  | .bool, _, _, h => by cases h; exact .cons rfl .nil
  | .str, _, _, h => by cases h; exact .cons rfl .nil
  | .unit, _, _, h => by cases h; exact .nil
  | .pair a b, _, _, ⟨c1, c2, e, h1, h2⟩ => by
      subst e; exact (rd_flat a _ _ h1).append (rd_flat b _ _ h2)
  | .list t, cs, l, h => by
      have h0 := h
      obtain ⟨ad, cap, e, _, _, _⟩ := h
      subst e; exact .cons h0 .nil

theorem rd_unflat {M : Mem} : ∀ (t : Ty) (vs : List Value) (cvs : List CellV) (x : El t) (rest : List CellV), All2 (RdV M) vs cvs → unflat t cvs = some (x, rest) →
    ∃ c1 c2, vs = c1 ++ c2 ∧ RdC M t c1 x ∧ All2 (RdV M) c2 rest
  | .unit, vs, cvs, x, rest, h, e => by simp only [unflat, Option.some.injEq, Prod.mk.injEq] at e; obtain ⟨_, rfl⟩ := e; exact ⟨[], vs, rfl, rfl, h⟩
  | .pair a b, vs, cvs, x, rest, h, e => by
      simp only [unflat, Option.bind_eq_some_iff, Option.some.injEq, Prod.mk.injEq] at e
      obtain ⟨⟨xa, ra⟩, ea, ⟨xb, rb⟩, eb, ex, er⟩ := e
      obtain ⟨c1, c2, rfl, h1, h2⟩ := rd_unflat a vs cvs xa ra h ea
      obtain ⟨c3, c4, rfl, h3, h4⟩ := rd_unflat b c2 ra xb rb h2 eb
      simp only at er ex; subst er
      exact ⟨c1 ++ c3, c4, by simp, ⟨c1, c3, rfl, by subst ex; exact h1, by subst ex; exact h3⟩, h4⟩
  | .int k, vs, cvs, x, rest, h, e => by
      cases h with
      | nil => simp [unflat] at e
      | cons hx hr => rename_i v c vs' cs'; cases c <;> simp [unflat] at e; obtain ⟨rfl, rfl, rfl⟩ := e; cases hx; exact ⟨[_], _, rfl, rfl, hr⟩
  | .bool, vs, cvs, x, rest, h, e => by
      cases h with
      | nil => simp [unflat] at e
      | cons hx hr => rename_i v c vs' cs'; cases c <;> simp [unflat] at e; obtain ⟨rfl, rfl⟩ := e; cases hx; exact ⟨[_], _, rfl, rfl, hr⟩
  | .str, vs, cvs, x, rest, h, e => by
      cases h with
      | nil => simp [unflat] at e
      | cons hx hr => rename_i v c vs' cs'; cases c <;> simp [unflat] at e; obtain ⟨rfl, rfl⟩ := e; cases hx; exact ⟨[_], _, rfl, rfl, hr⟩
  | .list t, vs, cvs, x, rest, h, e => by
      cases h with
      | nil => simp [unflat] at e
      | cons hx hr =>
        rename_i v c vs' cs'
        cases c <;> simp [unflat] at e
        rename_i t' l tag
        by_cases ht : t' = t
        · subst ht
          simp at e
          obtain ⟨rfl, rfl⟩ := e
          exact ⟨[v], _, rfl, hx, hr⟩
        · exact absurd e.1.1 ht


/-- Cells that read as an element's, each for itself. -/
theorem flat_rd {M : Mem} : ∀ (t : Ty) (cs : List Value) (x : El t), All2 (RdV M) cs (flat t x) → RdC M t cs x
  | .int _, cs, x, h => by cases h with | cons a b => cases b; cases a; rfl
  | .bool, cs, x, h => by cases h with | cons a b => cases b; cases a; rfl
  | .str, cs, x, h => by cases h with | cons a b => cases b; cases a; rfl
  | .list t, cs, x, h => by cases h with | cons a b => cases b; exact a
  | .unit, cs, x, h => by cases h; rfl
  | .pair a b, cs, x, h => by
      have hl : (flat a x.1).length ≤ cs.length := by have := h.length; simp [flat] at this; omega
      have h1 := h.take (flat a x.1).length
      have h2 := h.drop (flat a x.1).length
      simp only [flat, List.take_left, List.drop_left] at h1 h2
      exact ⟨_, _, (List.take_append_drop _ _).symm, flat_rd a _ _ h1, flat_rd b _ _ h2⟩

theorem flat_length : ∀ (t : Ty) (x : El t), (flat t x).length = size t
  | .int _, _ => rfl
  | .bool, _ => rfl
  | .str, _ => rfl
  | .list _, _ => rfl
  | .unit, _ => rfl
  | .pair a b, x => by simp [flat, size, flat_length a, flat_length b]

/-- The cells of all elements. -/
def flatAll (t : Ty) (l : List (El t)) : List CellV := match l with
  | [] => []
  | x :: r => flat t x ++ flatAll t r

theorem flatAll_nil (t : Ty) : flatAll t [] = [] := rfl
theorem flatAll_cons (t : Ty) (x : El t) (l : List (El t)) : flatAll t (x :: l) = flat t x ++ flatAll t l := rfl
theorem flatAll_append (t : Ty) : ∀ (l r : List (El t)), flatAll t (l ++ r) = flatAll t l ++ flatAll t r
  | [], _ => rfl
  | x :: l, r => by rw [List.cons_append, flatAll_cons, flatAll_cons, flatAll_append t l r, List.append_assoc]
theorem flatAll_length (t : Ty) : ∀ (l : List (El t)), (flatAll t l).length = l.length * size t
  | [] => by simp [flatAll]
  | x :: l => by rw [flatAll_cons, List.length_append, flat_length, flatAll_length t l, List.length_cons, Nat.add_mul]; omega
theorem flatAll_take (t : Ty) : ∀ (l : List (El t)) (n : Nat), flatAll t (l.take n) = (flatAll t l).take (n * size t)
  | [], n => by simp [flatAll]
  | x :: l, 0 => by simp [flatAll]
  | x :: l, n + 1 => by
    have h : (n + 1) * size t = (flat t x).length + n * size t := by rw [flat_length, Nat.add_mul]; omega
    rw [List.take_succ_cons, flatAll_cons, flatAll_cons, flatAll_take t l n, h, List.take_length_add_append]
theorem flatAll_drop (t : Ty) : ∀ (l : List (El t)) (n : Nat), flatAll t (l.drop n) = (flatAll t l).drop (n * size t)
  | [], n => by simp [flatAll]
  | x :: l, 0 => by simp
  | x :: l, n + 1 => by
    have h : (n + 1) * size t = (flat t x).length + n * size t := by rw [flat_length, Nat.add_mul]; omega
    rw [List.drop_succ_cons, flatAll_cons, flatAll_drop t l n, h, List.drop_length_add_append]
theorem flatAll_mem {t : Ty} {c : CellV} : ∀ {l : List (El t)}, c ∈ flatAll t l → ∃ x ∈ l, c ∈ flat t x
  | [], h => by simp [flatAll] at h
  | x :: l, h => by
    rw [flatAll_cons, List.mem_append] at h
    rcases h with h | h
    · exact ⟨x, by simp, h⟩
    · obtain ⟨y, hy, hc⟩ := flatAll_mem h; exact ⟨y, List.mem_cons_of_mem _ hy, hc⟩

end Go.Proofs.Ytcbehcpmojnnfaa.Bv
