/- When a local state by value is what a frame and its memory hold; and how it is kept when memory grows. -/
import Derived.Test.YtcbehcpmojnnfaaW2b
namespace Go.Proofs.Ytcbehcpmojnnfaa.Bv
set_option linter.unusedVariables false
set_option linter.unusedSimpArgs false

/-! ### The tables -/

def zeros : Ty → List Value
  | .int k => [.int k 0]
  | .bool => [.bool false]
  | .str => [.string ⟨#[]⟩]
  | .list _ => [.slice none 0 0]
  | .unit => []
  | .pair a b => zeros a ++ zeros b

structure TIok (P : Program) (tab : Tab) (t : TypeId) (ti : TI) : Prop where
  info : ∃ i z, P.info? t = some i ∧ i.size = size ti.ty ∧ i.bytes = ti.bytes ∧ i.zero = some z ∧ z.cells.toList = zeros ti.ty
  und : if ti.agg then ∃ fs, P.underlying t = some (.struct fs) ∧ fs.toList.map (fun f => (f.offset, f.type)) = ti.fields ∧ (∀ p ∈ ti.fields, (look p.2 tab).isSome = true)
    else match ti.ty with
      | .int k => P.underlying t = some (.int k)
      | .bool => P.underlying t = some .bool
      | .str => P.underlying t = some .string
      | .list _ => P.underlying t = some (.slice ti.elem)
      | _ => False

def TabOk (P : Program) (tab : Tab) : Prop := ∀ t ti, look t tab = some ti → TIok P tab t ti

/-! ### What is what -/

/-- What stands for the keys: a variable's block; a row's slice, the blocks that are its own, what may be read of it. -/
structure Sg where
  box : Nat → Nat
  row : Nat → Value
  foot : Nat → List Nat
  mem : Nat → Mem

/-- A piece of a slice. -/
def subOf (τ : Ty) (v : Value) (lo hi : Nat) (u : Value) : Prop :=
  ∃ ad n cap ad', v = .slice ad n cap ∧ lo ≤ hi ∧ hi ≤ n ∧ u = .slice ad' (hi - lo) (cap - lo) ∧ (lo < cap → ad' = ad.map (·.add (lo * size τ)))

/-- The place of a cell in a row. -/
def atOf (τ : Ty) (v : Value) (i off : Nat) (a : Addr) : Prop := ∃ ad n cap, v = .slice (some ad) n cap ∧ i < n ∧ a = ad.add (i * size τ + off)

def RowV.ver? : RowV → Option Nat
  | .hot _ _ _ ver _ _ => some ver
  | .frz _ _ _ ver _ => some ver
  | _ => none

/-- Where a slice stands in an element of a row. -/
def PosOk (σ : Sg) (t : Ty) (l0 : List (El t)) (r : Nat) (rv : RowV) (i off : Nat) (v : Value) : Prop := match rv with
  | .hot _ τ l _ _ _ => (flat τ (l.getD i (dfl τ)))[off]? = some (.lst t l0 none) ∧ ∃ a, atOf τ (σ.row r) i off a ∧ σ.mem r a = some v
  | _ => True

def tagOk (σ : Sg) (rows : List (Nat × RowV)) (v : Value) : CellV → Prop
  | .lst _ _ (some r) => if r = 0 then v = .slice none 0 0 else (look r rows).isSome = true → v = σ.row r
  | .own _ r => (look r rows).isSome = true → v = σ.row r
  | .sub t r lo hi => (look r rows).isSome = true → subOf t (σ.row r) lo hi v
  | .bor t l r ver p => ∀ rv, look r rows = some rv → rv.ver? = some ver → RdC (σ.mem r) (.list t) [v] l ∧ ∀ i off, p = some (i, off) → PosOk σ t l r rv i off v
  | .emp _ => ∃ ad, v = .slice ad 0 0
  | _ => True

def RdT (σ : Sg) (rows : List (Nat × RowV)) (M : Mem) (v : Value) (c : CellV) : Prop := RdV M v c ∧ tagOk σ rows v c

def isAgg' : Value → Bool
  | .agg _ => true
  | _ => false

def RepVal (σ : Sg) (rows : List (Nat × RowV)) (M : Mem) (v : Value) (p : Bool × List CellV) : Prop :=
  All2 (RdT σ rows M) v.cells.toList p.2 ∧ isAgg' v = p.1

def RepPtr (σ : Sg) (rows : List (Nat × RowV)) (M : Mem) (v : Value) (cs : List CellV) : Prop :=
  ∃ a, v = .pointer (some a) ∧ ∀ i c, cs[i]? = some c → ∃ u, M (a.add i) = some u ∧ RdT σ rows M u c

def RepCap (σ : Sg) (rows : List (Nat × RowV)) (boxes : List (Nat × List CellV)) (M : Mem) (v : Value) : Cap → Prop
  | .box k off => v = .pointer (some ((⟨σ.box k, 0, none⟩ : Addr).add off)) ∧ (look k boxes).isSome = true
  | .ptr cs => RepPtr σ rows M v cs

/-- Cells of a row, seen through a pointer. -/
def RepB (σ : Sg) (rows : List (Nat × RowV)) (M : Mem) (v : Value) (cs : List CellV) (r : Nat) : Prop :=
  ∃ a, v = .pointer (some a) ∧ ∀ i c, cs[i]? = some c → ∃ u, σ.mem r (a.add i) = some u ∧ RdT σ rows M u c

def RepSv (σ : Sg) (rows : List (Nat × RowV)) (boxes : List (Nat × List CellV)) (M : Mem) (v : Value) : Sv → Prop
  | .und => True
  | .nil => v = .slice none 0 0
  | .val ag cs => RepVal σ rows M v (ag, cs)
  | .box k off => v = .pointer (some ((⟨σ.box k, 0, none⟩ : Addr).add off)) ∧ (look k boxes).isSome = true
  | .ptr cs => RepPtr σ rows M v cs
  | .tup l => ∃ vs, v = .tuple vs ∧ All2 (RepVal σ rows M) vs.toList l
  | .fn f a b => ∃ va vb, v = .func (.func f) va vb ∧ All2 (RepCap σ rows boxes M) va.toList a ∧ All2 (RepCap σ rows boxes M) vb.toList b
  | .hp t r i off => (look r rows).isSome = true → ∃ a, atOf t (σ.row r) i off a ∧ v = .pointer (some a)
  | .bptr cs r ver => ∀ rv, look r rows = some rv → rv.ver? = some ver → RepB σ rows M v cs r

/-- What a call leaves of the memory that was there: all but some blocks. -/
structure Fr (ios : List Nat) (w0 w : World) : Prop where
  os : w.os = w0.os
  tape : w.tape = w0.tape
  output : w.output = w0.output
  size : w0.heap.size ≤ w.heap.size
  block : ∀ k, k < w0.heap.size → k ∉ ios → w.heap[k]? = w0.heap[k]?

theorem Fr.refl (ios : List Nat) (w : World) : Fr ios w w := ⟨rfl, rfl, rfl, Nat.le_refl _, fun _ _ _ => rfl⟩
theorem Fr.trans {ios : List Nat} {a b c : World} (h : Fr ios a b) (k : Fr ios b c) : Fr ios a c :=
  ⟨k.os.trans h.os, k.tape.trans h.tape, k.output.trans h.output, Nat.le_trans h.size k.size,
    fun i hi hn => (k.block i (Nat.lt_of_lt_of_le hi h.size) hn).trans (h.block i hi hn)⟩
theorem Fr.of_grown {ios : List Nat} {w0 w w' : World} {row : Option Nat} (h : Fr ios w0 w) (hg : w.grownBy w' row) (hr : ∀ k, row = some k → w0.heap.size ≤ k) : Fr ios w0 w' :=
  ⟨hg.os.trans h.os, hg.tape.trans h.tape, hg.output.trans h.output, Nat.le_trans h.size hg.size,
    fun i hi hn => (hg.block i (Nat.lt_of_lt_of_le hi h.size) (fun e => by have := hr i e.symm; omega)).trans (h.block i hi hn)⟩

structure RowOk (P : Program) (base : Nat) (M : Mem) (w : World) (v : Value) (e : TypeId) : Prop where
  own : ∃ n xs i, P.info? e = some i ∧ w.ownsRow base e i.size v n xs ∧ ∀ g, v.ownBlock = some g → ∀ ad, ad.block = g → n * i.size ≤ ad.off → M ad = none

/-- A row that may be written, with a cell that is empty for a while. -/
def OwnH (w : World) (t : Ty) (v : Value) (l : List (El t)) (hole : Option (Nat × Nat)) (bs : List Nat) : Prop := match hole with
  | none => OwnL w t v l bs
  | some (i, off) => ∃ g o cap arr e, v = .slice (some ⟨g, o, none⟩) (List.length l) cap ∧ w.heap[g]? = some (.cells arr e (0, 0)) ∧ i < List.length l ∧ off < size t ∧ o + i * size t + off < arr.size ∧ (∃ t', (flat t (l.getD i (dfl t)))[off]? = some (.lst t' [] none)) ∧
      OwnL (w.setRow g (arr.setIfInBounds (o + i * size t + off) (.slice none 0 0))) t v l bs

/-- Within the elements, if it is the row's own block. -/
def topOk (t : Ty) (v : Value) (ad : Addr) : Prop := ∀ a n cap, v = .slice (some a) n cap → ad.block = a.block → ad.off < a.off + n * size t

structure HotOk (P : Program) (base : World) (σ : Sg) (w : World) (r : Nat) (e : TypeId) (t : Ty) (l : List (El t)) (hole : Option (Nat × Nat)) (z : Bool) : Prop where
  info : ∃ i, P.info? e = some i ∧ i.size = size t
  pos : 0 < size t
  own : OwnH w t (σ.row r) l hole (σ.foot r)
  nodup : (σ.foot r).Nodup
  mem : ∀ ad u, σ.mem r ad = some u → w.cell? ad = some u ∧ ad.block ∈ σ.foot r ∧ topOk t (σ.row r) ad
  full : hole = none → ∀ ad u, ad.block ∈ σ.foot r → topOk t (σ.row r) ad → w.cell? ad = some u → σ.mem r ad = some u
  z : z = true → (∃ n xs, w.ownsRow base.heap.size e (size t) (σ.row r) n xs) ∧ ∀ g, (σ.row r).ownBlock = some g → g ∈ σ.foot r

/-- What a function is handed to write: blocks; the variable's; rows that must stay where they are. -/
structure Ios where
  blk : List Nat
  box : Option Nat := none
  rows : List (Nat × Value) := []
  even : ∀ p ∈ rows, p.1 % 2 = 0

/-- It reads so in the memory of the start. -/
def RepOld (M0 : Mem) (v : Value) : Sv → Prop
  | .val _ cs => All2 (RdV M0) v.cells.toList cs
  | _ => False

def isHot (r : Nat) (rows : List (Nat × RowV)) : Prop := ∃ e t l ver hole z, look r rows = some (.hot e t l ver hole z)

structure HotS (P : Program) (base : World) (ios : Ios) (σ : Sg) (M : Mem) (w : World) (st : St) : Prop where
  ok : ∀ r e t l ver hole z, look r st.rows = some (.hot e t l ver hole z) → HotOk P base σ w r e t l hole z
  base : ∀ r, isHot r st.rows → ∀ g ∈ σ.foot r, base.heap.size ≤ g ∨ g ∈ ios.blk
  noM : ∀ r, isHot r st.rows → ∀ g ∈ σ.foot r, ∀ ad, ad.block = g → M ad = none
  noBox : ∀ r, isHot r st.rows → ∀ k, (st.box k).isSome = true → σ.box k ∉ σ.foot r
  noRow : ∀ r, isHot r st.rows → ∀ r', (st.row r').isSome = true → ∀ g, (σ.row r').ownBlock = some g → g ∉ σ.foot r
  apart : ∀ r r', isHot r st.rows → isHot r' st.rows → r ≠ r' → ∀ g ∈ σ.foot r, g ∉ σ.foot r'
  lt : ∀ r, isHot r st.rows → ∀ g ∈ σ.foot r, g < w.heap.size
  frz : ∀ r e t l ver z, look r st.rows = some (.frz e t l ver z) → RdC M (.list t) [σ.row r] l ∧ (σ.mem r).le M

structure Sim (P : Program) (base : World) (M0 : Mem) (ios : Ios) (σ : Sg) (M : Mem) (w : World) (a : Act) (st : St) : Prop where
  mem : ∀ ad v, M ad = some v → w.cell? ad = some v
  nt : a.tmps.size = st.nt
  slots : ∀ i, RepSv σ st.rows st.boxes M (a.tmps.getD i undef) (st.get i)
  boxes : ∀ k cs, st.box k = some cs → ∃ arr E, w.heap[σ.box k]? = some (.cells arr E (0, 0)) ∧ All2 (RdT σ st.rows M) arr.toList cs
  boxM : ∀ k, (st.box k).isSome = true → ∀ ad, ad.block = σ.box k → M ad = none
  boxInj : ∀ k k', (st.box k).isSome = true → (st.box k').isSome = true → σ.box k = σ.box k' → k = k'
  boxBase : ∀ k, (st.box k).isSome = true → base.heap.size ≤ σ.box k ∨ σ.box k ∈ ios.blk
  rows : ∀ r e, st.row r = some e → RowOk P base.heap.size M w (σ.row r) e
  rowBox : ∀ r k, (st.row r).isSome = true → (st.box k).isSome = true → (σ.row r).ownBlock ≠ some (σ.box k)
  rowInj : ∀ r r', (st.row r).isSome = true → (st.row r').isSome = true → r ≠ r' → (σ.row r).ownBlock = none ∨ (σ.row r).ownBlock ≠ (σ.row r').ownBlock
  hot : HotS P base ios σ M w st
  fr : Fr ios.blk base w
  defers : a.defers = []
  old : ∀ ad, ad.block < base.heap.size → ad.block ∉ ios.blk → M0 ad = none → M ad = none
  le : M0.le M
  pin : ∀ b, ios.box = some b → σ.box 0 = b
  pins : ∀ p ∈ ios.rows, (look p.1 st.rows).isSome = true → σ.row p.1 = p.2
  olds : ∀ i, i ∈ st.olds → RepOld M0 (a.tmps.getD i undef) (st.get i)

/-! ### Monotone -/

/-- How reading carries over to other memory, rows and maps. -/
structure Carry (σ : Sg) (rows : List (Nat × RowV)) (M : Mem) (σ' : Sg) (rows' : List (Nat × RowV)) (M' : Mem) (ok : Nat → Prop) (okv : Nat → Nat → Prop) : Prop where
  mem : M.le M'
  row : ∀ r, ok r → (look r rows').isSome = true → (look r rows).isSome = true ∧ σ'.row r = σ.row r
  ver : ∀ r ver rv', ok r → okv r ver → look r rows' = some rv' → rv'.ver? = some ver → ∃ rv, look r rows = some rv ∧ rv.ver? = some ver ∧ (σ.mem r).le (σ'.mem r) ∧ (rv' = rv ∨ ∃ e t l v z, rv' = .frz e t l v z)

def okC (ok : Nat → Prop) (okv : Nat → Nat → Prop) (c : CellV) : Prop := (∀ r, keyC c = some r → ok r) ∧ ∀ t l r ver p, c = .bor t l r ver p → okv r ver

theorem PosOk.carry {σ σ' : Sg} {t : Ty} {l0 : List (El t)} {r i off : Nat} {rv rv' : RowV} {v : Value} (h : PosOk σ t l0 r rv i off v) (hr : σ'.row r = σ.row r) (hm : (σ.mem r).le (σ'.mem r)) (he : rv' = rv ∨ ∃ e t l v z, rv' = .frz e t l v z) : PosOk σ' t l0 r rv' i off v := by
  rcases he with rfl | ⟨_, _, _, _, _, rfl⟩
  · cases rv' with
    | hot e τ l ver hole z =>
      obtain ⟨h1, a, h2, h3⟩ := h
      exact ⟨h1, a, by rw [hr]; exact h2, hm _ _ h3⟩
    | _ => trivial
  · trivial

theorem tagOk.carry {σ σ' : Sg} {rows rows' : List (Nat × RowV)} {M M' : Mem} {ok : Nat → Prop} {okv : Nat → Nat → Prop} (hc : Carry σ rows M σ' rows' M' ok okv) {v : Value} {c : CellV} (h : tagOk σ rows v c) (hok : okC ok okv c) : tagOk σ' rows' v c := by
  cases c with
  | lst t l tag =>
    cases tag with
    | none => trivial
    | some r =>
      simp only [tagOk] at h ⊢
      split at h
      · rename_i h0; rw [if_pos h0]; exact h
      · rename_i h0
        rw [if_neg h0]
        intro hs
        obtain ⟨h1, h2⟩ := hc.row r (hok.1 r rfl) hs
        rw [h2]; exact h h1
  | own t r =>
    intro hs
    obtain ⟨h1, h2⟩ := hc.row r (hok.1 r rfl) hs
    rw [h2]; exact h h1
  | sub t r lo hi =>
    intro hs
    obtain ⟨h1, h2⟩ := hc.row r (hok.1 r rfl) hs
    rw [h2]; exact h h1
  | bor t l r ver p =>
    intro rv' hl hv
    obtain ⟨rv, h1, h2, h3, h4⟩ := hc.ver r ver rv' (hok.1 r rfl) (hok.2 _ _ _ _ _ rfl) hl hv
    obtain ⟨h5, h6⟩ := h rv h1 h2
    refine ⟨h5.mono h3, fun i off e => (h6 i off e).carry (hc.row r (hok.1 r rfl) (by rw [hl]; rfl)).2 h3 h4⟩
  | emp t => exact h
  | _ => trivial

theorem look_mem {α : Type} {k : Nat} {l : List (Nat × α)} {x : α} (h : look k l = some x) : (k, x) ∈ l := by
  induction l with
  | nil => simp [look] at h
  | cons p r ih =>
    obtain ⟨j, y⟩ := p
    simp only [look] at h
    split at h
    · rename_i e; subst e; cases h; simp
    · exact List.mem_cons_of_mem _ (ih h)

theorem All2.imp_mem {α β : Type} {R S : α → β → Prop} {as : List α} {bs : List β} (h : All2 R as bs) (hi : ∀ a b, b ∈ bs → R a b → S a b) : All2 S as bs := by
  induction h with
  | nil => exact .nil
  | cons x _ ih => exact .cons (hi _ _ (by simp) x) (ih fun a b hb => hi a b (List.mem_cons_of_mem _ hb))

theorem notMem_iff {k : Nat} {l : List Nat} : notMem k l = true ↔ k ∉ l := by
  induction l with
  | nil => simp [notMem]
  | cons j l ih =>
    simp only [notMem, Bool.and_eq_true, ih, List.mem_cons, not_or, Bool.not_eq_true', beq_eq_false_iff_ne, ne_eq]
    exact ⟨fun h => ⟨fun e => h.1 e.symm, h.2⟩, fun h => ⟨fun e => h.1 e.symm, h.2⟩⟩

theorem keysC_mem {cs : List CellV} {c : CellV} {r : Nat} (hm : c ∈ cs) (h : keyC c = some r) : r ∈ keysC cs := by
  induction cs with
  | nil => cases hm
  | cons d cs ih =>
    simp only [keysC]
    rcases List.mem_cons.1 hm with rfl | hm
    · rw [h]; simp
    · split
      · exact List.mem_cons_of_mem _ (ih hm)
      · exact ih hm

theorem keysL_mem {l : List (Bool × List CellV)} {p : Bool × List CellV} {r : Nat} (hm : p ∈ l) (h : r ∈ keysC p.2) : r ∈ keysL l := by
  induction l with
  | nil => cases hm
  | cons q l ih =>
    simp only [keysL, List.mem_append]
    rcases List.mem_cons.1 hm with rfl | hm
    · exact .inl h
    · exact .inr (ih hm)

theorem keysCap_mem {l : List Cap} {cs : List CellV} {r : Nat} (hm : Cap.ptr cs ∈ l) (h : r ∈ keysC cs) : r ∈ keysCap l := by
  induction l with
  | nil => cases hm
  | cons q l ih =>
    rcases List.mem_cons.1 hm with e | hm2
    · subst e; simp only [keysCap, List.mem_append]; exact .inl h
    · cases q with
      | ptr ds => simp only [keysCap, List.mem_append]; exact .inr (ih hm2)
      | box k off => simp only [keysCap]; exact ih hm2

theorem RdT.carry {σ σ' : Sg} {rows rows' : List (Nat × RowV)} {M M' : Mem} {ok : Nat → Prop} {okv : Nat → Nat → Prop} (hc : Carry σ rows M σ' rows' M' ok okv) {v : Value} {c : CellV}
    (h : RdT σ rows M v c) (hok : okC ok okv c) : RdT σ' rows' M' v c := ⟨h.1.mono hc.mem, h.2.carry hc hok⟩

theorem carryC {σ σ' : Sg} {rows rows' : List (Nat × RowV)} {M M' : Mem} {ok : Nat → Prop} {okv : Nat → Nat → Prop} (hc : Carry σ rows M σ' rows' M' ok okv) {vs : List Value} {cs : List CellV}
    (h : All2 (RdT σ rows M) vs cs) (hok : ∀ c ∈ cs, okC ok okv c) : All2 (RdT σ' rows' M') vs cs :=
  h.imp_mem fun a b hb hab => hab.carry hc (hok b hb)

def okCap (ok : Nat → Prop) (okv : Nat → Nat → Prop) : Cap → Prop
  | .ptr cs => ∀ c ∈ cs, okC ok okv c
  | _ => True

def okS (ok : Nat → Prop) (okv : Nat → Nat → Prop) : Sv → Prop
  | .val _ cs => ∀ c ∈ cs, okC ok okv c
  | .ptr cs => ∀ c ∈ cs, okC ok okv c
  | .tup l => ∀ p ∈ l, ∀ c ∈ p.2, okC ok okv c
  | .fn _ a b => (∀ c ∈ a, okCap ok okv c) ∧ ∀ c ∈ b, okCap ok okv c
  | .hp _ r _ _ => ok r
  | .bptr cs r ver => ok r ∧ okv r ver ∧ ∀ c ∈ cs, okC ok okv c
  | _ => True

theorem RepPtr.carry {σ σ' : Sg} {rows rows' : List (Nat × RowV)} {M M' : Mem} {ok : Nat → Prop} {okv : Nat → Nat → Prop} (hc : Carry σ rows M σ' rows' M' ok okv) {v : Value} {cs : List CellV}
    (h : RepPtr σ rows M v cs) (hok : ∀ c ∈ cs, okC ok okv c) : RepPtr σ' rows' M' v cs := by
  obtain ⟨a, ha, h⟩ := h
  refine ⟨a, ha, fun i c hi => ?_⟩
  obtain ⟨u, hu, hr⟩ := h i c hi
  exact ⟨u, hc.mem _ _ hu, hr.carry hc (hok c (List.mem_of_getElem? hi))⟩

theorem RepCap.carry {σ σ' : Sg} {rows rows' : List (Nat × RowV)} {boxes boxes' : List (Nat × List CellV)} {M M' : Mem} {ok : Nat → Prop} {okv : Nat → Nat → Prop} (hc : Carry σ rows M σ' rows' M' ok okv) {v : Value} {c : Cap}
    (h : RepCap σ rows boxes M v c) (hok : okCap ok okv c) (hb : ∀ k off, c = .box k off → σ'.box k = σ.box k ∧ ((look k boxes).isSome = true → (look k boxes').isSome = true)) : RepCap σ' rows' boxes' M' v c := by
  cases c with
  | box k off => obtain ⟨h1, h2⟩ := h; obtain ⟨h3, h4⟩ := hb k off rfl; exact ⟨by rw [h3]; exact h1, h4 h2⟩
  | ptr cs => exact RepPtr.carry hc h hok

theorem boxesCap_mem {l : List Cap} {k off : Nat} (hm : Cap.box k off ∈ l) : k ∈ boxesCap l := by
  induction l with
  | nil => cases hm
  | cons q l ih =>
    rcases List.mem_cons.1 hm with e | hm2
    · subst e; simp [boxesCap]
    · cases q with
      | ptr ds => simp only [boxesCap]; exact ih hm2
      | box k' off => simp only [boxesCap, List.mem_cons]; exact .inr (ih hm2)

theorem RepSv.carry {σ σ' : Sg} {rows rows' : List (Nat × RowV)} {boxes boxes' : List (Nat × List CellV)} {M M' : Mem} {ok : Nat → Prop} {okv : Nat → Nat → Prop} (hc : Carry σ rows M σ' rows' M' ok okv) {v : Value} {sv : Sv}
    (h : RepSv σ rows boxes M v sv) (hok : okS ok okv sv) (hb : ∀ k ∈ boxesSv sv, σ'.box k = σ.box k ∧ ((look k boxes).isSome = true → (look k boxes').isSome = true)) :
    RepSv σ' rows' boxes' M' v sv := by
  cases sv with
  | und => trivial
  | nil => exact h
  | val ag cs => exact ⟨carryC hc h.1 hok, h.2⟩
  | box k off => obtain ⟨h1, h2⟩ := h; obtain ⟨h3, h4⟩ := hb k (by simp [boxesSv]); exact ⟨by rw [h3]; exact h1, h4 h2⟩
  | ptr cs => exact RepPtr.carry hc h hok
  | tup l =>
    obtain ⟨vs, hv, h⟩ := h
    exact ⟨vs, hv, h.imp_mem fun a b hb hab => ⟨carryC hc hab.1 (hok b hb), hab.2⟩⟩
  | fn f a b =>
    obtain ⟨va, vb, hv, h1, h2⟩ := h
    refine ⟨va, vb, hv, h1.imp_mem fun u c hcm hu => hu.carry hc (hok.1 c hcm) fun k off e => hb k ?_, h2.imp_mem fun u c hcm hu => hu.carry hc (hok.2 c hcm) fun k off e => hb k ?_⟩
    · subst e; simp only [boxesSv, List.mem_append]; exact .inl (boxesCap_mem hcm)
    · subst e; simp only [boxesSv, List.mem_append]; exact .inr (boxesCap_mem hcm)
  | hp t r i off =>
    intro hs
    obtain ⟨h1, h2⟩ := hc.row r hok hs
    rw [h2]; exact h h1
  | bptr cs r ver =>
    intro rv' hl hv
    obtain ⟨rv, h1, h2, h3, h4⟩ := hc.ver r ver rv' hok.1 hok.2.1 hl hv
    obtain ⟨a, ha, h⟩ := h rv h1 h2
    refine ⟨a, ha, fun i c hi => ?_⟩
    obtain ⟨u, hu, hr⟩ := h i c hi
    exact ⟨u, h3 _ _ hu, hr.carry hc (hok.2.2 c (List.mem_of_getElem? hi))⟩

theorem Carry.same (σ : Sg) (rows : List (Nat × RowV)) {M M' : Mem} (h : M.le M') : Carry σ rows M σ rows M' (fun _ => True) (fun _ _ => True) :=
  ⟨h, fun r _ hs => ⟨hs, rfl⟩, fun r ver rv' _ _ hl hv => ⟨rv', hl, hv, Mem.le_refl _, .inl rfl⟩⟩

theorem okC_true (c : CellV) : okC (fun _ => True) (fun _ _ => True) c := ⟨fun _ _ => trivial, fun _ _ _ _ _ _ => trivial⟩
theorem okCap_true (c : Cap) : okCap (fun _ => True) (fun _ _ => True) c := by
  cases c with
  | ptr cs => exact fun c _ => okC_true c
  | box k off => trivial
theorem okS_true (sv : Sv) : okS (fun _ => True) (fun _ _ => True) sv := by
  cases sv with
  | val ag cs => exact fun c _ => okC_true c
  | ptr cs => exact fun c _ => okC_true c
  | tup l => exact fun p _ c _ => okC_true c
  | fn f a b => exact ⟨fun c _ => okCap_true c, fun c _ => okCap_true c⟩
  | bptr cs r ver => exact ⟨trivial, trivial, fun c _ => okC_true c⟩
  | _ => trivial

/-- All keys in a value are so. -/
theorem okS_keys {ok : Nat → Prop} {sv : Sv} (h : ∀ r ∈ keysSv sv, ok r) : okS ok (fun _ _ => True) sv := by
  have one : ∀ {cs : List CellV} {c}, c ∈ cs → (∀ r ∈ keysC cs, ok r) → okC ok (fun _ _ => True) c := fun hc h => ⟨fun r hr => h r (keysC_mem hc hr), fun _ _ _ _ _ _ => trivial⟩
  have cap : ∀ {l : List Cap} {c}, c ∈ l → (∀ r ∈ keysCap l, ok r) → okCap ok (fun _ _ => True) c := fun {l c} hc h => by
    cases c with
    | ptr cs => exact fun d hd => one hd fun r hr => h r (keysCap_mem hc hr)
    | box k off => trivial
  cases sv with
  | val ag cs => exact fun c hc => one hc h
  | ptr cs => exact fun c hc => one hc h
  | tup l => exact fun p hp c hc => one hc fun r hr => h r (keysL_mem hp hr)
  | fn f a b => exact ⟨fun c hc => cap hc fun r hr => h r (by simp only [keysSv, List.mem_append]; exact .inl hr), fun c hc => cap hc fun r hr => h r (by simp only [keysSv, List.mem_append]; exact .inr hr)⟩
  | hp t r i off => exact h r (by simp [keysSv])
  | bptr cs r ver => exact ⟨h r (by simp [keysSv]), trivial, fun c hc => one hc fun r' hr => h r' (by simp only [keysSv, List.mem_cons]; exact .inr hr)⟩
  | _ => trivial

theorem get_mem {st : St} {i : Nat} : st.get i = .und ∨ (i, st.get i) ∈ st.slots := by
  unfold St.get
  cases h : look i st.slots with
  | none => exact .inl rfl
  | some sv => exact .inr (look_mem h)

theorem noTagSlots_mem {r : Nat} {l : List (Nat × Sv)} (h : noTagSlots r l = true) {p : Nat × Sv} (hp : p ∈ l) : noTagS r p.2 = true := by
  induction l with
  | nil => cases hp
  | cons q l ih =>
    simp only [noTagSlots, Bool.and_eq_true] at h
    simp only [List.mem_cons] at hp
    rcases hp with rfl | hp
    · exact h.1
    · exact ih h.2 hp

theorem noTagBoxes_mem {r : Nat} {l : List (Nat × List CellV)} (h : noTagBoxes r l = true) {p : Nat × List CellV} (hp : p ∈ l) : noTagC r p.2 = true := by
  induction l with
  | nil => cases hp
  | cons q l ih =>
    simp only [noTagBoxes, Bool.and_eq_true] at h
    simp only [List.mem_cons] at hp
    rcases hp with rfl | hp
    · exact h.1
    · exact ih h.2 hp

theorem noBoxSlots_mem {k : Nat} {l : List (Nat × Sv)} (h : noBoxSlots k l = true) {p : Nat × Sv} (hp : p ∈ l) : noBoxS k p.2 = true := by
  induction l with
  | nil => cases hp
  | cons q l ih =>
    simp only [noBoxSlots, Bool.and_eq_true] at h
    simp only [List.mem_cons] at hp
    rcases hp with rfl | hp
    · exact h.1
    · exact ih h.2 hp

theorem noTags_mem {st : St} {l : List (Nat × RowV)} (h : noTags st l = true) {p : Nat × RowV} (hp : p ∈ l) : noTag p.1 st = true := by
  induction l with
  | nil => cases hp
  | cons q l ih =>
    simp only [noTags, Bool.and_eq_true] at h
    simp only [List.mem_cons] at hp
    rcases hp with rfl | hp
    · exact h.1
    · exact ih h.2 hp

theorem noTag_okS {r : Nat} {sv : Sv} (h : noTagS r sv = true) : okS (fun r' => r' ≠ r) (fun _ _ => True) sv :=
  okS_keys fun r' hr' e => by subst e; exact notMem_iff.1 h hr'

end Go.Proofs.Ytcbehcpmojnnfaa.Bv
