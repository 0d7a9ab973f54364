/- Local values, states, and what each operation does to them, by value. Plain: the program's tables come as a table of types. -/
import Derived.Test.YtcbehcpmojnnfaaWP
namespace Go.Proofs.Ytcbehcpmojnnfaa.Bv
set_option linter.unusedVariables false
set_option linter.unusedSimpArgs false

/-- What a function value has caught: a variable; cells that are only read. -/
inductive Cap where
  | box (k off : Nat)
  | ptr (cs : List CellV)

inductive Sv where
  | und
  | nil
  | val (agg : Bool) (cs : List CellV)
  | box (k off : Nat)
  | ptr (cs : List CellV)
  | tup (l : List (Bool × List CellV))
  | fn (f : Nat) (first caps : List Cap)
  /-- A pointer into an element of a row that may be written. -/
  | hp (t : Ty) (r i off : Nat)
  /-- A pointer to cells of a row, which it holds as long as the row is what it was. -/
  | bptr (cs : List CellV) (r ver : Nat)

def look {α : Type} (k : Nat) : List (Nat × α) → Option α
  | [] => none
  | (j, x) :: r => if j = k then some x else look k r

/-- A row: whose cells are memory that is no longer written and that may grow; such cells as they are told; cells that may be written. -/
inductive RowV where
  | cold (e : TypeId)
  | frz (e : TypeId) (t : Ty) (l : List (El t)) (ver : Nat) (z : Bool)
  | hot (e : TypeId) (t : Ty) (l : List (El t)) (ver : Nat) (hole : Option (Nat × Nat)) (z : Bool)

def RowV.cold? : RowV → Option TypeId
  | .cold e => some e
  | .frz e _ _ _ true => some e
  | _ => none

structure St where
  nt : Nat
  slots : List (Nat × Sv)
  boxes : List (Nat × List CellV)
  rows : List (Nat × RowV)
  /-- Slots that hold what they held at the start. -/
  olds : List Nat := []

def St.get (st : St) (i : Nat) : Sv := match look i st.slots with | some sv => sv | none => .und
def St.put (st : St) (i : Nat) (sv : Sv) : St := { st with slots := (i, sv) :: st.slots, olds := st.olds.filter fun j => !(j == i) }
/-- A truth value, told outright. -/
def St.lit (st : St) (i : Nat) (b : Bool) : St := { st with slots := (i, .val false [.bool b]) :: st.slots }
def St.box (st : St) (k : Nat) : Option (List CellV) := look k st.boxes
def St.rowv (st : St) (k : Nat) : Option RowV := look k st.rows
def coldOf (k : Nat) (rows : List (Nat × RowV)) : Option TypeId := match look k rows with
  | some rv => rv.cold?
  | none => none
def St.row (st : St) (k : Nat) : Option TypeId := coldOf k st.rows

/-! ### Types -/

structure TI where
  ty : Ty
  agg : Bool := false
  fields : List (Nat × TypeId) := []
  elem : TypeId := 0
  bytes : Nat

abbrev Tab := List (TypeId × TI)

def zeroC : Ty → List CellV
  | .int k => [.int k 0]
  | .bool => [.bool false]
  | .str => [.str []]
  | .list t => [.lst t [] (some 0)]
  | .unit => []
  | .pair a b => zeroC a ++ zeroC b

abbrev dflt : (t : Ty) → El t := dfl

/-! ### Contracts of the functions that are called -/

/-- How an argument comes: one cell, a struct of so many cells, a pointer to so many cells that are only read, a function value with pointers to so many cells each. -/
inductive Sh where
  | one
  | agg (n : Nat)
  | ptr (n : Nat)
  | clo (f : Nat) (caps : List Nat)

/-- `io`: the first argument is a pointer to a variable that is read and written; `ownI`: its cells that are rows of its own, before and behind; `ownA`: arguments' cells whose rows are handed over; `backA`: those that come back, written (what they hold then is `B`); `fresh`: results' cells that are rows of the caller's own; `newR`: the result is a pointer to a new variable. -/
structure Con where
  io : Bool := false
  I : Ty := .unit
  ownI : List (Nat × TypeId) := []
  A : Ty
  shA : List Sh
  ownA : List (Nat × TypeId) := []
  backA : List (Nat × TypeId) := []
  B : Ty := .unit
  R : Ty
  shR : List (Bool × Nat)
  fresh : List (Nat × TypeId) := []
  newR : Bool := false
  pre : El I → El A → Prop
  /-- What comes back: told outright, or what is known of it. -/
  f : Option (El I → El A → El R × (El I × El B)) := none
  post : El I → El A → El R × (El I × El B) → Prop := fun _ _ _ => True

def Con.Post (con : Con) (i : El con.I) (a : El con.A) (y : El con.R × (El con.I × El con.B)) : Prop := match con.f with
  | some f => y = f i a
  | none => con.post i a y

structure Gam where
  con : Nat → Option Con
  /-- Slices that take the row with them. -/
  tk : List Nat := []

/-! ### One operation -/

structure In where
  sv : Sv
  box : Option (List CellV) := none
  row : Option TypeId := none
  boxes : List (Nat × List CellV) := []
  rows : List (Nat × RowV) := []

structure Eff where
  sv : Sv
  nbox : Option (List CellV) := none
  nrow : List (Nat × RowV) := []
  urow : List (Nat × RowV) := []
  krow : List Nat := []
  sbox : Option (Nat × List CellV) := none

def constSv : Value → Sv
  | .int k n => .val false [.int k n]
  | .bool b => .val false [.bool b]
  | .string s => .val false [.str s.data.toList]
  | .slice none 0 0 => .nil
  | _ => .und

/-! Keys that cells bear. -/
def keyC : CellV → Option Nat
  | .lst _ _ (some r) => some r
  | .own _ r => some r
  | .sub _ r _ _ => some r
  | .bor _ _ r _ _ => some r
  | _ => none
def keysC : List CellV → List Nat
  | [] => []
  | c :: l => match keyC c with
    | some r => r :: keysC l
    | none => keysC l
def keysL : List (Bool × List CellV) → List Nat
  | [] => []
  | p :: l => keysC p.2 ++ keysL l
def keysCap : List Cap → List Nat
  | [] => []
  | .ptr cs :: l => keysC cs ++ keysCap l
  | _ :: l => keysCap l
def keysSv : Sv → List Nat
  | .val _ cs => keysC cs
  | .ptr cs => keysC cs
  | .tup l => keysL l
  | .fn _ a b => keysCap a ++ keysCap b
  | .hp _ r _ _ => [r]
  | .bptr cs r _ => r :: keysC cs
  | _ => []
def keysBx : List (Nat × List CellV) → List Nat
  | [] => []
  | p :: l => keysC p.2 ++ keysBx l
def boxesCap : List Cap → List Nat
  | [] => []
  | .box k _ :: l => k :: boxesCap l
  | _ :: l => boxesCap l
def boxesSv : Sv → List Nat
  | .box k _ => [k]
  | .fn _ a b => boxesCap a ++ boxesCap b
  | _ => []

def pick {α : Type} (l : List (Nat × α)) : List Nat → List (Nat × α)
  | [] => []
  | k :: ks => match look k l with
    | some x => (k, x) :: pick l ks
    | none => pick l ks

/-- A cell as it is now: the row that it names may have been laid down. -/
def resC (rows : List (Nat × RowV)) : CellV → CellV
  | .own t r => match look r rows with
    | some (.frz _ t' l _ z) => if h : t' = t then .lst t (h ▸ l) (cond (z && !(r == 0)) (some r) none) else .own t r
    | _ => .own t r
  | .sub t r lo hi => match look r rows with
    | some (.frz _ t' l _ _) => if h : t' = t then .lst t (((h ▸ l : List (El t)).take hi).drop lo) none else .sub t r lo hi
    | _ => .sub t r lo hi
  | .bor t l r ver p => match look r rows with
    | some (.frz _ _ _ ver' _) => cond (ver' == ver) (.lst t l none) (.bor t l r ver p)
    | _ => .bor t l r ver p
  | c => c
def resCs (rows : List (Nat × RowV)) : List CellV → List CellV
  | [] => []
  | c :: l => resC rows c :: resCs rows l
def resL (rows : List (Nat × RowV)) : List (Bool × List CellV) → List (Bool × List CellV)
  | [] => []
  | (a, cs) :: l => (a, resCs rows cs) :: resL rows l
def resSv (rows : List (Nat × RowV)) : Sv → Sv
  | .val ag cs => .val ag (resCs rows cs)
  | .tup l => .tup (resL rows l)
  | .bptr cs r ver => match look r rows with
    | some (.frz _ _ _ ver' _) => cond (ver' == ver) (.ptr (resCs rows cs)) (.bptr cs r ver)
    | _ => .bptr cs r ver
  | sv => sv

/-- The looked-up parts of a value in a state. -/
def mkIn (st : St) (sv : Sv) : In :=
  let bx := pick st.boxes (boxesSv sv)
  let rows := pick st.rows (keysSv sv ++ keysBx bx)
  let sv' := resSv rows sv
  { sv := sv', box := (match sv' with | .box k _ => look k bx | _ => none), row := (match sv' with | .val false [.lst _ _ (some r)] => coldOf r rows | _ => none), boxes := bx, rows := rows }

def inOf (st : St) : Operand → In
  | .tmp t => mkIn st (st.get t)
  | .const v => { sv := constSv v }
  | .func f => { sv := .fn f [] [] }
  | .global _ => { sv := .und }

def typed (tab : Tab) (t : TypeId) : Sv → Sv
  | .nil => match look t tab with
    | some ⟨.list τ, _, _, _, _⟩ => .val false [.lst τ [] (some 0)]
    | _ => .und
  | sv => sv

/-- The bits of two integers. -/
def ibits (op : BinOp) (k : IntKind) (x y : Int) : Option Int :=
  let a := BitVec.ofInt k.bits x
  let b := BitVec.ofInt k.bits y
  match op with
  | .and => some (k.wrap (a &&& b).toNat)
  | .or => some (k.wrap (a ||| b).toNat)
  | .xor => some (k.wrap (a ^^^ b).toNat)
  | _ => none

def binV (op : BinOp) : CellV → CellV → Option (List Prop × CellV)
  | .int k a, .int k' b => match op with
    | .shl => some ([0 ≤ b], .int k (k.wrap (a * 2 ^ (min b.toNat k.bits))))
    | .shr => some ([0 ≤ b], .int k (a.fdiv (2 ^ (min b.toNat k.bits))))
    | _ => if k = k' then match op with
      | .add => some ([], .int k (k.wrap (a + b)))
      | .sub => some ([], .int k (k.wrap (a - b)))
      | .mul => some ([], .int k (k.wrap (a * b)))
      | .quo => some ([b ≠ 0], .int k (k.wrap (a.tdiv b)))
      | .rem => some ([b ≠ 0], .int k (a.tmod b))
      | .eql => some ([], .bool (a == b))
      | .neq => some ([], .bool (a != b))
      | .lss => some ([], .bool (decide (a < b)))
      | .leq => some ([], .bool (decide (a ≤ b)))
      | .gtr => some ([], .bool (decide (a > b)))
      | .geq => some ([], .bool (decide (a ≥ b)))
      | .and => some ([], .int k (k.wrap (BitVec.ofInt k.bits a &&& BitVec.ofInt k.bits b).toNat))
      | .or => some ([], .int k (k.wrap (BitVec.ofInt k.bits a ||| BitVec.ofInt k.bits b).toNat))
      | .xor => some ([], .int k (k.wrap (BitVec.ofInt k.bits a ^^^ BitVec.ofInt k.bits b).toNat))
      | _ => none
      else none
  | .str a, .str b => match op with
    | .add => some ([a.length + b.length ≤ 9223372036854775807], .str (a ++ b))
    | .eql => some ([], .bool (a == b))
    | .neq => some ([], .bool (!(a == b)))
    | .lss => some ([], .bool (Op.bytesLess a b))
    | .leq => some ([], .bool (Op.bytesLess a b || a == b))
    | .gtr => some ([], .bool (!(Op.bytesLess a b || a == b)))
    | .geq => some ([], .bool (!Op.bytesLess a b))
    | _ => none
  | .bool a, .bool b => match op with
    | .eql => some ([], .bool (a == b))
    | .neq => some ([], .bool (!(a == b)))
    | _ => none
  | _, _ => none

/-- Are two values without slices alike? -/
def cellEq : CellV → CellV → Option Bool
  | .int _ a, .int _ b => some (a == b)
  | .str a, .str b => some (a == b)
  | .bool a, .bool b => some (a == b)
  | _, _ => none

def cellsEq : List CellV → List CellV → Option Bool
  | [], [] => some true
  | a :: r, b :: s => match cellEq a b with
    | some x => match cellsEq r s with
      | some y => some (x && y)
      | none => none
    | none => none
  | _, _ => none

def unV (op : UnOp) : CellV → Option CellV
  | .bool b => match op with
    | .not => some (.bool (!b))
    | _ => none
  | .int k n => match op with
    | .neg => some (.int k (k.wrap (0 - n)))
    | .xor => some (.int k (k.wrap (BitVec.ofInt k.bits (if k.signed then -1 else k.max) ^^^ BitVec.ofInt k.bits n).toNat))
    | _ => none
  | _ => none

/-- Parts laid into cells. -/
def fillC (place : Nat → Option (Nat × Nat)) (cells : List CellV) : List (Nat × List CellV) → Option (List CellV)
  | [] => some cells
  | (i, cs) :: rest => match place i with
    | none => none
    | some (off, sz) =>
      if cs.length = sz ∧ off + cs.length ≤ cells.length then fillC place (cells.take off ++ (cs ++ cells.drop (off + cs.length))) rest
      else none

/-- n elements out of cells. -/
def unflatN (t : Ty) : Nat → List CellV → Option (List (El t) × List CellV)
  | 0, cs => some ([], cs)
  | n + 1, cs => (unflat t cs).bind fun p => (unflatN t n p.2).bind fun q => some (p.1 :: q.1, q.2)

def zerosC (t : Ty) : Nat → List CellV
  | 0 => []
  | n + 1 => zeroC t ++ zerosC t n


def cellsOfSv (tab : Tab) (t : TypeId) (sv : Sv) : Option (List CellV) := match typed tab t sv with
  | .val _ cs => some cs
  | _ => none

/-! Keys of what an operation makes: its destination tells them. -/
def keyRow (d i : Nat) : Nat := 2 * (d * 4096 + i) + 1
def keyNI (d i : Nat) : Nat := 2 * (d * 4096 + i + 2048) + 1
def keyA (i : Nat) : Nat := 2 * i + 2
def keyI (i : Nat) : Nat := 2 * (i + 4096) + 2

/-! ### Rows that may be written -/

/-- What a cell reads as now, by value. -/
def valC (rows : List (Nat × RowV)) : CellV → Option CellV
  | .lst t l _ => some (.lst t l none)
  | .emp t => some (.lst t [] none)
  | .own t r => match look r rows with
    | some (.hot _ t' l _ none _) => if h : t' = t then some (.lst t (h ▸ l) none) else none
    | _ => none
  | .sub t r lo hi => match look r rows with
    | some (.hot _ t' l _ none _) => if h : t' = t then some (.lst t (((h ▸ l : List (El t)).take hi).drop lo) none) else none
    | _ => none
  | .bor t l r ver _ => match look r rows with
    | some (.hot _ _ _ ver' none _) => cond (ver' == ver) (some (.lst t l none)) none
    | _ => none
  | .und => none
  | c => some c
def valCs (rows : List (Nat × RowV)) : List CellV → Option (List CellV)
  | [] => some []
  | c :: l => match valC rows c, valCs rows l with
    | some c', some l' => some (c' :: l')
    | _, _ => none

/-- Rows that are read where they stand. -/
def borrowed : List CellV → List Nat
  | [] => []
  | .own _ r :: l => r :: borrowed l
  | .sub _ r _ _ :: l => r :: borrowed l
  | .bor _ _ r _ _ :: l => r :: borrowed l
  | _ :: l => borrowed l

/-- Cells that may go into a row that may be written: what they are by value, and the rows that go with them. -/
def ownC (rows : List (Nat × RowV)) : List CellV → Option (List CellV × List Nat)
  | [] => some ([], [])
  | .int k n :: l => (ownC rows l).map fun p => (.int k n :: p.1, p.2)
  | .bool b :: l => (ownC rows l).map fun p => (.bool b :: p.1, p.2)
  | .str s :: l => (ownC rows l).map fun p => (.str s :: p.1, p.2)
  | .lst t [] (some 0) :: l => (ownC rows l).map fun p => (.lst t [] none :: p.1, p.2)
  | .emp t :: l => (ownC rows l).map fun p => (.lst t [] none :: p.1, p.2)
  | .own t r :: l => match look r rows with
    | some (.hot _ t' x _ none _) => if h : t' = t then (ownC rows l).map fun p => (.lst t (h ▸ x) none :: p.1, r :: p.2) else none
    | _ => none
  | _ => none

def notMem (k : Nat) : List Nat → Bool
  | [] => true
  | j :: l => !(j == k) && notMem k l
def nodupB : List Nat → Bool
  | [] => true
  | k :: l => notMem k l && nodupB l
def noneIn (l r : List Nat) : Bool := l.all fun k => notMem k r

/-- The cells of an element of a row, as they are taken out of it. -/
def flatB (r ver : Nat) (p : Nat → Option (Nat × Nat)) : Nat → List CellV → List CellV
  | _, [] => []
  | j, .lst t l _ :: cs => .bor t l r ver (p j) :: flatB r ver p (j + 1) cs
  | j, c :: cs => c :: flatB r ver p (j + 1) cs

/-! ### Calls -/

/-- Arguments of a call: their cells, one behind the other; each as the contract has it. -/
def capCells (boxes : List (Nat × List CellV)) : List Nat → List Cap → Option (List CellV × List Nat)
  | [], [] => some ([], [])
  | n :: ns, .ptr cs :: l => if n ≤ cs.length then (capCells boxes ns l).map fun p => (cs.take n ++ p.1, p.2) else none
  | n :: ns, .box k off :: l => match look k boxes with
    | some cs => if off + n ≤ cs.length then (capCells boxes ns l).map fun p => ((cs.drop off).take n ++ p.1, k :: p.2) else none
    | none => none
  | _, _ => none

/-- Their cells, and the variables that are read where they stand. -/
def argCells (tab : Tab) : List Sh → List TypeId → List In → Option (List CellV × List Nat)
  | [], [], [] => some ([], [])
  | .one :: sh, t :: ts, x :: xs => match typed tab t x.sv with
    | .val false [c] => (argCells tab sh ts xs).map fun r => (c :: r.1, r.2)
    | _ => none
  | .agg n :: sh, t :: ts, x :: xs => match typed tab t x.sv with
    | .val true cs => if cs.length = n then (argCells tab sh ts xs).map fun r => (cs ++ r.1, r.2) else none
    | _ => none
  | .ptr n :: sh, _ :: ts, x :: xs => match x.sv with
    | .ptr cs => if n ≤ cs.length then (argCells tab sh ts xs).map fun r => (cs.take n ++ r.1, r.2) else none
    | .box k off => match x.box with
      | some cs => if off + n ≤ cs.length then (argCells tab sh ts xs).map fun r => ((cs.drop off).take n ++ r.1, k :: r.2) else none
      | none => none
    | _ => none
  | .clo f ns :: sh, _ :: ts, x :: xs => match x.sv with
    | .fn f' [] caps => if f' = f then match capCells x.boxes ns caps with
      | some p => (argCells tab sh ts xs).map fun r => (p.1 ++ r.1, p.2 ++ r.2)
      | none => none
      else none
    | _ => none
  | _, _, _ => none

/-- Results out of their cells. -/
def splitR : List (Bool × Nat) → List CellV → List (Bool × List CellV)
  | [], _ => []
  | (ag, n) :: sh, cs => (ag, cs.take n) :: splitR sh (cs.drop n)

/-- Lists that are rows of one's own get their keys. -/
def retag (key : Nat → Nat) (fr : List (Nat × TypeId)) (i : Nat) : List CellV → List CellV
  | [] => []
  | .lst t l _ :: r => (match look i fr with | some _ => .own t (key i) | none => .lst t l none) :: retag key fr (i + 1) r
  | c :: r => c :: retag key fr (i + 1) r
/-- .. and these are the rows. -/
def newRows (key : Nat → Nat) (fr : List (Nat × TypeId)) (i : Nat) : List CellV → List (Nat × RowV)
  | [] => []
  | .lst t l _ :: r => match look i fr with
    | some e => (key i, .hot e t l 0 none false) :: newRows key fr (i + 1) r
    | none => newRows key fr (i + 1) r
  | _ :: r => newRows key fr (i + 1) r

def resSvL : List (Bool × List CellV) → Sv
  | [(ag, cs)] => .val ag cs
  | l => .tup l

/-- Does what comes back lean on memory that was there? -/
def leansC (fr : List (Nat × TypeId)) (i : Nat) : List CellV → Bool
  | [] => false
  | .lst .. :: r => (match look i fr with | some _ => false | none => true) || leansC fr (i + 1) r
  | _ :: r => leansC fr (i + 1) r
def Con.leans (con : Con) : Bool := leansC con.fresh 0 (flat con.R (dfl con.R)) || leansC con.ownI 0 (flat con.I (dfl con.I))

/-- The rows of cells that are handed over. -/
def handed (rows : List (Nat × RowV)) (cs : List CellV) : List (Nat × TypeId) → Option (List Nat)
  | [] => some []
  | (j, e) :: l => match cs[j]?, handed rows cs l with
    | some (.own t r), some ks => match look r rows with
      | some (.hot _ t' _ _ none _) => if t' = t then some (r :: ks) else none
      | _ => none
    | some (.lst _ [] (some 0)), some ks => some ks
    | some (.emp _), some ks => some ks
    | _, _ => none

/-- Rows that come back: what is written into them, in order. -/
def backRows (rows : List (Nat × RowV)) (cs : List CellV) : List (Nat × TypeId) → List CellV → Option (List (Nat × RowV))
  | [], [] => some []
  | (j, e) :: l, .lst t' l' _ :: bs => match cs[j]?, backRows rows cs l bs with
    | some (.own _ r), some ks => match look r rows with
      | some (.hot e0 t1 _ ver none _) => if t1 = t' then some ((r, .hot e0 t' l' (ver + 1) none false) :: ks) else none
      | _ => none
    | some (.lst _ [] (some 0)), some ks => some ks
    | some (.emp _), some ks => some ks
    | _, _ => none
  | _, _ => none
def backKeys (cs : List CellV) : List (Nat × TypeId) → List Nat
  | [] => []
  | (j, _) :: l => match cs[j]? with
    | some (.own _ r) => r :: backKeys cs l
    | _ => backKeys cs l

/-- Cells that are not handed over. -/
def restC (skip : List (Nat × TypeId)) (i : Nat) : List CellV → List CellV
  | [] => []
  | c :: l => match look i skip with
    | some _ => restC skip (i + 1) l
    | none => c :: restC skip (i + 1) l

/-- Can cells that come back be written where they stand? -/
def backOk (rows : List (Nat × RowV)) (cs : List CellV) : List (Nat × TypeId) → Bool
  | [] => true
  | (j, _) :: l => (match cs[j]? with
    | some (.own t r) => (match look r rows with | some (.hot _ t' _ _ none _) => decide (t' = t) | _ => false)
    | some (.lst _ [] (some 0)) => true
    | some (.emp _) => true
    | _ => false) && backOk rows cs l

structure Args (con : Con) where
  i : El con.I
  a : El con.A
  k : Option Nat
  cs : List CellV
  rows : List (Nat × RowV)
  kill : List Nat

def notMemO (k : Option Nat) (l : List Nat) : Bool := match k with
  | some k => notMem k l
  | none => true

def argsFin (con : Con) (rows : List (Nat × RowV)) (i : El con.I) (k : Option Nat) (iks : List Nat) (p : List CellV × List Nat) : Option (Args con) :=
  match valCs rows p.1, handed rows p.1 con.ownA with
  | some vs, some ks => match unflat con.A vs with
    | some (a, []) =>
      match nodupB (ks ++ (iks ++ backKeys p.1 con.backA)) && noneIn (borrowed (restC (con.ownA ++ con.backA) 0 p.1)) (ks ++ (iks ++ backKeys p.1 con.backA)) && backOk rows p.1 con.backA
        && (!con.leans || ((borrowed (restC (con.ownA ++ con.backA) 0 p.1)).isEmpty && p.2.isEmpty)) && notMemO k p.2 with
      | true => some ⟨i, a, k, p.1, rows, ks ++ iks⟩
      | false => none
    | _ => none
  | _, _ => none

def callArgs (tab : Tab) (con : Con) (ts : List TypeId) (args : List In) : Option (Args con) :=
  match con.io with
  | true => match args, ts with
    | x0 :: xs, _ :: ts' => match x0.sv, x0.box with
      | .box k 0, some bc => match valCs (args.flatMap (·.rows)) bc, handed (args.flatMap (·.rows)) bc con.ownI, argCells tab con.shA ts' xs with
        | some ic, some iks, some p => match unflat con.I ic with
          | some (i, []) => match (borrowed (restC con.ownI 0 bc)).isEmpty with
            | true => argsFin con (args.flatMap (·.rows)) i (some k) iks p
            | false => none
          | _ => none
        | _, _, _ => none
      | _, _ => none
    | _, _ => none
  | false => match argCells tab con.shA ts args with
    | some p => argsFin con (args.flatMap (·.rows)) (dfl con.I) none [] p
    | none => none

def callRes (con : Con) (d : Nat) (x : Args con) (y : El con.R × (El con.I × El con.B)) (br : List (Nat × RowV)) : Eff :=
  { sv := (match con.newR with | true => .box (d + 1) 0 | false => resSvL (splitR con.shR (retag (keyRow d) con.fresh 0 (flat con.R y.1))))
    nbox := (match con.newR with | true => some (retag (keyRow d) con.fresh 0 (flat con.R y.1)) | false => none)
    nrow := newRows (keyRow d) con.fresh 0 (flat con.R y.1) ++ (match x.k with | some _ => newRows (keyNI d) con.ownI 0 (flat con.I y.2.1) | none => [])
    urow := br
    krow := x.kill
    sbox := (match x.k with | some k => some (k, retag (keyNI d) con.ownI 0 (flat con.I y.2.1)) | none => none) }

def callInfo (Γ : Gam) (o : Oper) (ins : List In) : Option (Con × List TypeId × List In) := match o.op, ins with
  | .call c, f :: xs => match c.callee with
    | .value _ => match f.sv with
      | .fn n first caps => match Γ.con n with
        | some con => some (con, first.map (fun _ => 0) ++ (c.argTypes.toList ++ caps.map fun _ => 0), first.map (capIn f) ++ (xs ++ caps.map (capIn f)))
        | none => none
      | _ => none
    | _ => none
  | _, _ => none
where
  capIn (f : In) : Cap → In
    | .box k off => { sv := .box k off, box := look k f.boxes, boxes := f.boxes, rows := f.rows }
    | .ptr cs => { sv := .ptr cs, rows := f.rows }

/-! ### The operations -/

/-- The bounds of a slice by value. -/
def intOf? (x : In) : Option Int := match x.sv with
  | .val false [.int _ n] => some n
  | _ => none

/-- A slice as it is handed on, with what it reads as. -/
def listOf? (x : In) : Option ((t : Ty) × List (El t)) := match x.sv with
  | .val false [c] => match valC x.rows c with
    | some (.lst t l _) => some ⟨t, l⟩
    | _ => none
  | _ => none

def builtinEff (tab : Tab) (b : Builtin) (o : Oper) (ts : List TypeId) (args : List In) : Option (List Prop × Eff) :=
  match b, args with
  | .len, [x] => match ts with
    | [t] => match look t tab, x.sv with
      | some ⟨.str, false, _, _, _⟩, .val false [.str s] => some ([], { sv := .val false [.int .i64 s.length] })
      | some ⟨.list _, false, _, _, _⟩, _ => match listOf? x with
        | some ⟨τ, l⟩ => some ([], { sv := .val false [.int .i64 l.length] })
        | none => none
      | _, _ => none
    | _ => none
  | .min, [x, y] => match x.sv, y.sv with
    | .val false [.int k a], .val false [.int _ b] => some ([], { sv := .val false [.int k (if b < a then b else a)] })
    | _, _ => none
  | .max, [x, y] => match x.sv, y.sv with
    | .val false [.int k a], .val false [.int _ b] => some ([], { sv := .val false [.int k (if a < b then b else a)] })
    | _, _ => none
  | _, _ => none

end Go.Proofs.Ytcbehcpmojnnfaa.Bv
