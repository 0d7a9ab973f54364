/- Local values, states, and what each operation does to them, by value. Plain: the program's tables come as a table of types. -/
import Derived.Test.YtcbehcpmojnnfaaV1
namespace Go.Proofs.Ytcbehcpmojnnfaa.Bv
set_option linter.unusedVariables false
set_option linter.unusedSimpArgs false

inductive Sv where
  | und
  | nil
  | val (agg : Bool) (cs : List CellV)
  | box (k off : Nat)
  | ptr (cs : List CellV)
  | tup (l : List (Bool × List CellV))
  | fn (f : Nat) (caps : List (List CellV))

def look {α : Type} (k : Nat) : List (Nat × α) → Option α
  | [] => none
  | (j, x) :: r => if j = k then some x else look k r

structure St where
  nt : Nat
  slots : List (Nat × Sv)
  boxes : List (Nat × List CellV)
  rows : List (Nat × TypeId)

def St.get (st : St) (i : Nat) : Sv := match look i st.slots with | some sv => sv | none => .und
def St.put (st : St) (i : Nat) (sv : Sv) : St := { st with slots := (i, sv) :: st.slots }
def St.box (st : St) (k : Nat) : Option (List CellV) := look k st.boxes
def St.row (st : St) (k : Nat) : Option TypeId := look k st.rows

/-! ### Types -/

structure TI where
  ty : Ty
  agg : Bool := false
  fields : List (Nat × TypeId) := []
  elem : TypeId := 0
  bytes : Nat

abbrev Tab := List (TypeId × TI)

def zeroC : Ty → List CellV
  | .int k => [.int k 0]
  | .bool => [.bool false]
  | .str => [.str []]
  | .list t => [.lst t [] (some 0)]
  | .unit => []
  | .pair a b => zeroC a ++ zeroC b

def dflt : (t : Ty) → El t
  | .int _ => (0 : Int)
  | .bool => false
  | .str => []
  | .list _ => []
  | .unit => ()
  | .pair a b => (dflt a, dflt b)

/-! ### Contracts of the functions that are called -/

/-- How an argument comes: one cell, a struct of so many cells, a pointer to so many cells that are only read. -/
inductive Sh where
  | one
  | agg (n : Nat)
  | ptr (n : Nat)

structure Con where
  io : Bool := false
  I : Ty := .unit
  A : Ty
  shA : List Sh
  R : Ty
  shR : List (Bool × Nat)
  fresh : List (Nat × TypeId) := []
  pre : El I → El A → Prop
  f : El I → El A → El R × El I

/-! ### One operation -/

structure In where
  sv : Sv
  box : Option (List CellV)
  row : Option TypeId

structure Eff where
  sv : Sv
  nbox : Option (List CellV) := none
  nrow : List (Nat × TypeId) := []
  krow : Option Nat := none
  sbox : Option (Nat × List CellV) := none

def constSv : Value → Sv
  | .int k n => .val false [.int k n]
  | .bool b => .val false [.bool b]
  | .string s => .val false [.str s.data.toList]
  | .slice none 0 0 => .nil
  | _ => .und

def inOf (st : St) : Operand → In
  | .tmp t => match st.get t with
    | .box k off => ⟨.box k off, st.box k, none⟩
    | .val false [.lst t l (some r)] => ⟨.val false [.lst t l (some r)], none, st.row r⟩
    | sv => ⟨sv, none, none⟩
  | .const v => ⟨constSv v, none, none⟩
  | .func f => ⟨.fn f [], none, none⟩
  | .global _ => ⟨.und, none, none⟩

def typed (tab : Tab) (t : TypeId) : Sv → Sv
  | .nil => match look t tab with
    | some ⟨.list τ, _, _, _, _⟩ => .val false [.lst τ [] (some 0)]
    | _ => .und
  | sv => sv

/-- The bits of two integers. -/
def ibits (op : BinOp) (k : IntKind) (x y : Int) : Option Int :=
  let a := BitVec.ofInt k.bits x
  let b := BitVec.ofInt k.bits y
  match op with
  | .and => some (k.wrap (a &&& b).toNat)
  | .or => some (k.wrap (a ||| b).toNat)
  | .xor => some (k.wrap (a ^^^ b).toNat)
  | _ => none

def binV (op : BinOp) : CellV → CellV → Option (List Prop × CellV)
  | .int k a, .int k' b => match op with
    | .shl => some ([0 ≤ b], .int k (k.wrap (a * 2 ^ (min b.toNat k.bits))))
    | .shr => some ([0 ≤ b], .int k (a.fdiv (2 ^ (min b.toNat k.bits))))
    | _ => if k = k' then match op with
      | .add => some ([], .int k (k.wrap (a + b)))
      | .sub => some ([], .int k (k.wrap (a - b)))
      | .mul => some ([], .int k (k.wrap (a * b)))
      | .quo => some ([b ≠ 0], .int k (k.wrap (a.tdiv b)))
      | .rem => some ([b ≠ 0], .int k (a.tmod b))
      | .eql => some ([], .bool (a == b))
      | .neq => some ([], .bool (a != b))
      | .lss => some ([], .bool (decide (a < b)))
      | .leq => some ([], .bool (decide (a ≤ b)))
      | .gtr => some ([], .bool (decide (a > b)))
      | .geq => some ([], .bool (decide (a ≥ b)))
      | .and => some ([], .int k (k.wrap (BitVec.ofInt k.bits a &&& BitVec.ofInt k.bits b).toNat))
      | .or => some ([], .int k (k.wrap (BitVec.ofInt k.bits a ||| BitVec.ofInt k.bits b).toNat))
      | .xor => some ([], .int k (k.wrap (BitVec.ofInt k.bits a ^^^ BitVec.ofInt k.bits b).toNat))
      | _ => none
      else none
  | .str a, .str b => match op with
    | .add => some ([a.length + b.length ≤ 9223372036854775807], .str (a ++ b))
    | .eql => some ([], .bool (a == b))
    | .neq => some ([], .bool (!(a == b)))
    | .lss => some ([], .bool (Op.bytesLess a b))
    | .leq => some ([], .bool (Op.bytesLess a b || a == b))
    | .gtr => some ([], .bool (!(Op.bytesLess a b || a == b)))
    | .geq => some ([], .bool (!Op.bytesLess a b))
    | _ => none
  | .bool a, .bool b => match op with
    | .eql => some ([], .bool (a == b))
    | .neq => some ([], .bool (!(a == b)))
    | _ => none
  | _, _ => none

/-- Are two values without slices alike? -/
def cellEq : CellV → CellV → Option Bool
  | .int _ a, .int _ b => some (a == b)
  | .str a, .str b => some (a == b)
  | .bool a, .bool b => some (a == b)
  | _, _ => none

def cellsEq : List CellV → List CellV → Option Bool
  | [], [] => some true
  | a :: r, b :: s => match cellEq a b with
    | some x => match cellsEq r s with
      | some y => some (x && y)
      | none => none
    | none => none
  | _, _ => none

def unV (op : UnOp) : CellV → Option CellV
  | .bool b => match op with
    | .not => some (.bool (!b))
    | _ => none
  | .int k n => match op with
    | .neg => some (.int k (k.wrap (0 - n)))
    | .xor => some (.int k (k.wrap (BitVec.ofInt k.bits (if k.signed then -1 else k.max) ^^^ BitVec.ofInt k.bits n).toNat))
    | _ => none
  | _ => none

/-- Parts laid into cells. -/
def fillC (place : Nat → Option (Nat × Nat)) (cells : List CellV) : List (Nat × List CellV) → Option (List CellV)
  | [] => some cells
  | (i, cs) :: rest => match place i with
    | none => none
    | some (off, sz) =>
      if cs.length = sz ∧ off + cs.length ≤ cells.length then fillC place (cells.take off ++ (cs ++ cells.drop (off + cs.length))) rest
      else none

/-- n elements out of cells. -/
def unflatN (t : Ty) : Nat → List CellV → Option (List (El t) × List CellV)
  | 0, cs => some ([], cs)
  | n + 1, cs => (unflat t cs).bind fun p => (unflatN t n p.2).bind fun q => some (p.1 :: q.1, q.2)

def zerosC (t : Ty) : Nat → List CellV
  | 0 => []
  | n + 1 => zeroC t ++ zerosC t n

def cellsOfSv (tab : Tab) (t : TypeId) (sv : Sv) : Option (List CellV) := match typed tab t sv with
  | .val _ cs => some cs
  | _ => none

/-- Keys of what an operation makes: its destination tells them. -/
def keyRow (d i : Nat) : Nat := d * 64 + i + 1

/-- Arguments of a call: their cells, one behind the other; each as the contract has it. -/
def argCells (tab : Tab) : List Sh → List TypeId → List In → Option (List CellV)
  | [], [], [] => some []
  | .one :: sh, t :: ts, x :: xs => match typed tab t x.sv with
    | .val false [c] => (argCells tab sh ts xs).bind fun r => some (c :: r)
    | _ => none
  | .agg n :: sh, t :: ts, x :: xs => match typed tab t x.sv with
    | .val true cs => if cs.length = n then (argCells tab sh ts xs).bind fun r => some (cs ++ r) else none
    | _ => none
  | .ptr n :: sh, _ :: ts, x :: xs => match x.sv with
    | .ptr cs => if n ≤ cs.length then (argCells tab sh ts xs).bind fun r => some (cs.take n ++ r) else none
    | _ => none
  | _, _, _ => none

/-- Results out of their cells. -/
def splitR : List (Bool × Nat) → List CellV → List (Bool × List CellV)
  | [], _ => []
  | (ag, n) :: sh, cs => (ag, cs.take n) :: splitR sh (cs.drop n)

def retag (d : Nat) (fr : List (Nat × TypeId)) (i : Nat) : List CellV → List CellV
  | [] => []
  | .lst t l _ :: r => .lst t l (if (look i fr).isSome then some (keyRow d i) else none) :: retag d fr (i + 1) r
  | c :: r => c :: retag d fr (i + 1) r

def resSv : List (Bool × List CellV) → Sv
  | [(ag, cs)] => .val ag cs
  | l => .tup l

def callEff (tab : Tab) (con : Con) (o : Oper) (ts : List TypeId) (args : List In) : Option (List Prop × Eff) :=
  match o.dst with
  | none => none
  | some d =>
    if con.io then match args, ts with
      | ⟨.box k 0, some bc, _⟩ :: xs, _ :: ts' => match unflat con.I bc, argCells tab con.shA ts' xs with
        | some (i, []), some cs => match unflat con.A cs with
          | some (a, []) => some ([con.pre i a], { sv := resSv (splitR con.shR (retag d con.fresh 0 (flat con.R (con.f i a).1))), nrow := con.fresh.map fun p => (keyRow d p.1, p.2), sbox := some (k, flat con.I (con.f i a).2) })
          | _ => none
        | _, _ => none
      | _, _ => none
    else match argCells tab con.shA ts args with
      | some cs => match unflat con.A cs with
        | some (a, []) => some ([con.pre (dflt con.I) a], { sv := resSv (splitR con.shR (retag d con.fresh 0 (flat con.R (con.f (dflt con.I) a).1))), nrow := con.fresh.map fun p => (keyRow d p.1, p.2) })
        | _ => none
      | none => none

def builtinEff (tab : Tab) (b : Builtin) (o : Oper) (ts : List TypeId) (args : List In) : Option (List Prop × Eff) :=
  match b, args with
  | .len, [x] => match ts with
    | [t] => match look t tab, x.sv with
      | some ⟨.list _, false, _, _, _⟩, .val false [.lst _ l _] => some ([], { sv := .val false [.int .i64 l.length] })
      | some ⟨.str, false, _, _, _⟩, .val false [.str s] => some ([], { sv := .val false [.int .i64 s.length] })
      | _, _ => none
    | _ => none
  | .append, [x, y] => match o.dst, ts with
    | some d, [t, u] => if t = u then match look t tab, typed tab t x.sv, typed tab u y.sv with
      | some ⟨.list τ, false, _, e, _⟩, .val false [.lst τ1 l (some r)], .val false [.lst τ2 l' _] => match look e tab with
        | some ⟨τe, _, _, _, bytes⟩ =>
          if h1 : τ1 = τ then if h2 : τ2 = τ then
            if τe = τ ∧ 0 < size τ ∧ (r = 0 ∨ x.row = some e) then
              some ([(h1 ▸ l : List (El τ)).length + (h2 ▸ l' : List (El τ)).length ≤ 9223372036854775807, ((h1 ▸ l : List (El τ)).length + (h2 ▸ l' : List (El τ)).length) * bytes ≤ 140737488355328],
                { sv := .val false [.lst τ ((h1 ▸ l : List (El τ)) ++ (h2 ▸ l' : List (El τ))) (some (keyRow d 0))], nrow := [(keyRow d 0, e)], krow := some r })
            else none
          else none else none
        | none => none
      | _, _, _ => none
      else none
    | _, _ => none
  | .min, [x, y] => match x.sv, y.sv with
    | .val false [.int k a], .val false [.int _ b] => some ([], { sv := .val false [.int k (if b < a then b else a)] })
    | _, _ => none
  | .max, [x, y] => match x.sv, y.sv with
    | .val false [.int k a], .val false [.int _ b] => some ([], { sv := .val false [.int k (if a < b then b else a)] })
    | _, _ => none
  | _, _ => none

/-- The bounds of a slice by value. -/
def intOf? (x : In) : Option Int := match x.sv with
  | .val false [.int _ n] => some n
  | _ => none

def sliceV (tab : Tab) (ti : TI) (x : In) (a b : Option Int) : Option (List Prop × Eff) :=
  match x.sv, ti.ty, ti.agg with
  | .val false [.str s], .str, false =>
    match a, b with
    | none, none => some ([], { sv := .val false [.str s] })
    | some n, none => some ([0 ≤ n, n ≤ s.length], { sv := .val false [.str (s.drop n.toNat)] })
    | none, some m => some ([0 ≤ m, m ≤ s.length], { sv := .val false [.str (s.take m.toNat)] })
    | some n, some m => some ([0 ≤ n, n ≤ m, m ≤ s.length], { sv := .val false [.str ((s.take m.toNat).drop n.toNat)] })
  | .val false [.lst τ l _], .list _, false => match look ti.elem tab with
    | some te => if size te.ty = size τ then
        match a, b with
        | none, none => some ([], { sv := .val false [.lst τ l none] })
        | some n, none => some ([0 ≤ n, n ≤ l.length], { sv := .val false [.lst τ (l.drop n.toNat) none] })
        | none, some m => some ([0 ≤ m, m ≤ l.length], { sv := .val false [.lst τ (l.take m.toNat) none] })
        | some n, some m => some ([0 ≤ n, n ≤ m, m ≤ l.length], { sv := .val false [.lst τ ((l.take m.toNat).drop n.toNat) none] })
      else none
    | none => none
  | _, _, _ => none

def sliceEff (tab : Tab) (t : TypeId) (lo hi : Option Operand) (x : In) (ys : List In) : Option (List Prop × Eff) :=
  match look t tab with
  | none => none
  | some ti => match lo, hi, ys with
    | none, none, [] => sliceV tab ti x none none
    | some _, none, [y] => match intOf? y with
      | some n => sliceV tab ti x (some n) none
      | none => none
    | none, some _, [z] => match intOf? z with
      | some m => sliceV tab ti x none (some m)
      | none => none
    | some _, some _, [y, z] => match intOf? y, intOf? z with
      | some n, some m => sliceV tab ti x (some n) (some m)
      | _, _ => none
    | _, _, _ => none

def callOp (tab : Tab) (Γ : Nat → Option Con) (o : Oper) (c : Call) (xs : List In) : Option (List Prop × Eff) :=
  match c.callee, xs with
  | .builtin b, xs => builtinEff tab b o c.argTypes.toList xs
  | .value _, f :: xs => match f.sv with
    | .fn n [] => match Γ n with
      | some con => callEff tab con o c.argTypes.toList xs
      | none => none
    | _ => none
  | _, _ => none

def opEff (tab : Tab) (Γ : Nat → Option Con) (o : Oper) (args : List In) : Option (List Prop × Eff) :=
  match o.op, args with
  | .move _, [x] => some ([], { sv := typed tab o.type x.sv })
  | .assign _, [x] => some ([], { sv := typed tab o.type x.sv })
  | .pick _ _ _, [c, a, b] => match c.sv with
    | .val false [.bool c'] => match c' with
      | true => some ([], { sv := a.sv })
      | false => some ([], { sv := b.sv })
    | _ => none
  | .alloc t, [] => match o.dst, look t tab with
    | some d, some ti => some ([], { sv := .box (d + 1) 0, nbox := some (zeroC ti.ty) })
    | _, _ => none
  | .box t _, [x] => match o.dst, cellsOfSv tab t x.sv with
    | some d, some cs => some ([], { sv := .box (d + 1) 0, nbox := some cs })
    | _, _ => none
  | .build t parts, xs => match look t tab with
    | some ti => if ti.agg then
        match (parts.toList.map (·.1)).zip xs |>.mapM fun p => (ti.fields[p.1]?).bind fun f => (cellsOfSv tab f.2 p.2.sv).bind fun cs => some (p.1, cs) with
        | some ps => match fillC (fun i => (ti.fields[i]?).bind fun f => (look f.2 tab).bind fun tf => some (f.1, size tf.ty)) (zeroC ti.ty) ps with
          | some cs => some ([], { sv := .val true cs })
          | none => none
        | none => none
      else none
    | none => none
  | .buildSlice t n parts, xs => match o.dst, look t tab with
    | some d, some ⟨.list τ, false, _, e, _⟩ => match look e tab with
      | some te => if te.ty = τ ∧ 0 < size τ ∧ n * size τ ≤ 16777216 then
          match (parts.toList.map (·.1)).zip xs |>.mapM fun p => (cellsOfSv tab e p.2.sv).bind fun cs => some (p.1, cs) with
          | some ps => match fillC (fun i => some (i * size τ, size τ)) (zerosC τ n) ps with
            | some cs => match unflatN τ n cs with
              | some (l, []) => some ([], { sv := .val false [.lst τ l (some (keyRow d 0))], nrow := [(keyRow d 0, e)] })
              | _ => none
            | none => none
          | none => none
        else none
      | none => none
    | _, _ => none
  | .load t _, [x] => match look t tab with
    | some ti => match x.sv with
      | .box _ off => match x.box with
        | some cs => if off + size ti.ty ≤ cs.length ∧ (ti.agg = true ∨ size ti.ty = 1) then some ([], { sv := .val ti.agg ((cs.drop off).take (size ti.ty)) }) else none
        | none => none
      | .ptr cs => if size ti.ty ≤ cs.length ∧ (ti.agg = true ∨ size ti.ty = 1) then some ([], { sv := .val ti.agg (cs.take (size ti.ty)) }) else none
      | _ => none
    | none => none
  | .store t _ _, [x, y] => match look t tab, x.sv, x.box, cellsOfSv tab t y.sv with
    | some ti, .box k off, some cs, some ds =>
      if ds.length = size ti.ty ∧ off + ds.length ≤ cs.length ∧ o.dst = none then some ([], { sv := .und, sbox := some (k, cs.take off ++ (ds ++ cs.drop (off + ds.length))) }) else none
    | _, _, _, _ => none
  | .nilCheck _, [x] => match x.sv with
    | .box k off => some ([], { sv := .box k off })
    | .ptr cs => some ([], { sv := .ptr cs })
    | _ => none
  | .binOp op t _ _ _, [x, y] => match x.sv, y.sv with
    | .val false [a], .val false [b] => match (match a with
        | .bool _ => (match look t tab with
          | some ⟨.bool, false, _, _, _⟩ => true
          | _ => false)
        | _ => true), binV op a b with
      | true, some (ps, c) => some (ps, { sv := .val false [c] })
      | _, _ => none
    | _, _ => none
  | .unOp op _ _, [x] => match x.sv with
    | .val false [a] => match unV op a with
      | some c => some ([], { sv := .val false [c] })
      | none => none
    | _ => none
  | .convert s t _, [x] => match look t tab, x.sv with
    | some ⟨.int k, false, _, _, _⟩, .val false [.int _ n] => if (look s tab).isSome then some ([], { sv := .val false [.int k (k.wrap n)] }) else none
    | some ⟨.str, false, _, _, _⟩, .val false [.lst (.int .u8) l _] => match look s tab with
      | some ⟨.list (.int .u8), false, _, e, _⟩ => match look e tab with
        | some ⟨.int .u8, false, _, _, _⟩ => some ([], { sv := .val false [.str ((show List Int from l).map fun n => UInt8.ofNat n.toNat)] })
        | _ => none
      | _ => none
    | _, _ => none
  | .slice t _ lo hi none, x :: ys => sliceEff tab t lo hi x ys
  | .fieldAddr t _ f, [x] => match look t tab with
    | some ti => if ti.agg then match ti.fields[f]? with
      | some (off, tf) => match look tf tab with
        | some ⟨τf, _, _, _, _⟩ => if 0 < size τf then match x.sv with
          | .box k o => some ([], { sv := .box k (o + off) })
          | .ptr cs => if off ≤ cs.length then some ([], { sv := .ptr (cs.drop off) }) else none
          | _ => none
          else none
        | none => none
      | none => none
      else none
    | none => none
  | .field t _ f, [x] => match look t tab with
    | some ti => if ti.agg then match ti.fields[f]? with
      | some (off, tf) => match look tf tab with
        | some tif => match x.sv with
          | .val true cs => if off + size tif.ty ≤ cs.length ∧ (tif.agg = true ∨ size tif.ty = 1) then some ([], { sv := .val tif.agg ((cs.drop off).take (size tif.ty)) }) else none
          | _ => none
        | none => none
      | none => none
      else none
    | none => none
  | .indexAddr t _ _, [x, y] => match look t tab, x.sv, y.sv with
    | some ⟨.list _, false, _, e, _⟩, .val false [.lst τ l _], .val false [.int _ i] => match look e tab with
      | some te => if size te.ty = size τ then some ([0 ≤ i, i < l.length], { sv := .ptr (flat τ (l.getD i.toNat (dflt τ))) }) else none
      | none => none
    | _, _, _ => none
  | .index t _ _, [x, y] => match look t tab, x.sv, y.sv with
    | some ⟨.str, false, _, _, _⟩, .val false [.str s], .val false [.int _ i] => some ([0 ≤ i, i < s.length], { sv := .val false [.int .u8 (s.getD i.toNat 0).toNat] })
    | _, _, _ => none
  | .extract _ i, [x] => match x.sv with
    | .tup l => match l[i]? with
      | some (ag, cs) => some ([], { sv := .val ag cs })
      | none => none
    | _ => none
  | .call c, xs => callOp tab Γ o c xs
  | _, _ => none

def allP : List Prop → Prop → Prop
  | [], X => X
  | p :: r, X => p ∧ allP r X

def Eff.apply (e : Eff) (dst : Option Nat) (st : St) : St :=
  { st with
    slots := match dst with | some d => (d, e.sv) :: st.slots | none => st.slots
    boxes := match e.sbox with
      | some p => p :: (match dst, e.nbox with | some d, some cs => (d + 1, cs) :: st.boxes | _, _ => st.boxes)
      | none => match dst, e.nbox with | some d, some cs => (d + 1, cs) :: st.boxes | _, _ => st.boxes
    rows := e.nrow ++ (match e.krow with | some r => st.rows.filter (fun p => !(p.1 == r)) | none => st.rows) }

def caseB (b : Bool) (X Y : Prop) : Prop := match b with
  | true => X
  | false => Y

theorem caseB_of {b : Bool} {X Y : Prop} (h1 : b = true → X) (h2 : b = false → Y) : caseB b X Y := by
  cases b
  · exact h2 rfl
  · exact h1 rfl

theorem caseB_to {b : Bool} {X Y : Prop} (h : caseB b X Y) : (b = true → X) ∧ (b = false → Y) := by
  cases b
  · exact ⟨fun e => absurd e (by decide), fun _ => h⟩
  · exact ⟨fun _ => h, fun e => absurd e (by decide)⟩

def noTagC (r : Nat) : List CellV → Bool
  | [] => true
  | .lst _ _ (some r') :: cs => !(r' == r) && noTagC r cs
  | _ :: cs => noTagC r cs
def noTagL (r : Nat) : List (Bool × List CellV) → Bool
  | [] => true
  | p :: l => noTagC r p.2 && noTagL r l
def noTagS (r : Nat) : Sv → Bool
  | .val _ cs => noTagC r cs
  | .ptr cs => noTagC r cs
  | .tup l => noTagL r l
  | _ => true
def noTagSlots (r : Nat) : List (Nat × Sv) → Bool
  | [] => true
  | p :: l => noTagS r p.2 && noTagSlots r l
def noTagBoxes (r : Nat) : List (Nat × List CellV) → Bool
  | [] => true
  | p :: l => noTagC r p.2 && noTagBoxes r l
def noTag (r : Nat) (st : St) : Bool := noTagSlots r st.slots && noTagBoxes r st.boxes && !(look r st.rows).isSome
def noBoxS (k : Nat) : Sv → Bool
  | .box k' _ => !(k' == k)
  | _ => true
def noBoxSlots (k : Nat) : List (Nat × Sv) → Bool
  | [] => true
  | p :: l => noBoxS k p.2 && noBoxSlots k l
def noBox (k : Nat) (st : St) : Bool := noBoxSlots k st.slots

def noTags (st : St) : List (Nat × TypeId) → Bool
  | [] => true
  | p :: l => noTag p.1 st && noTags st l

/-- Nobody bears the keys of what is made. -/
def freshEff (e : Eff) (dst : Option Nat) (st : St) : Bool :=
  (match e.nbox, dst with | some _, some d => noBox (d + 1) st | _, _ => true) && noTags st e.nrow

/-! ### A call, its result by a name -/

def callInfo (Γ : Nat → Option Con) (o : Oper) (ins : List In) : Option (Con × List TypeId × List In) := match o.op, ins with
  | .call c, f :: xs => match c.callee with
    | .value _ => match f.sv with
      | .fn n [] => match Γ n with
        | some con => some (con, c.argTypes.toList, xs)
        | none => none
      | _ => none
    | _ => none
  | _, _ => none

def callParts (tab : Tab) (con : Con) (ts : List TypeId) (args : List In) : Option (El con.I × El con.A × Option Nat) :=
  match con.io with
  | true => match args, ts with
    | ⟨.box k 0, some bc, _⟩ :: xs, _ :: ts' => match unflat con.I bc, argCells tab con.shA ts' xs with
      | some (i, []), some cs => match unflat con.A cs with
        | some (a, []) => some (i, a, some k)
        | _ => none
      | _, _ => none
    | _, _ => none
  | false => match argCells tab con.shA ts args with
    | some cs => match unflat con.A cs with
      | some (a, []) => some (dflt con.I, a, none)
      | _ => none
    | none => none

def callRes (con : Con) (d : Nat) (k : Option Nat) (r : El con.R × El con.I) : Eff :=
  { sv := resSv (splitR con.shR (retag d con.fresh 0 (flat con.R r.1))), nrow := con.fresh.map fun p => (keyRow d p.1, p.2), sbox := match k with | some k => some (k, flat con.I r.2) | none => none }

theorem callEff_parts {tab : Tab} {con : Con} {o : Oper} {d : Nat} {ts : List TypeId} {args : List In} {i : El con.I} {a : El con.A} {k : Option Nat} (hd : o.dst = some d) (h : callParts tab con ts args = some (i, a, k)) :
    callEff tab con o ts args = some ([con.pre i a], callRes con d k (con.f i a)) := by
  unfold callParts at h
  unfold callEff
  rw [hd]
  simp only
  cases hio : con.io with
  | true =>
    rw [hio] at h
    simp only [if_true]
    simp only at h
    split at h
    · split at h
      · rename_i h1 h2
        split at h
        · rename_i h3
          cases h
          simp only [h1, h2, h3, callRes]
        · cases h
      · cases h
    · cases h
  | false =>
    rw [hio] at h
    simp only [Bool.false_eq_true, if_false]
    simp only at h
    split at h
    · rename_i h1
      split at h
      · rename_i h2
        cases h
        simp only [h1, h2, callRes]
      · cases h
    · cases h

def vcCall (tab : Tab) (con : Con) (o : Oper) (ts : List TypeId) (xs : List In) (st : St) (K : Eff → Prop) : Prop :=
  match o.dst, callParts tab con ts xs with
  | some d, some (i, a, k) => match noTags st (con.fresh.map fun p => (keyRow d p.1, p.2)) with
    | true => con.pre i a ∧ ∀ r, r = con.f i a → K (callRes con d k r)
    | false => False
  | _, _ => False

/-- One operation in its place. -/
def vcOpE (tab : Tab) (Γ : Nat → Option Con) (o : Oper) (st : St) (K : Eff → Prop) : Prop :=
  match (match o.dst with | some d => decide (d < st.nt) | none => true) with
  | true => match callInfo Γ o (o.op.operands.toList.map (inOf st)) with
    | some (con, ts, xs) => vcCall tab con o ts xs st K
    | none => match opEff tab Γ o (o.op.operands.toList.map (inOf st)) with
      | some (ps, e) => match freshEff e o.dst st with
        | true => allP ps (K e)
        | false => False
      | none => False
  | false => False

def vcOp (tab : Tab) (Γ : Nat → Option Con) (o : Oper) (st : St) (K : St → Prop) : Prop := vcOpE tab Γ o st fun e => K (e.apply o.dst st)

def guardDst (all : List Oper) (j : Nat) : Option Nat := match all[j]? with
  | some o => o.dst
  | none => none

/-- An operation that is passed over. -/
def skipSt (o : Oper) (st : St) : St := match o.dst with
  | some d => st.put d (.tup [])
  | none => st

def vcOps (tab : Tab) (Γ : Nat → Option Con) (all : List Oper) : List Oper → St → (St → Prop) → Prop
  | [], st, K => K st
  | o :: rest, st, K => match o.guard with
    | none => vcOp tab Γ o st fun st' => vcOps tab Γ all rest st' K
    | some (j, want) => match guardDst all j with
      | some dj => match st.get dj with
        | .val false [.bool b] => caseB b
            (cond want (vcOp tab Γ o (st.put dj (.val false [.bool true])) fun st' => vcOps tab Γ all rest st' K) (vcOps tab Γ all rest (skipSt o (st.put dj (.val false [.bool true]))) K))
            (cond want (vcOps tab Γ all rest (skipSt o (st.put dj (.val false [.bool false]))) K) (vcOp tab Γ o (st.put dj (.val false [.bool false])) fun st' => vcOps tab Γ all rest st' K))
        | .tup [] => vcOps tab Γ all rest (skipSt o st) K
        | _ => False
      | none => False

end Go.Proofs.Ytcbehcpmojnnfaa.Bv
