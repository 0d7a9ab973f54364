/- What each operation does, by value. Plain. -/
import Derived.Test.YtcbehcpmojnnfaaW2
namespace Go.Proofs.Ytcbehcpmojnnfaa.Bv
set_option linter.unusedVariables false
set_option linter.unusedSimpArgs false

def castL {a b : Ty} (h : a = b) (l : List (El a)) : List (El b) := h ▸ l

/-- What is behind, and the rows that go with it. -/
def behindV (τ : Ty) (yc : CellV) (y : In) : Option (List (El τ) × List Nat) := match flatTy τ with
  | true => match valC y.rows yc with
    | some (.lst t l2 _) => if h : t = τ then some (castL h l2, []) else none
    | _ => none
  | false => match yc with
    | .own t r => match look r y.rows with
      | some (.hot _ t' l2 _ none _) => if h : t' = τ then if t = τ then some (castL h l2, [r]) else none else none
      | _ => none
    | .lst t [] (some 0) => some ([], [])
    | .emp t => some ([], [])
    | _ => none

/-- append. x: a row that may be written, or nothing; y: what comes behind. -/
def appendHot (e : TypeId) (τ : Ty) (bytes : Nat) (d : Nat) (x : In) (xc yc : CellV) (y : In) : Option (List Prop × Eff) :=
  let fin (l l2 : List (El τ)) (kill : List Nat) (upd : List (Nat × RowV)) : Option (List Prop × Eff) :=
    some ([l.length + l2.length ≤ 9223372036854775807, (l.length + l2.length) * bytes ≤ 140737488355328],
      { sv := .val false [.own τ (keyRow d 0)], nrow := [(keyRow d 0, .hot e τ (l ++ l2) 0 none false)], krow := kill, urow := upd })
  match behindV τ yc y with
  | none => none
  | some (l2, ks) => match xc with
    | .own t r => match look r x.rows with
      | some (.hot _ t' l _ none z) => if h : t' = τ then if t = τ then match notMem r ks with
        | true => fin (castL h l) l2 (r :: ks) []
        | false => none
        else none else none
      | _ => none
    | .lst t [] (some 0) => fin [] l2 ks []
    | .emp t => fin [] l2 ks []
    | _ => none

/-- Where cells lie in a row's list after cells of an element are written. -/
def setEl (τ : Ty) (l : List (El τ)) (i off : Nat) (ds : List CellV) : Option (List (El τ)) :=
  match unflat τ ((flat τ (l.getD i (dfl τ))).take off ++ (ds ++ (flat τ (l.getD i (dfl τ))).drop (off + ds.length))) with
  | some (y, []) => some (l.set i y)
  | _ => none

def storeHp (tab : Tab) (ti : TI) (τ : Ty) (r i off : Nat) (x : In) (ds : List CellV) (rows : List (Nat × RowV)) : Option (List Prop × Eff) :=
  match look r x.rows, ownC rows ds with
  | some (.hot e τ' l ver hole z), some (ps, ks) => if h : τ' = τ then
      if ds.length = size ti.ty ∧ off + ds.length ≤ size τ ∧ 0 < ds.length then
        match notMem r ks && nodupB ks, setEl τ (castL h l) i off ps with
        | true, some l' => match hole with
          | none => some ([], { sv := .und, krow := ks, urow := [(r, .hot e τ l' (ver + 1) none z)] })
          | some (i', off') => if off' = off ∧ ds.length = 1 then some ([i = i'], { sv := .und, krow := ks, urow := [(r, .hot e τ l' (ver + 1) none z)] }) else none
        | _, _ => none
      else none
    else none
  | _, _ => none

def sliceL (τ : Ty) (l : List (El τ)) (a b : Option Int) : List Prop × List (El τ) × (Nat × Nat) := match a, b with
  | none, none => ([], l, (0, l.length))
  | some n, none => ([0 ≤ n, n ≤ l.length], l.drop n.toNat, (n.toNat, l.length))
  | none, some m => ([0 ≤ m, m ≤ l.length], l.take m.toNat, (0, m.toNat))
  | some n, some m => ([0 ≤ n, n ≤ m, m ≤ l.length], (l.take m.toNat).drop n.toNat, (n.toNat, m.toNat))

def sliceV (tab : Tab) (Γ : Gam) (o : Oper) (ti : TI) (x : In) (a b : Option Int) : Option (List Prop × Eff) :=
  match x.sv, ti.ty, ti.agg with
  | .val false [.str s], .str, false =>
    match a, b with
    | none, none => some ([], { sv := .val false [.str s] })
    | some n, none => some ([0 ≤ n, n ≤ s.length], { sv := .val false [.str (s.drop n.toNat)] })
    | none, some m => some ([0 ≤ m, m ≤ s.length], { sv := .val false [.str (s.take m.toNat)] })
    | some n, some m => some ([0 ≤ n, n ≤ m, m ≤ s.length], { sv := .val false [.str ((s.take m.toNat).drop n.toNat)] })
  | .val false [.lst τ l _], .list _, false => match look ti.elem tab with
    | some te => if size te.ty = size τ then
        let p := sliceL τ l a b
        some (p.1, { sv := .val false [.lst τ p.2.1 none] })
      else none
    | none => none
  | .val false [.own τ r], .list _, false => match look ti.elem tab, look r x.rows with
    | some te, some (.hot e τ' l ver none z) => if h : τ' = τ then if size te.ty = size τ then
        let p := sliceL τ (castL h l) a b
        match o.dst, o.dst.any Γ.tk.contains with
        | some d, true => some (p.1, { sv := .val false [.own τ (keyRow d 0)], nrow := [(keyRow d 0, .hot e τ p.2.1 0 none false)], krow := [r] })
        | _, _ => some (p.1, { sv := .val false [.sub τ r p.2.2.1 p.2.2.2] })
      else none else none
    | _, _ => none
  | .val false [.sub τ r lo hi], .list _, false => match look ti.elem tab, look r x.rows with
    | some te, some (.hot e τ' l ver none z) => if h : τ' = τ then if size te.ty = size τ then
        let p := sliceL τ (((castL h l).take hi).drop lo) a b
        some (p.1, { sv := .val false [.sub τ r (lo + p.2.2.1) (lo + p.2.2.2)] })
      else none else none
    | _, _ => none
  | .val false [.bor τ l r ver _], .list _, false => match look ti.elem tab, look r x.rows with
    | some te, some (.hot _ _ _ ver' _ _) => if ver' = ver then if size te.ty = size τ then
        let p := sliceL τ l a b
        some (p.1, { sv := .val false [.bor τ p.2.1 r ver none] })
      else none else none
    | _, _ => none
  | _, _, _ => none

def sliceEff (tab : Tab) (Γ : Gam) (o : Oper) (t : TypeId) (lo hi : Option Operand) (x : In) (ys : List In) : Option (List Prop × Eff) :=
  match look t tab with
  | none => none
  | some ti => match lo, hi, ys with
    | none, none, [] => sliceV tab Γ o ti x none none
    | some _, none, [y] => match intOf? y with
      | some n => sliceV tab Γ o ti x (some n) none
      | none => none
    | none, some _, [z] => match intOf? z with
      | some m => sliceV tab Γ o ti x none (some m)
      | none => none
    | some _, some _, [y, z] => match intOf? y, intOf? z with
      | some n, some m => sliceV tab Γ o ti x (some n) (some m)
      | _, _ => none
    | _, _, _ => none

def appendEff (tab : Tab) (o : Oper) (ts : List TypeId) (x y : In) : Option (List Prop × Eff) :=
  match o.dst, ts with
  | some d, [t, u] => if t = u then match look t tab, typed tab t x.sv, typed tab u y.sv with
    | some ⟨.list τ, false, _, e, _⟩, .val false [xc], .val false [yc] => match look e tab with
      | some ⟨τe, _, _, _, bytes⟩ => if τe = τ ∧ 0 < size τ then
          match xc, yc with
          | .lst τ1 l (some r), .lst τ2 l' _ => match (decide (r = 0) && flatTy τ) with
            | true => appendHot e τ bytes d x xc yc y
            | false => if h1 : τ1 = τ then if h2 : τ2 = τ then if r = 0 ∨ x.row = some e then
              some ([(castL h1 l).length + (castL h2 l').length ≤ 9223372036854775807, ((castL h1 l).length + (castL h2 l').length) * bytes ≤ 140737488355328],
                { sv := .val false [.lst τ (castL h1 l ++ castL h2 l') (some (keyRow d 0))], nrow := [(keyRow d 0, .cold e)], krow := [r] })
              else none else none else none
          | _, _ => appendHot e τ bytes d x xc yc y
        else none
      | none => none
    | _, _, _ => none
    else none
  | _, _ => none

/-- A piece of a row, to be written. -/
structure Dst (τ : Ty) where
  e : TypeId
  l : List (El τ)
  ver : Nat
  z : Bool
  r : Nat
  lo : Nat
  hi : Nat

def dstOf (τ : Ty) (x : In) : Option (Dst τ) := match x.sv with
  | .val false [.own τ1 r] => match look r x.rows with
    | some (.hot e τ' l ver none z) => if h : τ' = τ then if τ1 = τ then some ⟨e, castL h l, ver, z, r, 0, (castL h l).length⟩ else none else none
    | _ => none
  | .val false [.sub τ1 r lo hi] => match look r x.rows with
    | some (.hot e τ' l ver none z) => if h : τ' = τ then if τ1 = τ then some ⟨e, castL h l, ver, z, r, lo, hi⟩ else none else none
    | _ => none
  | _ => none

def callOp (tab : Tab) (Γ : Gam) (o : Oper) (c : Call) (xs : List In) : Option (List Prop × Eff) :=
  match c.callee, xs with
  | .builtin .append, [x, y] => appendEff tab o c.argTypes.toList x y
  | .builtin .copy, [x, y] => match c.argTypes.toList with
    | [tx, ty] => match look tx tab with
      | some ⟨.list τ, false, _, e, _⟩ => match look e tab with
        | some te => if te.ty = τ ∧ 0 < size τ ∧ flatTy τ = true then match dstOf τ x, listOf? y with
            | some p, some ⟨τ2, l2⟩ => if h2 : τ2 = τ then
                some ([p.lo ≤ p.hi, p.hi ≤ p.l.length], { sv := .val false [.int .i64 (min (p.hi - p.lo) (castL h2 l2).length : Nat)], urow := [(p.r, .hot p.e τ (p.l.take p.lo ++ ((castL h2 l2).take (min (p.hi - p.lo) (castL h2 l2).length) ++ p.l.drop (p.lo + min (p.hi - p.lo) (castL h2 l2).length))) (p.ver + 1) none p.z)] })
              else none
            | _, _ => none
          else none
        | none => none
      | _ => none
    | _ => none
  | .builtin .clear, [x] => match c.argTypes.toList with
    | [tx] => match look tx tab with
      | some ⟨.list τ, false, _, e, _⟩ => match look e tab with
        | some te => if te.ty = τ ∧ 0 < size τ then match dstOf τ x with
            | some p => some ([p.lo ≤ p.hi, p.hi ≤ p.l.length], { sv := .tup [], urow := [(p.r, .hot p.e τ (p.l.take p.lo ++ (List.replicate (p.hi - p.lo) (dfl τ) ++ p.l.drop p.hi)) (p.ver + 1) none p.z)] })
            | none => none
          else none
        | none => none
      | _ => none
    | _ => none
  | .builtin b, xs => builtinEff tab b o c.argTypes.toList xs
  | _, _ => none

def opEff (tab : Tab) (Γ : Gam) (o : Oper) (args : List In) : Option (List Prop × Eff) :=
  match o.op, args with
  | .move _, [x] => some ([], { sv := typed tab o.type x.sv })
  | .assign _, [x] => some ([], { sv := typed tab o.type x.sv })
  | .pick _ _ _, [c, a, b] => match c.sv with
    | .val false [.bool c'] => match c' with
      | true => some ([], { sv := a.sv })
      | false => some ([], { sv := b.sv })
    | _ => none
  | .alloc t, [] => match o.dst, look t tab with
    | some d, some ti => some ([], { sv := .box (d + 1) 0, nbox := some (zeroC ti.ty) })
    | _, _ => none
  | .box t _, [x] => match o.dst, cellsOfSv tab t x.sv with
    | some d, some cs => some ([], { sv := .box (d + 1) 0, nbox := some cs })
    | _, _ => none
  | .build t parts, xs => match look t tab with
    | some ti => if ti.agg then
        match (parts.toList.map (·.1)).zip xs |>.mapM fun p => (ti.fields[p.1]?).bind fun f => (cellsOfSv tab f.2 p.2.sv).bind fun cs => some (p.1, cs) with
        | some ps => match fillC (fun i => (ti.fields[i]?).bind fun f => (look f.2 tab).bind fun tf => some (f.1, size tf.ty)) (zeroC ti.ty) ps with
          | some cs => some ([], { sv := .val true cs })
          | none => none
        | none => none
      else none
    | none => none
  | .buildSlice t n parts, xs => match o.dst, look t tab with
    | some d, some ⟨.list τ, false, _, e, _⟩ => match look e tab with
      | some te => if te.ty = τ ∧ 0 < size τ ∧ n * size τ ≤ 16777216 then
          match (parts.toList.map (·.1)).zip xs |>.mapM fun p => (cellsOfSv tab e p.2.sv).bind fun cs => some (p.1, cs) with
          | some ps => match fillC (fun i => some (i * size τ, size τ)) (zerosC τ n) ps with
            | some cs => match ownC (xs.flatMap (·.rows)) cs with
              | some (vs, ks) => match nodupB ks, unflatN τ n vs with
                | true, some (l, []) => some ([], { sv := .val false [.own τ (keyRow d 0)], nrow := [(keyRow d 0, .hot e τ l 0 none true)], krow := ks })
                | _, _ => none
              | none => match unflatN τ n cs with
                | some (l, []) => some ([], { sv := .val false [.lst τ l (some (keyRow d 0))], nrow := [(keyRow d 0, .cold e)] })
                | _ => none
            | none => none
          | none => none
        else none
      | none => none
    | _, _ => none
  | .makeSlice t _ _, [x, y] => match o.dst, look t tab, intOf? x, intOf? y with
    | some d, some ⟨.list τ, false, _, e, _⟩, some n, some m => match look e tab with
      | some te => if te.ty = τ ∧ 0 < size τ then
          some ([0 ≤ n, n ≤ m, m ≤ 9223372036854775807, (te.bytes : Int) * m ≤ 140737488355328], { sv := .val false [.own τ (keyRow d 0)], nrow := [(keyRow d 0, .hot e τ (List.replicate n.toNat (dfl τ)) 0 none true)] })
        else none
      | none => none
    | _, _, _, _ => none
  | .makeFunc (.func f) _ _, [] => some ([], { sv := .fn f [] [] })
  | .makeFunc (.func f) first caught, xs =>
    let cap (x : In) : Option Cap := match x.sv with
      | .box k off => some (.box k off)
      | .ptr cs => some (.ptr cs)
      | _ => none
    match (xs.take first.size).mapM cap, (xs.drop first.size).mapM cap with
    | some a, some b => some ([], { sv := .fn f a b })
    | _, _ => none
  | .load t _, [x] => match look t tab with
    | some ti => match x.sv with
      | .box _ off => match x.box with
        | some cs => if off + size ti.ty ≤ cs.length ∧ (ti.agg = true ∨ size ti.ty = 1) then some ([], { sv := .val ti.agg ((cs.drop off).take (size ti.ty)) }) else none
        | none => none
      | .ptr cs => if size ti.ty ≤ cs.length ∧ (ti.agg = true ∨ size ti.ty = 1) then some ([], { sv := .val ti.agg (cs.take (size ti.ty)) }) else none
      | .bptr cs r ver => match look r x.rows with
        | some (.hot _ _ _ ver' _ _) => if ver' = ver ∧ size ti.ty ≤ cs.length ∧ (ti.agg = true ∨ size ti.ty = 1) then some ([], { sv := .val ti.agg (cs.take (size ti.ty)) }) else none
        | _ => none
      | .hp τ r i off => match look r x.rows with
        | some (.hot _ τ' l ver none _) => if h : τ' = τ then if off + size ti.ty ≤ size τ ∧ (ti.agg = true ∨ size ti.ty = 1) then
            some ([], { sv := .val ti.agg (((flatB r ver (fun j => some (i, j)) 0 (flat τ ((castL h l).getD i (dfl τ)))).drop off).take (size ti.ty)) })
          else none else none
        | _ => none
      | _ => none
    | none => none
  | .store t _ _, [x, y] => match look t tab, cellsOfSv tab t y.sv, o.dst with
    | some ti, some ds, none => match x.sv, x.box with
      | .box k off, some cs =>
        if ds.length = size ti.ty ∧ off + ds.length ≤ cs.length then some ([], { sv := .und, sbox := some (k, cs.take off ++ (ds ++ cs.drop (off + ds.length))) }) else none
      | .hp τ r i off, _ => storeHp tab ti τ r i off x ds (x.rows ++ y.rows)
      | _, _ => none
    | _, _, _ => none
  | .nilCheck _, [x] => match x.sv with
    | .box k off => some ([], { sv := .box k off })
    | .ptr cs => some ([], { sv := .ptr cs })
    | .hp t r i off => match look r x.rows with
      | some (.hot ..) => some ([], { sv := .hp t r i off })
      | _ => none
    | .bptr cs r ver => match look r x.rows with
      | some (.hot _ _ _ ver' _ _) => if ver' = ver then some ([], { sv := .bptr cs r ver }) else none
      | _ => none
    | _ => none
  | .binOp op t _ _ _, [x, y] => match x.sv, y.sv with
    | .val false [a], .val false [b] => match (match a with
        | .bool _ => (match look t tab with
          | some ⟨.bool, false, _, _, _⟩ => true
          | _ => false)
        | _ => true), binV op a b with
      | true, some (ps, c) => some (ps, { sv := .val false [c] })
      | _, _ => none
    | _, _ => none
  | .unOp op _ _, [x] => match x.sv with
    | .val false [a] => match unV op a with
      | some c => some ([], { sv := .val false [c] })
      | none => none
    | _ => none
  | .convert s t _, [x] => match look t tab, x.sv with
    | some ⟨.int k, false, _, _, _⟩, .val false [.int _ n] => if (look s tab).isSome then some ([], { sv := .val false [.int k (k.wrap n)] }) else none
    | some ⟨.str, false, _, _, _⟩, _ => match look s tab with
      | some ⟨.list (.int .u8), false, _, e, _⟩ => match look e tab, listOf? x with
        | some ⟨.int .u8, false, _, _, _⟩, some ⟨τ, l⟩ => if h : τ = .int .u8 then some ([], { sv := .val false [.str ((show List Int from castL h l).map fun n => UInt8.ofNat n.toNat)] }) else none
        | _, _ => none
      | _ => none
    | _, _ => none
  | .slice t _ lo hi none, x :: ys => sliceEff tab Γ o t lo hi x ys
  | .slice t _ none (some _) (some _), [x, y, z] => match look t tab, listOf? x, y.sv, z.sv with
    | some ⟨.list τ, false, _, e, _⟩, some ⟨τ', l⟩, .val false [.int k 0], .val false [.int k' 0] => match look e tab with
      | some te => some ([], { sv := .val false [.emp τ] })
      | none => none
    | _, _, _, _ => none
  | .fieldAddr t _ f, [x] => match look t tab with
    | some ti => if ti.agg then match ti.fields[f]? with
      | some (off, tf) => match look tf tab with
        | some ⟨τf, _, _, _, _⟩ => if 0 < size τf then match x.sv with
          | .box k o => some ([], { sv := .box k (o + off) })
          | .ptr cs => if off ≤ cs.length then some ([], { sv := .ptr (cs.drop off) }) else none
          | .hp t r i o => match look r x.rows with
            | some (.hot ..) => some ([], { sv := .hp t r i (o + off) })
            | _ => none
          | .bptr cs r ver => match look r x.rows with
            | some (.hot _ _ _ ver' _ _) => if ver' = ver ∧ off ≤ cs.length then some ([], { sv := .bptr (cs.drop off) r ver }) else none
            | _ => none
          | _ => none
          else none
        | none => none
      | none => none
      else none
    | none => none
  | .field t _ f, [x] => match look t tab with
    | some ti => if ti.agg then match ti.fields[f]? with
      | some (off, tf) => match look tf tab with
        | some tif => match x.sv with
          | .val true cs => if off + size tif.ty ≤ cs.length ∧ (tif.agg = true ∨ size tif.ty = 1) then some ([], { sv := .val tif.agg ((cs.drop off).take (size tif.ty)) }) else none
          | _ => none
        | none => none
      | none => none
      else none
    | none => none
  | .indexAddr t _ _, [x, y] => match look t tab, x.sv, intOf? y with
    | some ⟨.list _, false, _, e, _⟩, .val false [c], some i => match look e tab with
      | some te => match c with
        | .lst τ l _ => if size te.ty = size τ then some ([0 ≤ i, i < l.length], { sv := .ptr (flat τ (l.getD i.toNat (dfl τ))) }) else none
        | .own τ r => match look r x.rows with
          | some (.hot _ τ' l ver hole _) => if h : τ' = τ then if size te.ty = size τ then some ([0 ≤ i, i < (castL h l).length], { sv := .hp τ r i.toNat 0 }) else none else none
          | _ => none
        | .sub τ r lo hi => match look r x.rows with
          | some (.hot _ τ' l ver none _) => if h : τ' = τ then if size te.ty = size τ then some ([0 ≤ i, i < (((castL h l).take hi).drop lo).length], { sv := .hp τ r (lo + i.toNat) 0 }) else none else none
          | _ => none
        | .bor τ l r ver _ => match look r x.rows with
          | some (.hot _ _ _ ver' _ _) => if ver' = ver then if size te.ty = size τ then some ([0 ≤ i, i < l.length], { sv := .bptr (flatB r ver (fun _ => none) 0 (flat τ (l.getD i.toNat (dfl τ)))) r ver }) else none else none
          | _ => none
        | .emp τ => some ([False], { sv := .und })
        | _ => none
      | none => none
    | _, _, _ => none
  | .index t _ _, [x, y] => match look t tab, x.sv, y.sv with
    | some ⟨.str, false, _, _, _⟩, .val false [.str s], .val false [.int _ i] => some ([0 ≤ i, i < s.length], { sv := .val false [.int .u8 (s.getD i.toNat 0).toNat] })
    | _, _, _ => none
  | .extract _ i, [x] => match x.sv with
    | .tup l => match l[i]? with
      | some (ag, cs) => some ([], { sv := .val ag cs })
      | none => none
    | _ => none
  | .call c, xs => callOp tab Γ o c xs
  | _, _ => none

/-! ### Rows that must be laid down first -/

def hotKeys (rows : List (Nat × RowV)) : List Nat → List Nat
  | [] => []
  | k :: l => match look k rows with
    | some (.hot _ _ _ _ none _) => if notMem k (hotKeys rows l) then k :: hotKeys rows l else hotKeys rows l
    | _ => hotKeys rows l

def frzRows (rows : List (Nat × RowV)) : List Nat → List (Nat × RowV)
  | [] => []
  | k :: l => match look k rows with
    | some (.hot e t x ver none z) => (k, .frz e t x ver z) :: frzRows rows l
    | _ => frzRows rows l

def skipIdx (skip : List (Nat × TypeId)) (i : Nat) : List CellV → List CellV
  | cs => restC skip i cs

def needFrz (tab : Tab) (Γ : Gam) (o : Oper) (ins : List In) : List Nat :=
  let rows := ins.flatMap (·.rows)
  match callInfo Γ o ins with
  | some (con, ts, xs) => match con.leans with
    | true => match con.io with
      | true => match xs, ts with
        | x0 :: xs', _ :: ts' => match x0.box, argCells tab con.shA ts' xs' with
          | some bc, some p => hotKeys rows (borrowed (restC con.ownI 0 bc) ++ borrowed (restC (con.ownA ++ con.backA) 0 p.1))
          | _, _ => []
        | _, _ => []
      | false => match argCells tab con.shA ts xs with
        | some p => hotKeys rows (borrowed (restC (con.ownA ++ con.backA) 0 p.1))
        | none => []
    | false => match con.io with
      | true => match xs with
        | x0 :: _ => match x0.box with
          | some bc => hotKeys rows (borrowed (restC con.ownI 0 bc))
          | none => []
        | [] => []
      | false => []
  | none => match o.op, ins with
    | .call c, [x, y] => match c.callee, c.argTypes.toList with
      | .builtin .append, [t, _] => match look t tab, x.sv, y.sv with
        | some ⟨.list τ, _, _, _, _⟩, .val false [xc], .val false [yc] => match flatTy τ with
          | true => match xc with
            | .lst _ _ (some (r + 1)) => hotKeys rows (borrowed [yc])
            | _ => []
          | false => match xc, yc with
            | .own _ r, .lst _ _ (some 0) => []
            | .own _ r, .lst .. => hotKeys rows [r]
            | .own _ r, .sub _ r' _ _ => hotKeys rows [r, r']
            | .own _ r, .bor _ _ r' _ _ => hotKeys rows [r, r']
            | .lst _ _ (some (r + 1)), yc => hotKeys rows (borrowed [yc])
            | .lst _ _ (some 0), .sub _ r' _ _ => hotKeys rows [r']
            | .lst _ _ (some 0), .bor _ _ r' _ _ => hotKeys rows [r']
            | .emp _, _ => []
            | _, _ => []
        | _, _, _ => []
      | _, _ => []
    | .buildSlice t n parts, xs => match look t tab with
      | some ⟨.list τ, false, _, e, _⟩ => match (parts.toList.map (·.1)).zip xs |>.mapM fun p => (cellsOfSv tab e p.2.sv).bind fun cs => some (p.1, cs) with
        | some ps => match ownC rows (ps.flatMap (·.2)) with
          | some _ => []
          | none => hotKeys rows (borrowed (ps.flatMap (·.2)))
        | none => []
      | _ => []
    | _, _ => []

def frzSt (fz : List (Nat × RowV)) (st : St) : St := { st with rows := fz ++ st.rows }

def allP : List Prop → Prop → Prop
  | [], X => X
  | p :: r, X => p ∧ allP r X

def stepRows (upd : List (Nat × RowV)) (ks : List Nat) (rows : List (Nat × RowV)) : List (Nat × RowV) := (upd ++ rows).filter fun p => notMem p.1 ks

def Eff.rowsOf (e : Eff) (rows : List (Nat × RowV)) : List (Nat × RowV) := match e.nrow, e.urow, e.krow with
  | [], [], [] => rows
  | n, u, k => n ++ stepRows u k rows

def Eff.apply (e : Eff) (dst : Option Nat) (st : St) : St :=
  { st with
    slots := match dst with | some d => (d, e.sv) :: st.slots | none => st.slots
    boxes := match e.sbox with
      | some p => p :: (match dst, e.nbox with | some d, some cs => (d + 1, cs) :: st.boxes | _, _ => st.boxes)
      | none => match dst, e.nbox with | some d, some cs => (d + 1, cs) :: st.boxes | _, _ => st.boxes
    rows := e.rowsOf st.rows
    olds := match dst with | some d => st.olds.filter (fun j => !(j == d)) | none => st.olds }

def caseB (b : Bool) (X Y : Prop) : Prop := match b with
  | true => X
  | false => Y

theorem caseB_of {b : Bool} {X Y : Prop} (h1 : b = true → X) (h2 : b = false → Y) : caseB b X Y := by
  cases b
  · exact h2 rfl
  · exact h1 rfl

theorem caseB_to {b : Bool} {X Y : Prop} (h : caseB b X Y) : (b = true → X) ∧ (b = false → Y) := by
  cases b
  · exact ⟨fun e => absurd e (by decide), fun _ => h⟩
  · exact ⟨fun _ => h, fun e => absurd e (by decide)⟩

/-! Nobody bears the keys of what is made; nobody has borrowed from a row as it will be. -/
def noTagC (r : Nat) (cs : List CellV) : Bool := notMem r (keysC cs)
def noTagS (r : Nat) (sv : Sv) : Bool := notMem r (keysSv sv)
def noTagSlots (r : Nat) : List (Nat × Sv) → Bool
  | [] => true
  | p :: l => noTagS r p.2 && noTagSlots r l
def noTagBoxes (r : Nat) : List (Nat × List CellV) → Bool
  | [] => true
  | p :: l => noTagC r p.2 && noTagBoxes r l
def noTag (r : Nat) (st : St) : Bool := noTagSlots r st.slots && noTagBoxes r st.boxes && !(look r st.rows).isSome
def noBoxCap (k : Nat) (l : List Cap) : Bool := notMem k (boxesCap l)
def noBoxS (k : Nat) (sv : Sv) : Bool := notMem k (boxesSv sv)
def noBoxSlots (k : Nat) : List (Nat × Sv) → Bool
  | [] => true
  | p :: l => noBoxS k p.2 && noBoxSlots k l
def noBox (k : Nat) (st : St) : Bool := noBoxSlots k st.slots

def noTags (st : St) : List (Nat × RowV) → Bool
  | [] => true
  | p :: l => noTag p.1 st && noTags st l

def noVerC (r ver : Nat) : List CellV → Bool
  | [] => true
  | .bor _ _ r' ver' _ :: l => !(r' == r && ver' == ver) && noVerC r ver l
  | _ :: l => noVerC r ver l
def noVerL (r ver : Nat) : List (Bool × List CellV) → Bool
  | [] => true
  | p :: l => noVerC r ver p.2 && noVerL r ver l
def noVerCap (r ver : Nat) : List Cap → Bool
  | [] => true
  | .ptr cs :: l => noVerC r ver cs && noVerCap r ver l
  | _ :: l => noVerCap r ver l
def noVerS (r ver : Nat) : Sv → Bool
  | .val _ cs => noVerC r ver cs
  | .ptr cs => noVerC r ver cs
  | .tup l => noVerL r ver l
  | .fn _ a b => noVerCap r ver a && noVerCap r ver b
  | .bptr cs r' ver' => !(r' == r && ver' == ver) && noVerC r ver cs
  | _ => true
def noVerSlots (r ver : Nat) : List (Nat × Sv) → Bool
  | [] => true
  | p :: l => noVerS r ver p.2 && noVerSlots r ver l
def noVerBoxes (r ver : Nat) : List (Nat × List CellV) → Bool
  | [] => true
  | p :: l => noVerC r ver p.2 && noVerBoxes r ver l
def noVers (st : St) : List (Nat × RowV) → Bool
  | [] => true
  | (r, .hot _ _ _ ver _ _) :: l => noVerSlots r ver st.slots && noVerBoxes r ver st.boxes && noVers st l
  | _ :: l => noVers st l

/-- Nobody bears the keys of what is made. -/
def freshEff (e : Eff) (dst : Option Nat) (st : St) : Bool :=
  (match e.nbox, dst with | some _, some d => noBox (d + 1) st | _, _ => true) && noTags st e.nrow && noVers st e.urow && nodupB (e.nrow.map (·.1))

/-! ### A call, its result by a name -/

/-- What a call that is known writes back. -/
def vcCall (tab : Tab) (con : Con) (o : Oper) (ts : List TypeId) (xs : List In) (st : St) (K : Eff → Prop) : Prop :=
  match o.dst, callArgs tab con ts xs, con.newR && con.io with
  | some d, some x, false => con.pre x.i x.a ∧ ∀ y, con.Post x.i x.a y → match backRows x.rows x.cs con.backA (flat con.B y.2.2) with
    | some br => match freshEff (callRes con d x y br) (some d) st with
      | true => K (callRes con d x y br)
      | false => False
    | none => False
  | _, _, _ => False

def Eff.frz (fz : List (Nat × RowV)) (e : Eff) : Eff := { e with urow := e.urow ++ fz }

def insFz (fz : List (Nat × RowV)) (o : Oper) (st : St) (ins0 : List In) : List In := match fz with
  | [] => ins0
  | _ => o.op.operands.toList.map (inOf (frzSt fz st))

/-- One operation in its place. -/
def vcOpE (tab : Tab) (Γ : Gam) (o : Oper) (st : St) (K : Eff → Prop) : Prop :=
  match (match o.dst with | some d => decide (d < st.nt) | none => true) with
  | true =>
    let ins0 := o.op.operands.toList.map (inOf st)
    let fz := frzRows (ins0.flatMap (·.rows)) (needFrz tab Γ o ins0)
    let ins := insFz fz o st ins0
    match nodupB (fz.map (·.1)) with
    | true =>
      match callInfo Γ o ins with
      | some (con, ts, xs) => vcCall tab con o ts xs st fun e => K (e.frz fz)
      | none => match opEff tab Γ o ins with
        | some (ps, e) => match freshEff e o.dst st with
          | true => allP ps (K (e.frz fz))
          | false => False
        | none => False
    | false => False
  | false => False

def vcOp (tab : Tab) (Γ : Gam) (o : Oper) (st : St) (K : St → Prop) : Prop := vcOpE tab Γ o st fun e => K (e.apply o.dst st)

def guardDst (all : List Oper) (j : Nat) : Option Nat := match all[j]? with
  | some o => o.dst
  | none => none

/-- An operation that is passed over. -/
def skipSt (o : Oper) (st : St) : St := match o.dst with
  | some d => st.put d (.tup [])
  | none => st

def vcOps (tab : Tab) (Γ : Gam) (all : List Oper) : List Oper → St → (St → Prop) → Prop
  | [], st, K => K st
  | o :: rest, st, K => match o.guard with
    | none => vcOp tab Γ o st fun st' => vcOps tab Γ all rest st' K
    | some (j, want) => match guardDst all j with
      | some dj => match st.get dj with
        | .val false [.bool b] => caseB b
            (cond want (vcOp tab Γ o (st.lit dj true) fun st' => vcOps tab Γ all rest st' K) (vcOps tab Γ all rest (skipSt o (st.lit dj true)) K))
            (cond want (vcOps tab Γ all rest (skipSt o (st.lit dj false)) K) (vcOp tab Γ o (st.lit dj false) fun st' => vcOps tab Γ all rest st' K))
        | .tup [] => vcOps tab Γ all rest (skipSt o st) K
        | _ => False
      | none => False

end Go.Proofs.Ytcbehcpmojnnfaa.Bv
