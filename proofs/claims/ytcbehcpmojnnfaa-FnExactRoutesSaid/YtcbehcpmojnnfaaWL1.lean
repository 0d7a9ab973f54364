/- What is kept at a loop's head. -/
import Derived.Test.YtcbehcpmojnnfaaWR4
namespace Go.Proofs.Ytcbehcpmojnnfaa.Bv
set_option linter.unusedVariables false
set_option linter.unusedSimpArgs false

/-- A row that is kept: a slot's cell or a variable's; its new key; the elements' type; may it be written? -/
structure KRow where
  bx : Bool := false
  s : Nat
  i : Nat
  k : Nat
  e : TypeId
  hot : Bool

/-- What is kept at a loop's head: slots that are held as they are, slots, variables, rows. -/
structure Keep where
  hold : List Nat := []
  slots : List Nat
  boxes : List Nat := []
  rows : List KRow := []

def slotC (st : St) (s i : Nat) : Option CellV := match resSv st.rows (st.get s) with
  | .val _ cs => cs[i]?
  | _ => none
def boxCe (st : St) (b i : Nat) : Option CellV := match st.box b with
  | some cs => (resCs st.rows cs)[i]?
  | none => none
def placeC (st : St) (kr : KRow) : Option CellV := match kr.bx with
  | true => boxCe st kr.s kr.i
  | false => slotC st kr.s kr.i

inductive Old where
  | bad
  | nil (t : Ty)
  | hot (r : Nat) (t : Ty) (l : List (El t))
  | cold (r : Nat)
  | cnil

def oldHot (st : St) (e : TypeId) (t : Ty) (r : Nat) : Old := match look r st.rows with
  | some (.hot e' t' l _ none _) => if e' = e then if h : t' = t then .hot r t (castL h l) else .bad else .bad
  | _ => .bad

def oldOf (st : St) (kr : KRow) : Old := match kr.hot, placeC st kr with
  | true, some (.own t r) => oldHot st kr.e t r
  | true, some (.lst t [] (some 0)) => .nil t
  | true, some (.emp t) => .nil t
  | false, some (.lst _ _ (some 0)) => .cnil
  | false, some (.lst _ _ (some (r + 1))) => match coldOf (r + 1) st.rows with
    | some e => if e = kr.e then .cold (r + 1) else .bad
    | none => .bad
  | _, _ => .bad

def rho (st : St) : List KRow → List (Nat × Nat)
  | [] => []
  | kr :: l => match oldOf st kr with
    | .hot r _ _ => (r, kr.k) :: rho st l
    | _ => rho st l

def coldOlds (st : St) : List KRow → List Nat
  | [] => []
  | kr :: l => match oldOf st kr with
    | .cold r => r :: coldOlds st l
    | _ => coldOlds st l

def reRow (st : St) (kr : KRow) : Option RowV := match oldOf st kr with
  | .hot _ t l => some (.hot kr.e t l 0 none false)
  | .nil t => some (.hot kr.e t [] 0 none false)
  | .cold _ => some (.cold kr.e)
  | .cnil => some (.cold kr.e)
  | .bad => none

def reRows (st : St) : List KRow → List (Nat × RowV)
  | [] => []
  | kr :: l => match reRow st kr with
    | some rv => (kr.k, rv) :: reRows st l
    | none => reRows st l

def findK : List KRow → Bool → Nat → Nat → Option KRow
  | [], _, _, _ => none
  | kr :: l, b, s, i => if kr.bx = b ∧ kr.s = s ∧ kr.i = i then some kr else findK l b s i

def findKey : List KRow → Nat → Option KRow
  | [], _ => none
  | kr :: l, k => if kr.k = k then some kr else findKey l k

/-- A cell as it is called anew. -/
def reC1 (ρ : List (Nat × Nat)) : CellV → CellV
  | .lst t l _ => .lst t l none
  | .own t r => match look r ρ with
    | some k => .own t k
    | none => .und
  | .sub t r lo hi => match look r ρ with
    | some k => .sub t k lo hi
    | none => .und
  | .bor .. => .und
  | c => c

def reCk (kr : KRow) : CellV → CellV
  | .own t _ => cond kr.hot (.own t kr.k) .und
  | .emp t => cond kr.hot (.own t kr.k) .und
  | .lst t l _ => cond kr.hot (.own t kr.k) (.lst t l (some kr.k))
  | _ => .und

def reCs (kp : Keep) (ρ : List (Nat × Nat)) (bx : Bool) (s : Nat) : Nat → List CellV → List CellV
  | _, [] => []
  | i, c :: cs => (match findK kp.rows bx s i with
      | some kr => reCk kr c
      | none => reC1 ρ c) :: reCs kp ρ bx s (i + 1) cs

def unC : List CellV → List CellV
  | [] => []
  | .lst t l _ :: cs => .lst t l none :: unC cs
  | .int k n :: cs => .int k n :: unC cs
  | .bool b :: cs => .bool b :: unC cs
  | .str s :: cs => .str s :: unC cs
  | .emp t :: cs => .emp t :: unC cs
  | _ :: cs => .und :: unC cs

def reCaps (kp : Keep) (st : St) : List Cap → Option (List Cap)
  | [] => some []
  | .box k off :: l => match kp.boxes.contains k && (st.box k).isSome, reCaps kp st l with
    | true, some r => some (.box k off :: r)
    | _, _ => none
  | .ptr cs :: l => match reCaps kp st l with
    | some r => some (.ptr (unC cs) :: r)
    | none => none

def reS (kp : Keep) (ρ : List (Nat × Nat)) (st : St) (s : Nat) : Sv → Sv
  | .val ag cs => .val ag (reCs kp ρ false s 0 cs)
  | .box k off => match kp.boxes.contains k && (st.box k).isSome with
    | true => .box k off
    | false => .und
  | .ptr cs => .ptr (unC cs)
  | .fn f a b => match reCaps kp st a, reCaps kp st b with
    | some a', some b' => .fn f a' b'
    | _, _ => .und
  | .hp t r i off => match look r ρ with
    | some k => .hp t k i off
    | none => .und
  | .nil => .nil
  | _ => .und

def reSlots (kp : Keep) (ρ : List (Nat × Nat)) (st : St) : List Nat → List (Nat × Sv)
  | [] => []
  | s :: l => (s, reS kp ρ st s (resSv st.rows (st.get s))) :: reSlots kp ρ st l

def reBoxes (kp : Keep) (ρ : List (Nat × Nat)) (st : St) : List Nat → List (Nat × List CellV)
  | [] => []
  | b :: l => match st.box b with
    | some cs => (b, reCs kp ρ true b 0 (resCs st.rows cs)) :: reBoxes kp ρ st l
    | none => reBoxes kp ρ st l

/-- Called anew, with no more than what is kept. -/
def rename (kp : Keep) (st : St) : St := { nt := st.nt, slots := reSlots kp (rho st kp.rows) st (kp.hold ++ kp.slots), boxes := reBoxes kp (rho st kp.rows) st kp.boxes, rows := reRows st kp.rows }

def rowOk (tab : Tab) (st : St) (kr : KRow) : Bool := !(kr.k == 0) && match oldOf st kr with
  | .bad => false
  | .nil t => (kr.k % 2 == 1) && (match look kr.e tab with | some te => decide (te.ty = t) && decide (0 < size t) | none => false)
  | .hot r _ _ => kr.k % 2 == 1 || r == kr.k
  | .cold r => (kr.k % 2 == 1 || r == kr.k) && (look kr.e tab).isSome
  | .cnil => (kr.k % 2 == 1) && (look kr.e tab).isSome

def renameOk (tab : Tab) (kp : Keep) (st : St) : Bool := kp.rows.all (rowOk tab st) && nodupB (kp.rows.map (·.k)) && nodupB ((rho st kp.rows).map (·.1)) && nodupB (coldOlds st kp.rows)

/-! ### What must be laid down before -/

/-- The rows of cells that are not called anew. -/
def looseC (kp : Keep) (bx : Bool) (s : Nat) (ks : List Nat) : Nat → List CellV → List Nat
  | _, [] => []
  | i, c :: cs => (match findK kp.rows bx s i with
      | some kr => (match kr.hot, c with
        | false, .own _ r => [r]
        | _, _ => [])
      | none => (match c with
        | .own _ r => cond (notMem r ks) [r] []
        | .sub _ r _ _ => cond (notMem r ks) [r] []
        | .bor _ _ r _ _ => cond (notMem r ks) [r] []
        | _ => [])) ++ looseC kp bx s ks (i + 1) cs

def looseS (kp : Keep) (st : St) (ks : List Nat) : List Nat → List Nat
  | [] => []
  | s :: l => (match st.get s with
      | .val _ cs => looseC kp false s ks 0 cs
      | .bptr _ r _ => cond (notMem r ks) [r] []
      | _ => []) ++ looseS kp st ks l

def looseB (kp : Keep) (st : St) (ks : List Nat) : List Nat → List Nat
  | [] => []
  | b :: l => (match st.box b with
      | some cs => looseC kp true b ks 0 cs
      | none => []) ++ looseB kp st ks l

def loose (kp : Keep) (st : St) : List (Nat × RowV) :=
  let ks := (rho st kp.rows).map (·.1)
  frzRows st.rows (hotKeys st.rows (looseS kp st ks (kp.hold ++ kp.slots) ++ looseB kp st ks kp.boxes))

/-- What is kept of a state at a loop's head. -/
def ready (kp : Keep) (st : St) : St := match loose kp st with
  | [] => st
  | fz => frzSt fz st

def weaken (kp : Keep) (st : St) : St := rename kp (ready kp st)
def keepOk (tab : Tab) (kp : Keep) (st : St) : Bool := nodupB ((loose kp st).map (·.1)) && renameOk tab kp (ready kp st)

end Go.Proofs.Ytcbehcpmojnnfaa.Bv
