/- Calls and commands: shown and read. -/
import Derived.Test.YthjlommbnfooaaaCRBlk
import Derived.Test.YthjlommbnfooaaaCSer
namespace Go.Proofs.Ythjlommbnfooaaa.B
set_option linter.unusedVariables false
set_option linter.unusedSimpArgs false
open Go Go.Proofs.Ythjlommbnfooaaa.Bv

abbrev Op := Int × (List UInt8 × (Int × (Int × List UInt8)))
def opSpan (o : Op) : Bool := decide (o.2.2.1 ≥ 0) && (decide (o.2.2.1 < o.2.2.2.1) && decide (o.2.2.2.1 ≤ 1099511627776))
def fOpOk (o : Op) : Bool :=
  if o.1 = 1 then opSpan o && (decide (o.2.1 = []) && decide (o.2.2.2.2 = []))
  else if o.1 = 2 ∨ o.1 = 6 then fIn o.2.2.1 0 1099511627776 && (decide (o.2.1 = []) && (decide (o.2.2.2.1 = 0) && decide (o.2.2.2.2 = [])))
  else if o.1 = 3 then fIn o.2.2.1 0 100000 && (decide (o.2.1 = []) && (decide (o.2.2.2.1 = 0) && decide (o.2.2.2.2 = [])))
  else if o.1 = 4 then fKey o.2.1 && ((fReadBlock o.2.2.2.2).2 && (decide (o.2.2.1 = 0) && decide (o.2.2.2.1 = 0)))
  else if o.1 = 5 then fKey o.2.1 && (opSpan o && decide (o.2.2.2.2 = []))
  else if o.1 = 7 then decide (o.2.1 = []) && (decide (o.2.2.1 = 0) && (decide (o.2.2.2.1 = 0) && decide (o.2.2.2.2 = [])))
  else false
def fIsClient (n : Int) : Bool := fIn n 1 4
def fIsSerial (n : Int) : Bool := fIn n 1 1000000
def byte1 (k : Int) : List UInt8 := List.map (fun n => UInt8.ofNat (Int.toNat n)) [IntKind.wrap .u8 k]
def fShowOp (o : Op) : List UInt8 := if fOpOk o = true then (((byte1 o.1 ++ fVar o.2.1.length) ++ o.2.1) ++ fVar o.2.2.1) ++ fVar o.2.2.2.1 ++ o.2.2.2.2 else []
abbrev Cmd := Int × (Int × Op)
def fShowCmd (x : Cmd) : List UInt8 := if fIn x.1 1 4 = true ∧ fIn x.2.1 1 1000000 = true ∧ fOpOk x.2.2 = true then (fVar x.1 ++ fVar x.2.1) ++ fShowOp x.2.2 else []
def fBytes (i : Rd) (n : Int) : List UInt8 × Rd := if i.2 = true ∧ n ≤ i.1.length then (i.1.take n.toNat, (i.1.drop n.toNat, true)) else ([], (i.1, false))
def pBytes (i : Rd) (n : Int) : Prop := 0 ≤ n
def fPiece (i : Rd) : List UInt8 × Rd := fBytes (fNum i).2 (fNum i).1
def fKind (i : Rd) : Int × Rd := (((fBytes i 1).1.getD 0 0).toNat, (fBytes i 1).2)
def fOpR (i : Rd) : Op × Rd := ((((fKind i).1, ((fPiece (fKind i).2).1, ((fNum (fPiece (fKind i).2).2).1, ((fNum (fNum (fPiece (fKind i).2).2).2).1, (fNum (fNum (fPiece (fKind i).2).2).2).2.1))))), (fNum (fNum (fPiece (fKind i).2).2).2).2)
def zOp : Op := (0, ([], (0, (0, []))))
def fReadOp (s : List UInt8) : Op × Bool := if (fOpR (s, true)).2.2 = true ∧ fShowOp (fOpR (s, true)).1 = s then ((fOpR (s, true)).1, true) else (zOp, false)
def fReadCmd (s : List UInt8) : Cmd × Bool := if (fOpR (fNum (fNum (s, true)).2).2).2.2 = true ∧ fShowCmd ((fNum (s, true)).1, ((fNum (fNum (s, true)).2).1, (fOpR (fNum (fNum (s, true)).2).2).1)) = s then (((fNum (s, true)).1, ((fNum (fNum (s, true)).2).1, (fOpR (fNum (fNum (s, true)).2).2).1)), true) else ((0, (0, zOp)), false)
def v13Go (s : List UInt8) : Nat → Int → List Int → List Int × Int
  | 0, p, out => (out, p)
  | n + 1, p, out => if p > s.length then (out, -1) else if (fReadVar (s.drop p.toNat)).2 = 0 then (out, -1) else v13Go s n (p + (fReadVar (s.drop p.toNat)).2) (out ++ [(fReadVar (s.drop p.toNat)).1])
def fVars13 (s : List UInt8) (p n : Int) : List Int × Int := v13Go s n.toNat p []
def pOp (o : Op) : Prop := o.2.1.length ≤ maxLen
def pCmd (x : Cmd) : Prop := x.2.2.2.1.length ≤ maxLen
def pStr (s : List UInt8) : Prop := s.length ≤ maxLen
def p13 (s : List UInt8) (p n : Int) : Prop := s.length ≤ maxLen ∧ 0 ≤ p ∧ 0 ≤ n ∧ n ≤ 1000
def v13I (s : List UInt8) (p0 n p i : Int) (out : List Int) : Prop := 0 ≤ i ∧ i ≤ n ∧ 0 ≤ p ∧ (out.length : Int) = i ∧ v13Go s (n - i).toNat p out = fVars13 s p0 n
def v13M (s : List UInt8) (p0 n p i : Int) (out : List Int) : Nat := (n - i).toNat
def c_impl_spanOk : Con := { io := false, I := .unit, ownI := [], A := (.pair (.int .i64) (.pair .str (.pair (.int .i64) (.pair (.int .i64) .str)))), shA := [.agg 5], ownA := [], backA := [], B := .unit, R := .bool, shR := [(false, 1)], fresh := [], newR := false, pre := fun _ a => True, f := some fun _ a => ((opSpan a), ((), ())) }
def impl_spanOk.F  (a0 : (Int × ((List UInt8) × (Int × (Int × (List UInt8)))))) : Prop := (caseB (decide (a0.2.2.1 ≥ (0 : Int))) (caseB (decide (a0.2.2.1 < a0.2.2.2.1)) ((((decide (a0.2.2.2.1 ≤ (1099511627776 : Int))), ((), ())) : Bool × (Unit × Unit)) = ((opSpan a0), ((), ()))) (((false, ((), ())) : Bool × (Unit × Unit)) = ((opSpan a0), ((), ())))) (((false, ((), ())) : Bool × (Unit × Unit)) = ((opSpan a0), ((), ()))))
def impl_spanOk.L  (a0 : (Int × ((List UInt8) × (Int × (Int × (List UInt8)))))) : Nat → Option LoopAnn := fun p => Go.Proofs.Ythjlommbnfooaaa.Bv.look p []

theorem impl_spanOk.pure  (a0 : (Int × ((List UInt8) × (Int × (Int × (List UInt8)))))) (h : True) (hw : Wf c_impl_spanOk.A a0) : impl_spanOk.F a0 := by
  unfold impl_spanOk.F
  simp only [forall_eq, true_and, and_true, caseB_iff, Prod.mk.injEq, decide_eq_true_eq, decide_eq_false_iff_not, Bool.not_eq_true', Bool.not_eq_false', bne_iff_ne, ne_eq, beq_iff_eq, Bool.not_true, Bool.not_false, beq_eq_false_iff_ne, bne_eq_false_iff_eq, List.length_append, List.length_cons, List.length_nil, List.append_nil, Nat.zero_add, decide_true, decide_false, eq_self_iff_true]
  repeat' (with_reducible (first | (refine And.intro ?_ ?_) | intro _))
  all_goals (try simp (disch := omega) only [w64, wu8, tn0, tn1, tm1, tm2, List.length_append, List.length_cons, List.length_nil] at *)
  all_goals (try simp (disch := omega) only [w64, wu8, tn0, tn1, tm1, tm2, List.length_append, List.length_cons, List.length_nil] at *)
  all_goals (try omega)
  all_goals (try grind [opSpan])

set_option maxRecDepth 100000 in
theorem impl_spanOk.eq (i : El c_impl_spanOk.I) (x : El c_impl_spanOk.A) : vc tab (gam [] [] eqs) (impl_spanOk.L x) (match Try.f109.body with | some c => c | none => .skip) 1 (initSt c_impl_spanOk Try.f109.ntmps i x) (bodyK tab c_impl_spanOk Try.f109.results.toList [4] i x) = impl_spanOk.F x := by kernel_rfl
theorem impl_spanOk.ok : ConOk Try.prog 109 c_impl_spanOk :=
  conOk_of_eq (con := c_impl_spanOk) (tab := tab) (Γ := (gam [] [] eqs)) (fn := Try.f109) (c := (match Try.f109.body with | some c => c | none => .skip)) (fun i x => impl_spanOk.L x) (fun i x => impl_spanOk.F x) rfl tabOk (gam_nil _ [] eqsOk) Try.func109 rfl [4] (by kernel_rfl) impl_spanOk.eq fun i x h hi hw => impl_spanOk.pure x h hw

def c_impl_isClient : Con := { io := false, I := .unit, ownI := [], A := (.int .i64), shA := [.one], ownA := [], backA := [], B := .unit, R := .bool, shR := [(false, 1)], fresh := [], newR := false, pre := fun _ a => True, f := some fun _ a => ((fIsClient a), ((), ())) }
def impl_isClient.F  (a0 : Int) : Prop := (True ∧ ∀ (r1 : Bool × (Unit × Unit)), ((r1 : Bool × (Unit × Unit)) = ((fIn a0 1 4), ((), ()))) → (((r1.1, ((), ())) : Bool × (Unit × Unit)) = ((fIsClient a0), ((), ()))))
def impl_isClient.L  (a0 : Int) : Nat → Option LoopAnn := fun p => Go.Proofs.Ythjlommbnfooaaa.Bv.look p []

theorem impl_isClient.pure  (a0 : Int) (h : True) (hw : Wf c_impl_isClient.A a0) : impl_isClient.F a0 := by
  unfold impl_isClient.F
  simp only [forall_eq, true_and, and_true, caseB_iff, Prod.mk.injEq, decide_eq_true_eq, decide_eq_false_iff_not, Bool.not_eq_true', Bool.not_eq_false', bne_iff_ne, ne_eq, beq_iff_eq, Bool.not_true, Bool.not_false, beq_eq_false_iff_ne, bne_eq_false_iff_eq, List.length_append, List.length_cons, List.length_nil, List.append_nil, Nat.zero_add, decide_true, decide_false, eq_self_iff_true]
  repeat' (with_reducible (first | (refine And.intro ?_ ?_) | intro _))
  all_goals (try simp (disch := omega) only [w64, wu8, tn0, tn1, tm1, tm2, List.length_append, List.length_cons, List.length_nil] at *)
  all_goals (try simp (disch := omega) only [w64, wu8, tn0, tn1, tm1, tm2, List.length_append, List.length_cons, List.length_nil] at *)
  all_goals (try omega)
  all_goals (try grind [fIsClient])

set_option maxRecDepth 100000 in
theorem impl_isClient.eq (i : El c_impl_isClient.I) (x : El c_impl_isClient.A) : vc tab (gam [(68, c_impl_from)] [] eqs) (impl_isClient.L x) (match Try.f112.body with | some c => c | none => .skip) 1 (initSt c_impl_isClient Try.f112.ntmps i x) (bodyK tab c_impl_isClient Try.f112.results.toList [4] i x) = impl_isClient.F x := by kernel_rfl
theorem impl_isClient.ok : ConOk Try.prog 112 c_impl_isClient :=
  conOk_of_eq (con := c_impl_isClient) (tab := tab) (Γ := (gam [(68, c_impl_from)] [] eqs)) (fn := Try.f112) (c := (match Try.f112.body with | some c => c | none => .skip)) (fun i x => impl_isClient.L x) (fun i x => impl_isClient.F x) rfl tabOk (gam_cons ⟨_, Try.func68, rfl, rfl⟩ impl_from.ok (gam_nil _ [] eqsOk)) Try.func112 rfl [4] (by kernel_rfl) impl_isClient.eq fun i x h hi hw => impl_isClient.pure x h hw

def c_impl_isSerial : Con := { io := false, I := .unit, ownI := [], A := (.int .i64), shA := [.one], ownA := [], backA := [], B := .unit, R := .bool, shR := [(false, 1)], fresh := [], newR := false, pre := fun _ a => True, f := some fun _ a => ((fIsSerial a), ((), ())) }
def impl_isSerial.F  (a0 : Int) : Prop := (True ∧ ∀ (r1 : Bool × (Unit × Unit)), ((r1 : Bool × (Unit × Unit)) = ((fIn a0 1 1000000), ((), ()))) → (((r1.1, ((), ())) : Bool × (Unit × Unit)) = ((fIsSerial a0), ((), ()))))
def impl_isSerial.L  (a0 : Int) : Nat → Option LoopAnn := fun p => Go.Proofs.Ythjlommbnfooaaa.Bv.look p []

theorem impl_isSerial.pure  (a0 : Int) (h : True) (hw : Wf c_impl_isSerial.A a0) : impl_isSerial.F a0 := by
  unfold impl_isSerial.F
  simp only [forall_eq, true_and, and_true, caseB_iff, Prod.mk.injEq, decide_eq_true_eq, decide_eq_false_iff_not, Bool.not_eq_true', Bool.not_eq_false', bne_iff_ne, ne_eq, beq_iff_eq, Bool.not_true, Bool.not_false, beq_eq_false_iff_ne, bne_eq_false_iff_eq, List.length_append, List.length_cons, List.length_nil, List.append_nil, Nat.zero_add, decide_true, decide_false, eq_self_iff_true]
  repeat' (with_reducible (first | (refine And.intro ?_ ?_) | intro _))
  all_goals (try simp (disch := omega) only [w64, wu8, tn0, tn1, tm1, tm2, List.length_append, List.length_cons, List.length_nil] at *)
  all_goals (try simp (disch := omega) only [w64, wu8, tn0, tn1, tm1, tm2, List.length_append, List.length_cons, List.length_nil] at *)
  all_goals (try omega)
  all_goals (try grind [fIsSerial])

set_option maxRecDepth 100000 in
theorem impl_isSerial.eq (i : El c_impl_isSerial.I) (x : El c_impl_isSerial.A) : vc tab (gam [(68, c_impl_from)] [] eqs) (impl_isSerial.L x) (match Try.f113.body with | some c => c | none => .skip) 1 (initSt c_impl_isSerial Try.f113.ntmps i x) (bodyK tab c_impl_isSerial Try.f113.results.toList [4] i x) = impl_isSerial.F x := by kernel_rfl
theorem impl_isSerial.ok : ConOk Try.prog 113 c_impl_isSerial :=
  conOk_of_eq (con := c_impl_isSerial) (tab := tab) (Γ := (gam [(68, c_impl_from)] [] eqs)) (fn := Try.f113) (c := (match Try.f113.body with | some c => c | none => .skip)) (fun i x => impl_isSerial.L x) (fun i x => impl_isSerial.F x) rfl tabOk (gam_cons ⟨_, Try.func68, rfl, rfl⟩ impl_from.ok (gam_nil _ [] eqsOk)) Try.func113 rfl [4] (by kernel_rfl) impl_isSerial.eq fun i x h hi hw => impl_isSerial.pure x h hw

def c_spec_OpOk : Con := { io := false, I := .unit, ownI := [], A := (.pair (.int .i64) (.pair .str (.pair (.int .i64) (.pair (.int .i64) .str)))), shA := [.agg 5], ownA := [], backA := [], B := .unit, R := .bool, shR := [(false, 1)], fresh := [], newR := false, pre := fun _ a => (pOp a), f := some fun _ a => ((fOpOk a), ((), ())) }
def spec_OpOk.F  (a0 : (Int × ((List UInt8) × (Int × (Int × (List UInt8)))))) : Prop := (caseB (decide (a0.2.2.1 ≥ (0 : Int))) (caseB (decide (a0.2.2.1 < a0.2.2.2.1)) (caseB (a0.1 == (1 : Int)) (caseB (decide (a0.2.2.2.1 ≤ (1099511627776 : Int))) ((((a0.1 == a0.1 && (([] : List UInt8) == a0.2.1 && (a0.2.2.1 == a0.2.2.1 && (a0.2.2.2.1 == a0.2.2.2.1 && (([] : List UInt8) == a0.2.2.2.2 && true))))), ((), ())) : Bool × (Unit × Unit)) = ((fOpOk a0), ((), ()))) (((false, ((), ())) : Bool × (Unit × Unit)) = ((fOpOk a0), ((), ())))) (caseB (a0.1 == (2 : Int)) (caseB (a0.1 == (2 : Int)) (True ∧ ∀ (r1 : Bool × (Unit × Unit)), ((r1 : Bool × (Unit × Unit)) = ((fIn a0.2.2.1 0 1099511627776), ((), ()))) → (caseB r1.1 ((((a0.1 == a0.1 && (([] : List UInt8) == a0.2.1 && (a0.2.2.1 == a0.2.2.1 && ((0 : Int) == a0.2.2.2.1 && (([] : List UInt8) == a0.2.2.2.2 && true))))), ((), ())) : Bool × (Unit × Unit)) = ((fOpOk a0), ((), ()))) (((false, ((), ())) : Bool × (Unit × Unit)) = ((fOpOk a0), ((), ()))))) (caseB (a0.1 == (3 : Int)) (True ∧ ∀ (r2 : Bool × (Unit × Unit)), ((r2 : Bool × (Unit × Unit)) = ((fIn a0.2.2.1 0 100000), ((), ()))) → (caseB r2.1 ((((a0.1 == a0.1 && (([] : List UInt8) == a0.2.1 && (a0.2.2.1 == a0.2.2.1 && ((0 : Int) == a0.2.2.2.1 && (([] : List UInt8) == a0.2.2.2.2 && true))))), ((), ())) : Bool × (Unit × Unit)) = ((fOpOk a0), ((), ()))) (((false, ((), ())) : Bool × (Unit × Unit)) = ((fOpOk a0), ((), ()))))) (caseB (a0.1 == (4 : Int)) (True ∧ ∀ (r3 : ((List (Int × Int)) × Bool) × (Unit × Unit)), ((r3 : ((List (Int × Int)) × Bool) × (Unit × Unit)) = ((fReadBlock a0.2.2.2.2), ((), ()))) → ((pKey a0.2.1) ∧ ∀ (r4 : Bool × (Unit × Unit)), ((r4 : Bool × (Unit × Unit)) = ((fKey a0.2.1), ((), ()))) → (caseB r4.1 (caseB r3.1.2 ((((a0.1 == a0.1 && (a0.2.1 == a0.2.1 && ((0 : Int) == a0.2.2.1 && ((0 : Int) == a0.2.2.2.1 && (a0.2.2.2.2 == a0.2.2.2.2 && true))))), ((), ())) : Bool × (Unit × Unit)) = ((fOpOk a0), ((), ()))) (((false, ((), ())) : Bool × (Unit × Unit)) = ((fOpOk a0), ((), ())))) (((false, ((), ())) : Bool × (Unit × Unit)) = ((fOpOk a0), ((), ())))))) (caseB (a0.1 == (5 : Int)) ((pKey a0.2.1) ∧ ∀ (r5 : Bool × (Unit × Unit)), ((r5 : Bool × (Unit × Unit)) = ((fKey a0.2.1), ((), ()))) → (caseB r5.1 (caseB (decide (a0.2.2.2.1 ≤ (1099511627776 : Int))) ((((a0.1 == a0.1 && (a0.2.1 == a0.2.1 && (a0.2.2.1 == a0.2.2.1 && (a0.2.2.2.1 == a0.2.2.2.1 && (([] : List UInt8) == a0.2.2.2.2 && true))))), ((), ())) : Bool × (Unit × Unit)) = ((fOpOk a0), ((), ()))) (((false, ((), ())) : Bool × (Unit × Unit)) = ((fOpOk a0), ((), ())))) (((false, ((), ())) : Bool × (Unit × Unit)) = ((fOpOk a0), ((), ()))))) (caseB (a0.1 == (7 : Int)) ((((a0.1 == a0.1 && (([] : List UInt8) == a0.2.1 && ((0 : Int) == a0.2.2.1 && ((0 : Int) == a0.2.2.2.1 && (([] : List UInt8) == a0.2.2.2.2 && true))))), ((), ())) : Bool × (Unit × Unit)) = ((fOpOk a0), ((), ()))) (((false, ((), ())) : Bool × (Unit × Unit)) = ((fOpOk a0), ((), ())))))))) (caseB (a0.1 == (6 : Int)) (True ∧ ∀ (r6 : Bool × (Unit × Unit)), ((r6 : Bool × (Unit × Unit)) = ((fIn a0.2.2.1 0 1099511627776), ((), ()))) → (caseB r6.1 ((((a0.1 == a0.1 && (([] : List UInt8) == a0.2.1 && (a0.2.2.1 == a0.2.2.1 && ((0 : Int) == a0.2.2.2.1 && (([] : List UInt8) == a0.2.2.2.2 && true))))), ((), ())) : Bool × (Unit × Unit)) = ((fOpOk a0), ((), ()))) (((false, ((), ())) : Bool × (Unit × Unit)) = ((fOpOk a0), ((), ()))))) (caseB (a0.1 == (3 : Int)) (True ∧ ∀ (r7 : Bool × (Unit × Unit)), ((r7 : Bool × (Unit × Unit)) = ((fIn a0.2.2.1 0 100000), ((), ()))) → (caseB r7.1 ((((a0.1 == a0.1 && (([] : List UInt8) == a0.2.1 && (a0.2.2.1 == a0.2.2.1 && ((0 : Int) == a0.2.2.2.1 && (([] : List UInt8) == a0.2.2.2.2 && true))))), ((), ())) : Bool × (Unit × Unit)) = ((fOpOk a0), ((), ()))) (((false, ((), ())) : Bool × (Unit × Unit)) = ((fOpOk a0), ((), ()))))) (caseB (a0.1 == (4 : Int)) (True ∧ ∀ (r8 : ((List (Int × Int)) × Bool) × (Unit × Unit)), ((r8 : ((List (Int × Int)) × Bool) × (Unit × Unit)) = ((fReadBlock a0.2.2.2.2), ((), ()))) → ((pKey a0.2.1) ∧ ∀ (r9 : Bool × (Unit × Unit)), ((r9 : Bool × (Unit × Unit)) = ((fKey a0.2.1), ((), ()))) → (caseB r9.1 (caseB r8.1.2 ((((a0.1 == a0.1 && (a0.2.1 == a0.2.1 && ((0 : Int) == a0.2.2.1 && ((0 : Int) == a0.2.2.2.1 && (a0.2.2.2.2 == a0.2.2.2.2 && true))))), ((), ())) : Bool × (Unit × Unit)) = ((fOpOk a0), ((), ()))) (((false, ((), ())) : Bool × (Unit × Unit)) = ((fOpOk a0), ((), ())))) (((false, ((), ())) : Bool × (Unit × Unit)) = ((fOpOk a0), ((), ())))))) (caseB (a0.1 == (5 : Int)) ((pKey a0.2.1) ∧ ∀ (r10 : Bool × (Unit × Unit)), ((r10 : Bool × (Unit × Unit)) = ((fKey a0.2.1), ((), ()))) → (caseB r10.1 (caseB (decide (a0.2.2.2.1 ≤ (1099511627776 : Int))) ((((a0.1 == a0.1 && (a0.2.1 == a0.2.1 && (a0.2.2.1 == a0.2.2.1 && (a0.2.2.2.1 == a0.2.2.2.1 && (([] : List UInt8) == a0.2.2.2.2 && true))))), ((), ())) : Bool × (Unit × Unit)) = ((fOpOk a0), ((), ()))) (((false, ((), ())) : Bool × (Unit × Unit)) = ((fOpOk a0), ((), ())))) (((false, ((), ())) : Bool × (Unit × Unit)) = ((fOpOk a0), ((), ()))))) (caseB (a0.1 == (7 : Int)) ((((a0.1 == a0.1 && (([] : List UInt8) == a0.2.1 && ((0 : Int) == a0.2.2.1 && ((0 : Int) == a0.2.2.2.1 && (([] : List UInt8) == a0.2.2.2.2 && true))))), ((), ())) : Bool × (Unit × Unit)) = ((fOpOk a0), ((), ()))) (((false, ((), ())) : Bool × (Unit × Unit)) = ((fOpOk a0), ((), ())))))))))) (caseB (a0.1 == (1 : Int)) (((false, ((), ())) : Bool × (Unit × Unit)) = ((fOpOk a0), ((), ()))) (caseB (a0.1 == (2 : Int)) (caseB (a0.1 == (2 : Int)) (True ∧ ∀ (r11 : Bool × (Unit × Unit)), ((r11 : Bool × (Unit × Unit)) = ((fIn a0.2.2.1 0 1099511627776), ((), ()))) → (caseB r11.1 ((((a0.1 == a0.1 && (([] : List UInt8) == a0.2.1 && (a0.2.2.1 == a0.2.2.1 && ((0 : Int) == a0.2.2.2.1 && (([] : List UInt8) == a0.2.2.2.2 && true))))), ((), ())) : Bool × (Unit × Unit)) = ((fOpOk a0), ((), ()))) (((false, ((), ())) : Bool × (Unit × Unit)) = ((fOpOk a0), ((), ()))))) (caseB (a0.1 == (3 : Int)) (True ∧ ∀ (r12 : Bool × (Unit × Unit)), ((r12 : Bool × (Unit × Unit)) = ((fIn a0.2.2.1 0 100000), ((), ()))) → (caseB r12.1 ((((a0.1 == a0.1 && (([] : List UInt8) == a0.2.1 && (a0.2.2.1 == a0.2.2.1 && ((0 : Int) == a0.2.2.2.1 && (([] : List UInt8) == a0.2.2.2.2 && true))))), ((), ())) : Bool × (Unit × Unit)) = ((fOpOk a0), ((), ()))) (((false, ((), ())) : Bool × (Unit × Unit)) = ((fOpOk a0), ((), ()))))) (caseB (a0.1 == (4 : Int)) (True ∧ ∀ (r13 : ((List (Int × Int)) × Bool) × (Unit × Unit)), ((r13 : ((List (Int × Int)) × Bool) × (Unit × Unit)) = ((fReadBlock a0.2.2.2.2), ((), ()))) → ((pKey a0.2.1) ∧ ∀ (r14 : Bool × (Unit × Unit)), ((r14 : Bool × (Unit × Unit)) = ((fKey a0.2.1), ((), ()))) → (caseB r14.1 (caseB r13.1.2 ((((a0.1 == a0.1 && (a0.2.1 == a0.2.1 && ((0 : Int) == a0.2.2.1 && ((0 : Int) == a0.2.2.2.1 && (a0.2.2.2.2 == a0.2.2.2.2 && true))))), ((), ())) : Bool × (Unit × Unit)) = ((fOpOk a0), ((), ()))) (((false, ((), ())) : Bool × (Unit × Unit)) = ((fOpOk a0), ((), ())))) (((false, ((), ())) : Bool × (Unit × Unit)) = ((fOpOk a0), ((), ())))))) (caseB (a0.1 == (5 : Int)) ((pKey a0.2.1) ∧ ∀ (r15 : Bool × (Unit × Unit)), ((r15 : Bool × (Unit × Unit)) = ((fKey a0.2.1), ((), ()))) → (caseB r15.1 (((false, ((), ())) : Bool × (Unit × Unit)) = ((fOpOk a0), ((), ()))) (((false, ((), ())) : Bool × (Unit × Unit)) = ((fOpOk a0), ((), ()))))) (caseB (a0.1 == (7 : Int)) ((((a0.1 == a0.1 && (([] : List UInt8) == a0.2.1 && ((0 : Int) == a0.2.2.1 && ((0 : Int) == a0.2.2.2.1 && (([] : List UInt8) == a0.2.2.2.2 && true))))), ((), ())) : Bool × (Unit × Unit)) = ((fOpOk a0), ((), ()))) (((false, ((), ())) : Bool × (Unit × Unit)) = ((fOpOk a0), ((), ())))))))) (caseB (a0.1 == (6 : Int)) (True ∧ ∀ (r16 : Bool × (Unit × Unit)), ((r16 : Bool × (Unit × Unit)) = ((fIn a0.2.2.1 0 1099511627776), ((), ()))) → (caseB r16.1 ((((a0.1 == a0.1 && (([] : List UInt8) == a0.2.1 && (a0.2.2.1 == a0.2.2.1 && ((0 : Int) == a0.2.2.2.1 && (([] : List UInt8) == a0.2.2.2.2 && true))))), ((), ())) : Bool × (Unit × Unit)) = ((fOpOk a0), ((), ()))) (((false, ((), ())) : Bool × (Unit × Unit)) = ((fOpOk a0), ((), ()))))) (caseB (a0.1 == (3 : Int)) (True ∧ ∀ (r17 : Bool × (Unit × Unit)), ((r17 : Bool × (Unit × Unit)) = ((fIn a0.2.2.1 0 100000), ((), ()))) → (caseB r17.1 ((((a0.1 == a0.1 && (([] : List UInt8) == a0.2.1 && (a0.2.2.1 == a0.2.2.1 && ((0 : Int) == a0.2.2.2.1 && (([] : List UInt8) == a0.2.2.2.2 && true))))), ((), ())) : Bool × (Unit × Unit)) = ((fOpOk a0), ((), ()))) (((false, ((), ())) : Bool × (Unit × Unit)) = ((fOpOk a0), ((), ()))))) (caseB (a0.1 == (4 : Int)) (True ∧ ∀ (r18 : ((List (Int × Int)) × Bool) × (Unit × Unit)), ((r18 : ((List (Int × Int)) × Bool) × (Unit × Unit)) = ((fReadBlock a0.2.2.2.2), ((), ()))) → ((pKey a0.2.1) ∧ ∀ (r19 : Bool × (Unit × Unit)), ((r19 : Bool × (Unit × Unit)) = ((fKey a0.2.1), ((), ()))) → (caseB r19.1 (caseB r18.1.2 ((((a0.1 == a0.1 && (a0.2.1 == a0.2.1 && ((0 : Int) == a0.2.2.1 && ((0 : Int) == a0.2.2.2.1 && (a0.2.2.2.2 == a0.2.2.2.2 && true))))), ((), ())) : Bool × (Unit × Unit)) = ((fOpOk a0), ((), ()))) (((false, ((), ())) : Bool × (Unit × Unit)) = ((fOpOk a0), ((), ())))) (((false, ((), ())) : Bool × (Unit × Unit)) = ((fOpOk a0), ((), ())))))) (caseB (a0.1 == (5 : Int)) ((pKey a0.2.1) ∧ ∀ (r20 : Bool × (Unit × Unit)), ((r20 : Bool × (Unit × Unit)) = ((fKey a0.2.1), ((), ()))) → (caseB r20.1 (((false, ((), ())) : Bool × (Unit × Unit)) = ((fOpOk a0), ((), ()))) (((false, ((), ())) : Bool × (Unit × Unit)) = ((fOpOk a0), ((), ()))))) (caseB (a0.1 == (7 : Int)) ((((a0.1 == a0.1 && (([] : List UInt8) == a0.2.1 && ((0 : Int) == a0.2.2.1 && ((0 : Int) == a0.2.2.2.1 && (([] : List UInt8) == a0.2.2.2.2 && true))))), ((), ())) : Bool × (Unit × Unit)) = ((fOpOk a0), ((), ()))) (((false, ((), ())) : Bool × (Unit × Unit)) = ((fOpOk a0), ((), ()))))))))))) (caseB (a0.1 == (1 : Int)) (((false, ((), ())) : Bool × (Unit × Unit)) = ((fOpOk a0), ((), ()))) (caseB (a0.1 == (2 : Int)) (caseB (a0.1 == (2 : Int)) (True ∧ ∀ (r21 : Bool × (Unit × Unit)), ((r21 : Bool × (Unit × Unit)) = ((fIn a0.2.2.1 0 1099511627776), ((), ()))) → (caseB r21.1 ((((a0.1 == a0.1 && (([] : List UInt8) == a0.2.1 && (a0.2.2.1 == a0.2.2.1 && ((0 : Int) == a0.2.2.2.1 && (([] : List UInt8) == a0.2.2.2.2 && true))))), ((), ())) : Bool × (Unit × Unit)) = ((fOpOk a0), ((), ()))) (((false, ((), ())) : Bool × (Unit × Unit)) = ((fOpOk a0), ((), ()))))) (caseB (a0.1 == (3 : Int)) (True ∧ ∀ (r22 : Bool × (Unit × Unit)), ((r22 : Bool × (Unit × Unit)) = ((fIn a0.2.2.1 0 100000), ((), ()))) → (caseB r22.1 ((((a0.1 == a0.1 && (([] : List UInt8) == a0.2.1 && (a0.2.2.1 == a0.2.2.1 && ((0 : Int) == a0.2.2.2.1 && (([] : List UInt8) == a0.2.2.2.2 && true))))), ((), ())) : Bool × (Unit × Unit)) = ((fOpOk a0), ((), ()))) (((false, ((), ())) : Bool × (Unit × Unit)) = ((fOpOk a0), ((), ()))))) (caseB (a0.1 == (4 : Int)) (True ∧ ∀ (r23 : ((List (Int × Int)) × Bool) × (Unit × Unit)), ((r23 : ((List (Int × Int)) × Bool) × (Unit × Unit)) = ((fReadBlock a0.2.2.2.2), ((), ()))) → ((pKey a0.2.1) ∧ ∀ (r24 : Bool × (Unit × Unit)), ((r24 : Bool × (Unit × Unit)) = ((fKey a0.2.1), ((), ()))) → (caseB r24.1 (caseB r23.1.2 ((((a0.1 == a0.1 && (a0.2.1 == a0.2.1 && ((0 : Int) == a0.2.2.1 && ((0 : Int) == a0.2.2.2.1 && (a0.2.2.2.2 == a0.2.2.2.2 && true))))), ((), ())) : Bool × (Unit × Unit)) = ((fOpOk a0), ((), ()))) (((false, ((), ())) : Bool × (Unit × Unit)) = ((fOpOk a0), ((), ())))) (((false, ((), ())) : Bool × (Unit × Unit)) = ((fOpOk a0), ((), ())))))) (caseB (a0.1 == (5 : Int)) ((pKey a0.2.1) ∧ ∀ (r25 : Bool × (Unit × Unit)), ((r25 : Bool × (Unit × Unit)) = ((fKey a0.2.1), ((), ()))) → (caseB r25.1 (((false, ((), ())) : Bool × (Unit × Unit)) = ((fOpOk a0), ((), ()))) (((false, ((), ())) : Bool × (Unit × Unit)) = ((fOpOk a0), ((), ()))))) (caseB (a0.1 == (7 : Int)) ((((a0.1 == a0.1 && (([] : List UInt8) == a0.2.1 && ((0 : Int) == a0.2.2.1 && ((0 : Int) == a0.2.2.2.1 && (([] : List UInt8) == a0.2.2.2.2 && true))))), ((), ())) : Bool × (Unit × Unit)) = ((fOpOk a0), ((), ()))) (((false, ((), ())) : Bool × (Unit × Unit)) = ((fOpOk a0), ((), ())))))))) (caseB (a0.1 == (6 : Int)) (True ∧ ∀ (r26 : Bool × (Unit × Unit)), ((r26 : Bool × (Unit × Unit)) = ((fIn a0.2.2.1 0 1099511627776), ((), ()))) → (caseB r26.1 ((((a0.1 == a0.1 && (([] : List UInt8) == a0.2.1 && (a0.2.2.1 == a0.2.2.1 && ((0 : Int) == a0.2.2.2.1 && (([] : List UInt8) == a0.2.2.2.2 && true))))), ((), ())) : Bool × (Unit × Unit)) = ((fOpOk a0), ((), ()))) (((false, ((), ())) : Bool × (Unit × Unit)) = ((fOpOk a0), ((), ()))))) (caseB (a0.1 == (3 : Int)) (True ∧ ∀ (r27 : Bool × (Unit × Unit)), ((r27 : Bool × (Unit × Unit)) = ((fIn a0.2.2.1 0 100000), ((), ()))) → (caseB r27.1 ((((a0.1 == a0.1 && (([] : List UInt8) == a0.2.1 && (a0.2.2.1 == a0.2.2.1 && ((0 : Int) == a0.2.2.2.1 && (([] : List UInt8) == a0.2.2.2.2 && true))))), ((), ())) : Bool × (Unit × Unit)) = ((fOpOk a0), ((), ()))) (((false, ((), ())) : Bool × (Unit × Unit)) = ((fOpOk a0), ((), ()))))) (caseB (a0.1 == (4 : Int)) (True ∧ ∀ (r28 : ((List (Int × Int)) × Bool) × (Unit × Unit)), ((r28 : ((List (Int × Int)) × Bool) × (Unit × Unit)) = ((fReadBlock a0.2.2.2.2), ((), ()))) → ((pKey a0.2.1) ∧ ∀ (r29 : Bool × (Unit × Unit)), ((r29 : Bool × (Unit × Unit)) = ((fKey a0.2.1), ((), ()))) → (caseB r29.1 (caseB r28.1.2 ((((a0.1 == a0.1 && (a0.2.1 == a0.2.1 && ((0 : Int) == a0.2.2.1 && ((0 : Int) == a0.2.2.2.1 && (a0.2.2.2.2 == a0.2.2.2.2 && true))))), ((), ())) : Bool × (Unit × Unit)) = ((fOpOk a0), ((), ()))) (((false, ((), ())) : Bool × (Unit × Unit)) = ((fOpOk a0), ((), ())))) (((false, ((), ())) : Bool × (Unit × Unit)) = ((fOpOk a0), ((), ())))))) (caseB (a0.1 == (5 : Int)) ((pKey a0.2.1) ∧ ∀ (r30 : Bool × (Unit × Unit)), ((r30 : Bool × (Unit × Unit)) = ((fKey a0.2.1), ((), ()))) → (caseB r30.1 (((false, ((), ())) : Bool × (Unit × Unit)) = ((fOpOk a0), ((), ()))) (((false, ((), ())) : Bool × (Unit × Unit)) = ((fOpOk a0), ((), ()))))) (caseB (a0.1 == (7 : Int)) ((((a0.1 == a0.1 && (([] : List UInt8) == a0.2.1 && ((0 : Int) == a0.2.2.1 && ((0 : Int) == a0.2.2.2.1 && (([] : List UInt8) == a0.2.2.2.2 && true))))), ((), ())) : Bool × (Unit × Unit)) = ((fOpOk a0), ((), ()))) (((false, ((), ())) : Bool × (Unit × Unit)) = ((fOpOk a0), ((), ())))))))))))
def spec_OpOk.L  (a0 : (Int × ((List UInt8) × (Int × (Int × (List UInt8)))))) : Nat → Option LoopAnn := fun p => Go.Proofs.Ythjlommbnfooaaa.Bv.look p []

theorem spec_OpOk.pure  (a0 : (Int × ((List UInt8) × (Int × (Int × (List UInt8)))))) (h : (pOp a0)) (hw : Wf c_spec_OpOk.A a0) : spec_OpOk.F a0 := by
  unfold spec_OpOk.F
  simp only [forall_eq, true_and, and_true, caseB_iff, Prod.mk.injEq, decide_eq_true_eq, decide_eq_false_iff_not, Bool.not_eq_true', Bool.not_eq_false', bne_iff_ne, ne_eq, beq_iff_eq, Bool.not_true, Bool.not_false, beq_eq_false_iff_ne, bne_eq_false_iff_eq, List.length_append, List.length_cons, List.length_nil, List.append_nil, Nat.zero_add, decide_true, decide_false, eq_self_iff_true, pKey, Prod.eta]
  have hkl : a0.2.1.length ≤ maxLen := h
  obtain ⟨k, key, f, t, d⟩ := a0
  simp only [fOpOk, opSpan, BEq.rfl, Bool.true_and, Bool.and_true]
  repeat' (with_reducible (first | (refine And.intro ?_ ?_) | intro _))
  all_goals (try simp (disch := omega) only [w64, wu8, tn0, tn1, tm1, tm2, List.length_append, List.length_cons, List.length_nil] at *)
  all_goals (try simp (disch := omega) only [w64, wu8, tn0, tn1, tm1, tm2, List.length_append, List.length_cons, List.length_nil] at *)
  all_goals (try omega)
  all_goals (try grind [])

set_option maxRecDepth 100000 in
theorem spec_OpOk.eq (i : El c_spec_OpOk.I) (x : El c_spec_OpOk.A) : vc tab (gam [(30, c_spec_ReadBlock), (61, c_spec_l1In), (108, c_spec_l9Key)] [] eqs) (spec_OpOk.L x) (match Try.f36.body with | some c => c | none => .skip) 1 (initSt c_spec_OpOk Try.f36.ntmps i x) (bodyK tab c_spec_OpOk Try.f36.results.toList [4] i x) = spec_OpOk.F x := by kernel_rfl
theorem spec_OpOk.ok : ConOk Try.prog 36 c_spec_OpOk :=
  conOk_of_eq (con := c_spec_OpOk) (tab := tab) (Γ := (gam [(30, c_spec_ReadBlock), (61, c_spec_l1In), (108, c_spec_l9Key)] [] eqs)) (fn := Try.f36) (c := (match Try.f36.body with | some c => c | none => .skip)) (fun i x => spec_OpOk.L x) (fun i x => spec_OpOk.F x) rfl tabOk (gam_cons ⟨_, Try.func30, rfl, rfl⟩ spec_ReadBlock.ok (gam_cons ⟨_, Try.func61, rfl, rfl⟩ spec_l1In.ok (gam_cons ⟨_, Try.func108, rfl, rfl⟩ spec_l9Key.ok (gam_nil _ [] eqsOk)))) Try.func36 rfl [4] (by kernel_rfl) spec_OpOk.eq fun i x h hi hw => spec_OpOk.pure x h hw

def c_impl_OpOk : Con := { io := false, I := .unit, ownI := [], A := (.pair (.int .i64) (.pair .str (.pair (.int .i64) (.pair (.int .i64) .str)))), shA := [.agg 5], ownA := [], backA := [], B := .unit, R := .bool, shR := [(false, 1)], fresh := [], newR := false, pre := fun _ a => (pOp a), f := some fun _ a => ((fOpOk a), ((), ())) }
def impl_OpOk.F  (a0 : (Int × ((List UInt8) × (Int × (Int × (List UInt8)))))) : Prop := (caseB (a0.1 == (1 : Int)) (True ∧ ∀ (r1 : Bool × (Unit × Unit)), ((r1 : Bool × (Unit × Unit)) = ((opSpan (a0.1, (a0.2.1, (a0.2.2.1, (a0.2.2.2.1, a0.2.2.2.2))))), ((), ()))) → (caseB r1.1 (((((0 : Int) == (0 : Int) && (a0.2.1 == ([] : List UInt8) && ((0 : Int) == (0 : Int) && ((0 : Int) == (0 : Int) && (a0.2.2.2.2 == ([] : List UInt8) && true))))), ((), ())) : Bool × (Unit × Unit)) = ((fOpOk a0), ((), ()))) (((false, ((), ())) : Bool × (Unit × Unit)) = ((fOpOk a0), ((), ()))))) (caseB (a0.1 == (2 : Int)) (caseB (a0.1 == (2 : Int)) (True ∧ ∀ (r2 : Bool × (Unit × Unit)), ((r2 : Bool × (Unit × Unit)) = ((fTime a0.2.2.1), ((), ()))) → (caseB r2.1 (((((0 : Int) == (0 : Int) && (a0.2.1 == ([] : List UInt8) && ((0 : Int) == (0 : Int) && (a0.2.2.2.1 == (0 : Int) && (a0.2.2.2.2 == ([] : List UInt8) && true))))), ((), ())) : Bool × (Unit × Unit)) = ((fOpOk a0), ((), ()))) (((false, ((), ())) : Bool × (Unit × Unit)) = ((fOpOk a0), ((), ()))))) (caseB (a0.1 == (3 : Int)) (True ∧ ∀ (r3 : Bool × (Unit × Unit)), ((r3 : Bool × (Unit × Unit)) = ((fIn a0.2.2.1 0 100000), ((), ()))) → (caseB r3.1 (((((0 : Int) == (0 : Int) && (a0.2.1 == ([] : List UInt8) && ((0 : Int) == (0 : Int) && (a0.2.2.2.1 == (0 : Int) && (a0.2.2.2.2 == ([] : List UInt8) && true))))), ((), ())) : Bool × (Unit × Unit)) = ((fOpOk a0), ((), ()))) (((false, ((), ())) : Bool × (Unit × Unit)) = ((fOpOk a0), ((), ()))))) (caseB (a0.1 == (4 : Int)) (True ∧ ∀ (r4 : ((List (Int × Int)) × Bool) × (Unit × Unit)), ((r4 : ((List (Int × Int)) × Bool) × (Unit × Unit)) = ((fReadBlock a0.2.2.2.2), ((), ()))) → (caseB r4.1.2 ((pKey a0.2.1) ∧ ∀ (r5 : Bool × (Unit × Unit)), ((r5 : Bool × (Unit × Unit)) = ((fKey a0.2.1), ((), ()))) → (caseB r5.1 (((((0 : Int) == (0 : Int) && (([] : List UInt8) == ([] : List UInt8) && (a0.2.2.1 == (0 : Int) && (a0.2.2.2.1 == (0 : Int) && (([] : List UInt8) == ([] : List UInt8) && true))))), ((), ())) : Bool × (Unit × Unit)) = ((fOpOk a0), ((), ()))) (((false, ((), ())) : Bool × (Unit × Unit)) = ((fOpOk a0), ((), ()))))) (((false, ((), ())) : Bool × (Unit × Unit)) = ((fOpOk a0), ((), ()))))) (caseB (a0.1 == (5 : Int)) ((pKey a0.2.1) ∧ ∀ (r6 : Bool × (Unit × Unit)), ((r6 : Bool × (Unit × Unit)) = ((fKey a0.2.1), ((), ()))) → (caseB r6.1 (True ∧ ∀ (r7 : Bool × (Unit × Unit)), ((r7 : Bool × (Unit × Unit)) = ((opSpan (a0.1, (a0.2.1, (a0.2.2.1, (a0.2.2.2.1, a0.2.2.2.2))))), ((), ()))) → (caseB r7.1 (((((0 : Int) == (0 : Int) && (([] : List UInt8) == ([] : List UInt8) && ((0 : Int) == (0 : Int) && ((0 : Int) == (0 : Int) && (a0.2.2.2.2 == ([] : List UInt8) && true))))), ((), ())) : Bool × (Unit × Unit)) = ((fOpOk a0), ((), ()))) (((false, ((), ())) : Bool × (Unit × Unit)) = ((fOpOk a0), ((), ()))))) (((false, ((), ())) : Bool × (Unit × Unit)) = ((fOpOk a0), ((), ()))))) (caseB (a0.1 == (7 : Int)) (((((0 : Int) == (0 : Int) && (a0.2.1 == ([] : List UInt8) && (a0.2.2.1 == (0 : Int) && (a0.2.2.2.1 == (0 : Int) && (a0.2.2.2.2 == ([] : List UInt8) && true))))), ((), ())) : Bool × (Unit × Unit)) = ((fOpOk a0), ((), ()))) (((false, ((), ())) : Bool × (Unit × Unit)) = ((fOpOk a0), ((), ())))))))) (caseB (a0.1 == (6 : Int)) (True ∧ ∀ (r8 : Bool × (Unit × Unit)), ((r8 : Bool × (Unit × Unit)) = ((fTime a0.2.2.1), ((), ()))) → (caseB r8.1 (((((0 : Int) == (0 : Int) && (a0.2.1 == ([] : List UInt8) && ((0 : Int) == (0 : Int) && (a0.2.2.2.1 == (0 : Int) && (a0.2.2.2.2 == ([] : List UInt8) && true))))), ((), ())) : Bool × (Unit × Unit)) = ((fOpOk a0), ((), ()))) (((false, ((), ())) : Bool × (Unit × Unit)) = ((fOpOk a0), ((), ()))))) (caseB (a0.1 == (3 : Int)) (True ∧ ∀ (r9 : Bool × (Unit × Unit)), ((r9 : Bool × (Unit × Unit)) = ((fIn a0.2.2.1 0 100000), ((), ()))) → (caseB r9.1 (((((0 : Int) == (0 : Int) && (a0.2.1 == ([] : List UInt8) && ((0 : Int) == (0 : Int) && (a0.2.2.2.1 == (0 : Int) && (a0.2.2.2.2 == ([] : List UInt8) && true))))), ((), ())) : Bool × (Unit × Unit)) = ((fOpOk a0), ((), ()))) (((false, ((), ())) : Bool × (Unit × Unit)) = ((fOpOk a0), ((), ()))))) (caseB (a0.1 == (4 : Int)) (True ∧ ∀ (r10 : ((List (Int × Int)) × Bool) × (Unit × Unit)), ((r10 : ((List (Int × Int)) × Bool) × (Unit × Unit)) = ((fReadBlock a0.2.2.2.2), ((), ()))) → (caseB r10.1.2 ((pKey a0.2.1) ∧ ∀ (r11 : Bool × (Unit × Unit)), ((r11 : Bool × (Unit × Unit)) = ((fKey a0.2.1), ((), ()))) → (caseB r11.1 (((((0 : Int) == (0 : Int) && (([] : List UInt8) == ([] : List UInt8) && (a0.2.2.1 == (0 : Int) && (a0.2.2.2.1 == (0 : Int) && (([] : List UInt8) == ([] : List UInt8) && true))))), ((), ())) : Bool × (Unit × Unit)) = ((fOpOk a0), ((), ()))) (((false, ((), ())) : Bool × (Unit × Unit)) = ((fOpOk a0), ((), ()))))) (((false, ((), ())) : Bool × (Unit × Unit)) = ((fOpOk a0), ((), ()))))) (caseB (a0.1 == (5 : Int)) ((pKey a0.2.1) ∧ ∀ (r12 : Bool × (Unit × Unit)), ((r12 : Bool × (Unit × Unit)) = ((fKey a0.2.1), ((), ()))) → (caseB r12.1 (True ∧ ∀ (r13 : Bool × (Unit × Unit)), ((r13 : Bool × (Unit × Unit)) = ((opSpan (a0.1, (a0.2.1, (a0.2.2.1, (a0.2.2.2.1, a0.2.2.2.2))))), ((), ()))) → (caseB r13.1 (((((0 : Int) == (0 : Int) && (([] : List UInt8) == ([] : List UInt8) && ((0 : Int) == (0 : Int) && ((0 : Int) == (0 : Int) && (a0.2.2.2.2 == ([] : List UInt8) && true))))), ((), ())) : Bool × (Unit × Unit)) = ((fOpOk a0), ((), ()))) (((false, ((), ())) : Bool × (Unit × Unit)) = ((fOpOk a0), ((), ()))))) (((false, ((), ())) : Bool × (Unit × Unit)) = ((fOpOk a0), ((), ()))))) (caseB (a0.1 == (7 : Int)) (((((0 : Int) == (0 : Int) && (a0.2.1 == ([] : List UInt8) && (a0.2.2.1 == (0 : Int) && (a0.2.2.2.1 == (0 : Int) && (a0.2.2.2.2 == ([] : List UInt8) && true))))), ((), ())) : Bool × (Unit × Unit)) = ((fOpOk a0), ((), ()))) (((false, ((), ())) : Bool × (Unit × Unit)) = ((fOpOk a0), ((), ()))))))))))
def impl_OpOk.L  (a0 : (Int × ((List UInt8) × (Int × (Int × (List UInt8)))))) : Nat → Option LoopAnn := fun p => Go.Proofs.Ythjlommbnfooaaa.Bv.look p []

theorem impl_OpOk.pure  (a0 : (Int × ((List UInt8) × (Int × (Int × (List UInt8)))))) (h : (pOp a0)) (hw : Wf c_impl_OpOk.A a0) : impl_OpOk.F a0 := by
  unfold impl_OpOk.F
  simp only [forall_eq, true_and, and_true, caseB_iff, Prod.mk.injEq, decide_eq_true_eq, decide_eq_false_iff_not, Bool.not_eq_true', Bool.not_eq_false', bne_iff_ne, ne_eq, beq_iff_eq, Bool.not_true, Bool.not_false, beq_eq_false_iff_ne, bne_eq_false_iff_eq, List.length_append, List.length_cons, List.length_nil, List.append_nil, Nat.zero_add, decide_true, decide_false, eq_self_iff_true, pKey, Prod.eta, fTime]
  have hkl : a0.2.1.length ≤ maxLen := h
  obtain ⟨k, key, f, t, d⟩ := a0
  simp only [fOpOk, opSpan, BEq.rfl, Bool.true_and, Bool.and_true]
  repeat' (with_reducible (first | (refine And.intro ?_ ?_) | intro _))
  all_goals (try simp (disch := omega) only [w64, wu8, tn0, tn1, tm1, tm2, List.length_append, List.length_cons, List.length_nil] at *)
  all_goals (try simp (disch := omega) only [w64, wu8, tn0, tn1, tm1, tm2, List.length_append, List.length_cons, List.length_nil] at *)
  all_goals (try omega)
  all_goals (try grind [])

set_option maxRecDepth 100000 in
theorem impl_OpOk.eq (i : El c_impl_OpOk.I) (x : El c_impl_OpOk.A) : vc tab (gam [(31, c_impl_ReadBlock), (68, c_impl_from), (109, c_impl_spanOk), (110, c_impl_isTime), (111, c_impl_keyOk)] [] eqs) (impl_OpOk.L x) (match Try.f38.body with | some c => c | none => .skip) 1 (initSt c_impl_OpOk Try.f38.ntmps i x) (bodyK tab c_impl_OpOk Try.f38.results.toList [4] i x) = impl_OpOk.F x := by kernel_rfl
theorem impl_OpOk.ok : ConOk Try.prog 38 c_impl_OpOk :=
  conOk_of_eq (con := c_impl_OpOk) (tab := tab) (Γ := (gam [(31, c_impl_ReadBlock), (68, c_impl_from), (109, c_impl_spanOk), (110, c_impl_isTime), (111, c_impl_keyOk)] [] eqs)) (fn := Try.f38) (c := (match Try.f38.body with | some c => c | none => .skip)) (fun i x => impl_OpOk.L x) (fun i x => impl_OpOk.F x) rfl tabOk (gam_cons ⟨_, Try.func31, rfl, rfl⟩ impl_ReadBlock.ok (gam_cons ⟨_, Try.func68, rfl, rfl⟩ impl_from.ok (gam_cons ⟨_, Try.func109, rfl, rfl⟩ impl_spanOk.ok (gam_cons ⟨_, Try.func110, rfl, rfl⟩ impl_isTime.ok (gam_cons ⟨_, Try.func111, rfl, rfl⟩ impl_keyOk.ok (gam_nil _ [] eqsOk)))))) Try.func38 rfl [4] (by kernel_rfl) impl_OpOk.eq fun i x h hi hw => impl_OpOk.pure x h hw

theorem fReadBlock_len {s : List UInt8} (h : (fReadBlock s).2 = true) : s.length ≤ 2014 := by
  unfold fReadBlock at h
  split at h
  · rename_i hR
    rw [← hR.2]; exact fFrame_length _
  · cases h
theorem fKey_len {s : List UInt8} (h : fKey s = true) : s.length ≤ 8 := by
  simp only [fKey, Bool.and_eq_true, fIn_iff] at h; omega
theorem fOpOk_len (o : Op) : fOpOk o = true → o.2.1.length ≤ 8 ∧ o.2.2.2.2.length ≤ 2014 := by
  intro h
  unfold fOpOk at h
  split at h
  · simp at h; simp [h]
  split at h
  · simp at h; simp [h]
  split at h
  · simp at h; simp [h]
  split at h
  · simp only [Bool.and_eq_true] at h; exact ⟨fKey_len h.1, fReadBlock_len h.2.1⟩
  split at h
  · simp only [Bool.and_eq_true, decide_eq_true_eq] at h; exact ⟨fKey_len h.1, by rw [h.2.2]; simp⟩
  split at h
  · simp at h; simp [h]
  · cases h
theorem byte1_length (k : Int) : (byte1 k).length = 1 := rfl
theorem fShowOp_length (o : Op) : (fShowOp o).length ≤ 2044 := by
  unfold fShowOp
  split
  · rename_i h
    have b1 := fVar_length o.2.1.length
    have b2 := fVar_length o.2.2.1
    have b3 := fVar_length o.2.2.2.1
    have b4 := fOpOk_len o h
    simp only [List.length_append, byte1_length]; omega
  · simp
def c_spec_ShowOp : Con := { io := false, I := .unit, ownI := [], A := (.pair (.int .i64) (.pair .str (.pair (.int .i64) (.pair (.int .i64) .str)))), shA := [.agg 5], ownA := [], backA := [], B := .unit, R := .str, shR := [(false, 1)], fresh := [], newR := false, pre := fun _ a => (pOp a), f := some fun _ a => ((fShowOp a), ((), ())) }
def spec_ShowOp.F  (a0 : (Int × ((List UInt8) × (Int × (Int × (List UInt8)))))) : Prop := ((pOp (a0.1, (a0.2.1, (a0.2.2.1, (a0.2.2.2.1, a0.2.2.2.2))))) ∧ ∀ (r1 : Bool × (Unit × Unit)), ((r1 : Bool × (Unit × Unit)) = ((fOpOk (a0.1, (a0.2.1, (a0.2.2.1, (a0.2.2.2.1, a0.2.2.2.2))))), ((), ()))) → (caseB (!r1.1) ((([], ((), ())) : (List UInt8) × (Unit × Unit)) = ((fShowOp a0), ((), ()))) (True ∧ ∀ (r2 : (List UInt8) × (Unit × Unit)), ((r2 : (List UInt8) × (Unit × Unit)) = ((fVar ((List.length a0.2.1 : Nat) : Int)), ((), ()))) → (List.length (List.map (fun n => UInt8.ofNat (Int.toNat n)) [(IntKind.wrap .u8 a0.1)]) + List.length r2.1 ≤ 9223372036854775807 ∧ (List.length ((List.map (fun n => UInt8.ofNat (Int.toNat n)) [(IntKind.wrap .u8 a0.1)]) ++ r2.1) + List.length a0.2.1 ≤ 9223372036854775807 ∧ (True ∧ ∀ (r3 : (List UInt8) × (Unit × Unit)), ((r3 : (List UInt8) × (Unit × Unit)) = ((fVar a0.2.2.1), ((), ()))) → (List.length (((List.map (fun n => UInt8.ofNat (Int.toNat n)) [(IntKind.wrap .u8 a0.1)]) ++ r2.1) ++ a0.2.1) + List.length r3.1 ≤ 9223372036854775807 ∧ (True ∧ ∀ (r4 : (List UInt8) × (Unit × Unit)), ((r4 : (List UInt8) × (Unit × Unit)) = ((fVar a0.2.2.2.1), ((), ()))) → (List.length ((((List.map (fun n => UInt8.ofNat (Int.toNat n)) [(IntKind.wrap .u8 a0.1)]) ++ r2.1) ++ a0.2.1) ++ r3.1) + List.length r4.1 ≤ 9223372036854775807 ∧ (List.length (((((List.map (fun n => UInt8.ofNat (Int.toNat n)) [(IntKind.wrap .u8 a0.1)]) ++ r2.1) ++ a0.2.1) ++ r3.1) ++ r4.1) + List.length a0.2.2.2.2 ≤ 9223372036854775807 ∧ (((((((((List.map (fun n => UInt8.ofNat (Int.toNat n)) [(IntKind.wrap .u8 a0.1)]) ++ r2.1) ++ a0.2.1) ++ r3.1) ++ r4.1) ++ a0.2.2.2.2), ((), ())) : (List UInt8) × (Unit × Unit)) = ((fShowOp a0), ((), ())))))))))))))
def spec_ShowOp.L  (a0 : (Int × ((List UInt8) × (Int × (Int × (List UInt8)))))) : Nat → Option LoopAnn := fun p => Go.Proofs.Ythjlommbnfooaaa.Bv.look p []

theorem spec_ShowOp.pure  (a0 : (Int × ((List UInt8) × (Int × (Int × (List UInt8)))))) (h : (pOp a0)) (hw : Wf c_spec_ShowOp.A a0) : spec_ShowOp.F a0 := by
  unfold spec_ShowOp.F
  simp only [forall_eq, true_and, and_true, caseB_iff, Prod.mk.injEq, decide_eq_true_eq, decide_eq_false_iff_not, Bool.not_eq_true', Bool.not_eq_false', bne_iff_ne, ne_eq, beq_iff_eq, Bool.not_true, Bool.not_false, beq_eq_false_iff_ne, bne_eq_false_iff_eq, List.length_append, List.length_cons, List.length_nil, List.append_nil, Nat.zero_add, decide_true, decide_false, eq_self_iff_true, Prod.eta]
  have b1 := fVar_length a0.2.1.length
  have b2 := fVar_length a0.2.2.1
  have b3 := fVar_length a0.2.2.2.1
  have b4 := fOpOk_len a0
  refine ⟨h, fun h1 => by unfold fShowOp; rw [if_neg (by rw [h1]; decide)], fun h1 => ?_⟩
  have b4 := b4 h1
  simp only [List.length_map, List.length_cons, List.length_nil, List.length_append]
  refine ⟨by omega, by omega, by omega, by omega, by omega, ?_⟩
  unfold fShowOp
  rw [if_pos h1]; rfl

set_option maxRecDepth 100000 in
theorem spec_ShowOp.eq (i : El c_spec_ShowOp.I) (x : El c_spec_ShowOp.A) : vc tab (gam [(36, c_spec_OpOk), (89, c_spec_Var)] [] eqs) (spec_ShowOp.L x) (match Try.f39.body with | some c => c | none => .skip) 1 (initSt c_spec_ShowOp Try.f39.ntmps i x) (bodyK tab c_spec_ShowOp Try.f39.results.toList [9] i x) = spec_ShowOp.F x := by kernel_rfl
theorem spec_ShowOp.ok : ConOk Try.prog 39 c_spec_ShowOp :=
  conOk_of_eq (con := c_spec_ShowOp) (tab := tab) (Γ := (gam [(36, c_spec_OpOk), (89, c_spec_Var)] [] eqs)) (fn := Try.f39) (c := (match Try.f39.body with | some c => c | none => .skip)) (fun i x => spec_ShowOp.L x) (fun i x => spec_ShowOp.F x) rfl tabOk (gam_cons ⟨_, Try.func36, rfl, rfl⟩ spec_OpOk.ok (gam_cons ⟨_, Try.func89, rfl, rfl⟩ spec_Var.ok (gam_nil _ [] eqsOk))) Try.func39 rfl [9] (by kernel_rfl) spec_ShowOp.eq fun i x h hi hw => spec_ShowOp.pure x h hw

def c_impl_ShowOp : Con := { io := false, I := .unit, ownI := [], A := (.pair (.int .i64) (.pair .str (.pair (.int .i64) (.pair (.int .i64) .str)))), shA := [.agg 5], ownA := [], backA := [], B := .unit, R := .str, shR := [(false, 1)], fresh := [], newR := false, pre := fun _ a => (pOp a), f := some fun _ a => ((fShowOp a), ((), ())) }
def impl_ShowOp.F  (a0 : (Int × ((List UInt8) × (Int × (Int × (List UInt8)))))) : Prop := ((pOp (a0.1, (a0.2.1, (a0.2.2.1, (a0.2.2.2.1, a0.2.2.2.2))))) ∧ ∀ (r1 : Bool × (Unit × Unit)), ((r1 : Bool × (Unit × Unit)) = ((fOpOk (a0.1, (a0.2.1, (a0.2.2.1, (a0.2.2.2.1, a0.2.2.2.2))))), ((), ()))) → (caseB (!r1.1) ((([], ((), ())) : (List UInt8) × (Unit × Unit)) = ((fShowOp a0), ((), ()))) (True ∧ ∀ (r2 : (List UInt8) × (Unit × Unit)), ((r2 : (List UInt8) × (Unit × Unit)) = ((fVar ((List.length a0.2.1 : Nat) : Int)), ((), ()))) → (List.length (List.map (fun n => UInt8.ofNat (Int.toNat n)) [(IntKind.wrap .u8 a0.1)]) + List.length r2.1 ≤ 9223372036854775807 ∧ (List.length ((List.map (fun n => UInt8.ofNat (Int.toNat n)) [(IntKind.wrap .u8 a0.1)]) ++ r2.1) + List.length a0.2.1 ≤ 9223372036854775807 ∧ (True ∧ ∀ (r3 : (List UInt8) × (Unit × Unit)), ((r3 : (List UInt8) × (Unit × Unit)) = ((fVar a0.2.2.1), ((), ()))) → (List.length (((List.map (fun n => UInt8.ofNat (Int.toNat n)) [(IntKind.wrap .u8 a0.1)]) ++ r2.1) ++ a0.2.1) + List.length r3.1 ≤ 9223372036854775807 ∧ (True ∧ ∀ (r4 : (List UInt8) × (Unit × Unit)), ((r4 : (List UInt8) × (Unit × Unit)) = ((fVar a0.2.2.2.1), ((), ()))) → (List.length ((((List.map (fun n => UInt8.ofNat (Int.toNat n)) [(IntKind.wrap .u8 a0.1)]) ++ r2.1) ++ a0.2.1) ++ r3.1) + List.length r4.1 ≤ 9223372036854775807 ∧ (List.length (((((List.map (fun n => UInt8.ofNat (Int.toNat n)) [(IntKind.wrap .u8 a0.1)]) ++ r2.1) ++ a0.2.1) ++ r3.1) ++ r4.1) + List.length a0.2.2.2.2 ≤ 9223372036854775807 ∧ (((((((((List.map (fun n => UInt8.ofNat (Int.toNat n)) [(IntKind.wrap .u8 a0.1)]) ++ r2.1) ++ a0.2.1) ++ r3.1) ++ r4.1) ++ a0.2.2.2.2), ((), ())) : (List UInt8) × (Unit × Unit)) = ((fShowOp a0), ((), ())))))))))))))
def impl_ShowOp.L  (a0 : (Int × ((List UInt8) × (Int × (Int × (List UInt8)))))) : Nat → Option LoopAnn := fun p => Go.Proofs.Ythjlommbnfooaaa.Bv.look p []

theorem impl_ShowOp.pure  (a0 : (Int × ((List UInt8) × (Int × (Int × (List UInt8)))))) (h : (pOp a0)) (hw : Wf c_impl_ShowOp.A a0) : impl_ShowOp.F a0 := by
  unfold impl_ShowOp.F
  simp only [forall_eq, true_and, and_true, caseB_iff, Prod.mk.injEq, decide_eq_true_eq, decide_eq_false_iff_not, Bool.not_eq_true', Bool.not_eq_false', bne_iff_ne, ne_eq, beq_iff_eq, Bool.not_true, Bool.not_false, beq_eq_false_iff_ne, bne_eq_false_iff_eq, List.length_append, List.length_cons, List.length_nil, List.append_nil, Nat.zero_add, decide_true, decide_false, eq_self_iff_true, Prod.eta]
  have b1 := fVar_length a0.2.1.length
  have b2 := fVar_length a0.2.2.1
  have b3 := fVar_length a0.2.2.2.1
  have b4 := fOpOk_len a0
  refine ⟨h, fun h1 => by unfold fShowOp; rw [if_neg (by rw [h1]; decide)], fun h1 => ?_⟩
  have b4 := b4 h1
  simp only [List.length_map, List.length_cons, List.length_nil, List.length_append]
  refine ⟨by omega, by omega, by omega, by omega, by omega, ?_⟩
  unfold fShowOp
  rw [if_pos h1]; rfl

set_option maxRecDepth 100000 in
theorem impl_ShowOp.eq (i : El c_impl_ShowOp.I) (x : El c_impl_ShowOp.A) : vc tab (gam [(38, c_impl_OpOk), (95, c_impl_Var)] [] eqs) (impl_ShowOp.L x) (match Try.f40.body with | some c => c | none => .skip) 1 (initSt c_impl_ShowOp Try.f40.ntmps i x) (bodyK tab c_impl_ShowOp Try.f40.results.toList [9] i x) = impl_ShowOp.F x := by kernel_rfl
theorem impl_ShowOp.ok : ConOk Try.prog 40 c_impl_ShowOp :=
  conOk_of_eq (con := c_impl_ShowOp) (tab := tab) (Γ := (gam [(38, c_impl_OpOk), (95, c_impl_Var)] [] eqs)) (fn := Try.f40) (c := (match Try.f40.body with | some c => c | none => .skip)) (fun i x => impl_ShowOp.L x) (fun i x => impl_ShowOp.F x) rfl tabOk (gam_cons ⟨_, Try.func38, rfl, rfl⟩ impl_OpOk.ok (gam_cons ⟨_, Try.func95, rfl, rfl⟩ impl_Var.ok (gam_nil _ [] eqsOk))) Try.func40 rfl [9] (by kernel_rfl) impl_ShowOp.eq fun i x h hi hw => impl_ShowOp.pure x h hw

def c_spec_ShowCmd : Con := { io := false, I := .unit, ownI := [], A := (.pair (.int .i64) (.pair (.int .i64) (.pair (.int .i64) (.pair .str (.pair (.int .i64) (.pair (.int .i64) .str)))))), shA := [.agg 7], ownA := [], backA := [], B := .unit, R := .str, shR := [(false, 1)], fresh := [], newR := false, pre := fun _ a => (pCmd a), f := some fun _ a => ((fShowCmd a), ((), ())) }
def spec_ShowCmd.F  (a0 : (Int × (Int × (Int × ((List UInt8) × (Int × (Int × (List UInt8)))))))) : Prop := (True ∧ ∀ (r1 : Bool × (Unit × Unit)), ((r1 : Bool × (Unit × Unit)) = ((fIn a0.1 1 4), ((), ()))) → (caseB (!r1.1) ((([], ((), ())) : (List UInt8) × (Unit × Unit)) = ((fShowCmd a0), ((), ()))) (True ∧ ∀ (r2 : Bool × (Unit × Unit)), ((r2 : Bool × (Unit × Unit)) = ((fIn a0.2.1 1 1000000), ((), ()))) → (caseB (!r2.1) ((([], ((), ())) : (List UInt8) × (Unit × Unit)) = ((fShowCmd a0), ((), ()))) ((pOp (a0.2.2.1, (a0.2.2.2.1, (a0.2.2.2.2.1, (a0.2.2.2.2.2.1, a0.2.2.2.2.2.2))))) ∧ ∀ (r3 : Bool × (Unit × Unit)), ((r3 : Bool × (Unit × Unit)) = ((fOpOk (a0.2.2.1, (a0.2.2.2.1, (a0.2.2.2.2.1, (a0.2.2.2.2.2.1, a0.2.2.2.2.2.2))))), ((), ()))) → (caseB (!r3.1) ((([], ((), ())) : (List UInt8) × (Unit × Unit)) = ((fShowCmd a0), ((), ()))) (True ∧ ∀ (r4 : (List UInt8) × (Unit × Unit)), ((r4 : (List UInt8) × (Unit × Unit)) = ((fVar a0.1), ((), ()))) → (True ∧ ∀ (r5 : (List UInt8) × (Unit × Unit)), ((r5 : (List UInt8) × (Unit × Unit)) = ((fVar a0.2.1), ((), ()))) → (List.length r4.1 + List.length r5.1 ≤ 9223372036854775807 ∧ ((pOp (a0.2.2.1, (a0.2.2.2.1, (a0.2.2.2.2.1, (a0.2.2.2.2.2.1, a0.2.2.2.2.2.2))))) ∧ ∀ (r6 : (List UInt8) × (Unit × Unit)), ((r6 : (List UInt8) × (Unit × Unit)) = ((fShowOp (a0.2.2.1, (a0.2.2.2.1, (a0.2.2.2.2.1, (a0.2.2.2.2.2.1, a0.2.2.2.2.2.2))))), ((), ()))) → (List.length (r4.1 ++ r5.1) + List.length r6.1 ≤ 9223372036854775807 ∧ (((((r4.1 ++ r5.1) ++ r6.1), ((), ())) : (List UInt8) × (Unit × Unit)) = ((fShowCmd a0), ((), ()))))))))))))))
def spec_ShowCmd.L  (a0 : (Int × (Int × (Int × ((List UInt8) × (Int × (Int × (List UInt8)))))))) : Nat → Option LoopAnn := fun p => Go.Proofs.Ythjlommbnfooaaa.Bv.look p []

theorem spec_ShowCmd.pure  (a0 : (Int × (Int × (Int × ((List UInt8) × (Int × (Int × (List UInt8)))))))) (h : (pCmd a0)) (hw : Wf c_spec_ShowCmd.A a0) : spec_ShowCmd.F a0 := by
  unfold spec_ShowCmd.F
  simp only [forall_eq, true_and, and_true, caseB_iff, Prod.mk.injEq, decide_eq_true_eq, decide_eq_false_iff_not, Bool.not_eq_true', Bool.not_eq_false', bne_iff_ne, ne_eq, beq_iff_eq, Bool.not_true, Bool.not_false, beq_eq_false_iff_ne, bne_eq_false_iff_eq, List.length_append, List.length_cons, List.length_nil, List.append_nil, Nat.zero_add, decide_true, decide_false, eq_self_iff_true, Prod.eta]
  have b1 := fVar_length a0.1
  have b2 := fVar_length a0.2.1
  have b3 := fShowOp_length a0.2.2
  refine ⟨fun h1 => ?_, fun h1 => ⟨fun h2 => ?_, fun h2 => ⟨h, fun h3 => ?_, fun h3 => ⟨by omega, h, by omega, ?_⟩⟩⟩⟩
  · unfold fShowCmd; rw [if_neg (by rw [h1]; simp)]
  · unfold fShowCmd; rw [if_neg (by rw [h2]; simp)]
  · unfold fShowCmd; rw [if_neg (by rw [h3]; simp)]
  · unfold fShowCmd; rw [if_pos ⟨h1, h2, h3⟩]

set_option maxRecDepth 100000 in
theorem spec_ShowCmd.eq (i : El c_spec_ShowCmd.I) (x : El c_spec_ShowCmd.A) : vc tab (gam [(36, c_spec_OpOk), (39, c_spec_ShowOp), (61, c_spec_l1In), (89, c_spec_Var)] [] eqs) (spec_ShowCmd.L x) (match Try.f42.body with | some c => c | none => .skip) 1 (initSt c_spec_ShowCmd Try.f42.ntmps i x) (bodyK tab c_spec_ShowCmd Try.f42.results.toList [9] i x) = spec_ShowCmd.F x := by kernel_rfl
theorem spec_ShowCmd.ok : ConOk Try.prog 42 c_spec_ShowCmd :=
  conOk_of_eq (con := c_spec_ShowCmd) (tab := tab) (Γ := (gam [(36, c_spec_OpOk), (39, c_spec_ShowOp), (61, c_spec_l1In), (89, c_spec_Var)] [] eqs)) (fn := Try.f42) (c := (match Try.f42.body with | some c => c | none => .skip)) (fun i x => spec_ShowCmd.L x) (fun i x => spec_ShowCmd.F x) rfl tabOk (gam_cons ⟨_, Try.func36, rfl, rfl⟩ spec_OpOk.ok (gam_cons ⟨_, Try.func39, rfl, rfl⟩ spec_ShowOp.ok (gam_cons ⟨_, Try.func61, rfl, rfl⟩ spec_l1In.ok (gam_cons ⟨_, Try.func89, rfl, rfl⟩ spec_Var.ok (gam_nil _ [] eqsOk))))) Try.func42 rfl [9] (by kernel_rfl) spec_ShowCmd.eq fun i x h hi hw => spec_ShowCmd.pure x h hw

def c_impl_ShowCmd : Con := { io := false, I := .unit, ownI := [], A := (.pair (.int .i64) (.pair (.int .i64) (.pair (.int .i64) (.pair .str (.pair (.int .i64) (.pair (.int .i64) .str)))))), shA := [.agg 7], ownA := [], backA := [], B := .unit, R := .str, shR := [(false, 1)], fresh := [], newR := false, pre := fun _ a => (pCmd a), f := some fun _ a => ((fShowCmd a), ((), ())) }
def impl_ShowCmd.F  (a0 : (Int × (Int × (Int × ((List UInt8) × (Int × (Int × (List UInt8)))))))) : Prop := (True ∧ ∀ (r1 : Bool × (Unit × Unit)), ((r1 : Bool × (Unit × Unit)) = ((fIsClient a0.1), ((), ()))) → (caseB (!r1.1) ((([], ((), ())) : (List UInt8) × (Unit × Unit)) = ((fShowCmd a0), ((), ()))) (True ∧ ∀ (r2 : Bool × (Unit × Unit)), ((r2 : Bool × (Unit × Unit)) = ((fIsSerial a0.2.1), ((), ()))) → (caseB (!r2.1) ((([], ((), ())) : (List UInt8) × (Unit × Unit)) = ((fShowCmd a0), ((), ()))) ((pOp (a0.2.2.1, (a0.2.2.2.1, (a0.2.2.2.2.1, (a0.2.2.2.2.2.1, a0.2.2.2.2.2.2))))) ∧ ∀ (r3 : Bool × (Unit × Unit)), ((r3 : Bool × (Unit × Unit)) = ((fOpOk (a0.2.2.1, (a0.2.2.2.1, (a0.2.2.2.2.1, (a0.2.2.2.2.2.1, a0.2.2.2.2.2.2))))), ((), ()))) → (caseB (!r3.1) ((([], ((), ())) : (List UInt8) × (Unit × Unit)) = ((fShowCmd a0), ((), ()))) (True ∧ ∀ (r4 : (List UInt8) × (Unit × Unit)), ((r4 : (List UInt8) × (Unit × Unit)) = ((fVar a0.1), ((), ()))) → (True ∧ ∀ (r5 : (List UInt8) × (Unit × Unit)), ((r5 : (List UInt8) × (Unit × Unit)) = ((fVar a0.2.1), ((), ()))) → (List.length r4.1 + List.length r5.1 ≤ 9223372036854775807 ∧ ((pOp (a0.2.2.1, (a0.2.2.2.1, (a0.2.2.2.2.1, (a0.2.2.2.2.2.1, a0.2.2.2.2.2.2))))) ∧ ∀ (r6 : (List UInt8) × (Unit × Unit)), ((r6 : (List UInt8) × (Unit × Unit)) = ((fShowOp (a0.2.2.1, (a0.2.2.2.1, (a0.2.2.2.2.1, (a0.2.2.2.2.2.1, a0.2.2.2.2.2.2))))), ((), ()))) → (List.length (r4.1 ++ r5.1) + List.length r6.1 ≤ 9223372036854775807 ∧ (((((r4.1 ++ r5.1) ++ r6.1), ((), ())) : (List UInt8) × (Unit × Unit)) = ((fShowCmd a0), ((), ()))))))))))))))
def impl_ShowCmd.L  (a0 : (Int × (Int × (Int × ((List UInt8) × (Int × (Int × (List UInt8)))))))) : Nat → Option LoopAnn := fun p => Go.Proofs.Ythjlommbnfooaaa.Bv.look p []

theorem impl_ShowCmd.pure  (a0 : (Int × (Int × (Int × ((List UInt8) × (Int × (Int × (List UInt8)))))))) (h : (pCmd a0)) (hw : Wf c_impl_ShowCmd.A a0) : impl_ShowCmd.F a0 := by
  unfold impl_ShowCmd.F
  simp only [forall_eq, true_and, and_true, caseB_iff, Prod.mk.injEq, decide_eq_true_eq, decide_eq_false_iff_not, Bool.not_eq_true', Bool.not_eq_false', bne_iff_ne, ne_eq, beq_iff_eq, Bool.not_true, Bool.not_false, beq_eq_false_iff_ne, bne_eq_false_iff_eq, List.length_append, List.length_cons, List.length_nil, List.append_nil, Nat.zero_add, decide_true, decide_false, eq_self_iff_true, Prod.eta, fIsClient, fIsSerial]
  have b1 := fVar_length a0.1
  have b2 := fVar_length a0.2.1
  have b3 := fShowOp_length a0.2.2
  refine ⟨fun h1 => ?_, fun h1 => ⟨fun h2 => ?_, fun h2 => ⟨h, fun h3 => ?_, fun h3 => ⟨by omega, h, by omega, ?_⟩⟩⟩⟩
  · unfold fShowCmd; rw [if_neg (by rw [h1]; simp)]
  · unfold fShowCmd; rw [if_neg (by rw [h2]; simp)]
  · unfold fShowCmd; rw [if_neg (by rw [h3]; simp)]
  · unfold fShowCmd; rw [if_pos ⟨h1, h2, h3⟩]

set_option maxRecDepth 100000 in
theorem impl_ShowCmd.eq (i : El c_impl_ShowCmd.I) (x : El c_impl_ShowCmd.A) : vc tab (gam [(38, c_impl_OpOk), (40, c_impl_ShowOp), (95, c_impl_Var), (112, c_impl_isClient), (113, c_impl_isSerial)] [] eqs) (impl_ShowCmd.L x) (match Try.f44.body with | some c => c | none => .skip) 1 (initSt c_impl_ShowCmd Try.f44.ntmps i x) (bodyK tab c_impl_ShowCmd Try.f44.results.toList [9] i x) = impl_ShowCmd.F x := by kernel_rfl
theorem impl_ShowCmd.ok : ConOk Try.prog 44 c_impl_ShowCmd :=
  conOk_of_eq (con := c_impl_ShowCmd) (tab := tab) (Γ := (gam [(38, c_impl_OpOk), (40, c_impl_ShowOp), (95, c_impl_Var), (112, c_impl_isClient), (113, c_impl_isSerial)] [] eqs)) (fn := Try.f44) (c := (match Try.f44.body with | some c => c | none => .skip)) (fun i x => impl_ShowCmd.L x) (fun i x => impl_ShowCmd.F x) rfl tabOk (gam_cons ⟨_, Try.func38, rfl, rfl⟩ impl_OpOk.ok (gam_cons ⟨_, Try.func40, rfl, rfl⟩ impl_ShowOp.ok (gam_cons ⟨_, Try.func95, rfl, rfl⟩ impl_Var.ok (gam_cons ⟨_, Try.func112, rfl, rfl⟩ impl_isClient.ok (gam_cons ⟨_, Try.func113, rfl, rfl⟩ impl_isSerial.ok (gam_nil _ [] eqsOk)))))) Try.func44 rfl [9] (by kernel_rfl) impl_ShowCmd.eq fun i x h hi hw => impl_ShowCmd.pure x h hw

def c_impl_rd_bytes : Con := { io := true, I := (.pair .str .bool), ownI := [], A := (.int .i64), shA := [.one], ownA := [], backA := [], B := .unit, R := .str, shR := [(false, 1)], fresh := [], newR := false, pre := fun i a => (pBytes i a), f := some fun i a => ((fBytes i a).1, ((fBytes i a).2, ())) }
def impl_rd_bytes.F (i0 : ((List UInt8) × Bool)) (a0 : Int) : Prop := (caseB (!i0.2) ((([], ((i0.1, false), ())) : (List UInt8) × (((List UInt8) × Bool) × Unit)) = ((fBytes i0 a0).1, ((fBytes i0 a0).2, ()))) (caseB (decide (a0 > ((List.length i0.1 : Nat) : Int))) ((([], ((i0.1, false), ())) : (List UInt8) × (((List UInt8) × Bool) × Unit)) = ((fBytes i0 a0).1, ((fBytes i0 a0).2, ()))) (0 ≤ a0 ∧ (a0 ≤ ((List.length i0.1 : Nat) : Int) ∧ (0 ≤ a0 ∧ (a0 ≤ ((List.length i0.1 : Nat) : Int) ∧ ((((List.take (Int.toNat a0) i0.1), (((List.drop (Int.toNat a0) i0.1), i0.2), ())) : (List UInt8) × (((List UInt8) × Bool) × Unit)) = ((fBytes i0 a0).1, ((fBytes i0 a0).2, ())))))))))
def impl_rd_bytes.L (i0 : ((List UInt8) × Bool)) (a0 : Int) : Nat → Option LoopAnn := fun p => Go.Proofs.Ythjlommbnfooaaa.Bv.look p []

theorem impl_rd_bytes.pure (i0 : ((List UInt8) × Bool)) (a0 : Int) (h : (pBytes i0 a0)) (hi : Wf c_impl_rd_bytes.I i0) (hw : Wf c_impl_rd_bytes.A a0) : impl_rd_bytes.F i0 a0 := by
  unfold impl_rd_bytes.F
  have h0 : 0 ≤ a0 := h
  simp only [forall_eq, true_and, and_true, caseB_iff, Prod.mk.injEq, decide_eq_true_eq, decide_eq_false_iff_not, Bool.not_eq_true', Bool.not_eq_false', bne_iff_ne, ne_eq, beq_iff_eq, Bool.not_true, Bool.not_false, beq_eq_false_iff_ne, bne_eq_false_iff_eq, List.length_append, List.length_cons, List.length_nil, List.append_nil, Nat.zero_add, decide_true, decide_false, eq_self_iff_true, pBytes, Prod.eta]
  repeat' (with_reducible (first | (refine And.intro ?_ ?_) | intro _))
  all_goals (try simp (disch := omega) only [w64, wu8, tn0, tn1, tm1, tm2, List.length_append, List.length_cons, List.length_nil] at *)
  all_goals (try simp (disch := omega) only [w64, wu8, tn0, tn1, tm1, tm2, List.length_append, List.length_cons, List.length_nil] at *)
  all_goals (try omega)
  all_goals (try grind [fBytes])

set_option maxRecDepth 100000 in
theorem impl_rd_bytes.eq (i : El c_impl_rd_bytes.I) (x : El c_impl_rd_bytes.A) : vc tab (gam [] [] eqs) (impl_rd_bytes.L i x) (match Try.f152.body with | some c => c | none => .skip) 1 (initSt c_impl_rd_bytes Try.f152.ntmps i x) (bodyK tab c_impl_rd_bytes Try.f152.results.toList [9] i x) = impl_rd_bytes.F i x := by kernel_rfl
theorem impl_rd_bytes.ok : ConOk Try.prog 152 c_impl_rd_bytes :=
  conOk_of_eq (con := c_impl_rd_bytes) (tab := tab) (Γ := (gam [] [] eqs)) (fn := Try.f152) (c := (match Try.f152.body with | some c => c | none => .skip)) (fun i x => impl_rd_bytes.L i x) (fun i x => impl_rd_bytes.F i x) rfl tabOk (gam_nil _ [] eqsOk) Try.func152 rfl [9] (by kernel_rfl) impl_rd_bytes.eq fun i x h hi hw => impl_rd_bytes.pure i x h (hi rfl) hw

def c_impl_rd_piece : Con := { io := true, I := (.pair .str .bool), ownI := [], A := .unit, shA := [], ownA := [], backA := [], B := .unit, R := .str, shR := [(false, 1)], fresh := [], newR := false, pre := fun i a => True, f := some fun i a => ((fPiece i).1, ((fPiece i).2, ())) }
def impl_rd_piece.F (i0 : ((List UInt8) × Bool))  : Prop := (True ∧ ∀ (r1 : Int × (((List UInt8) × Bool) × Unit)), ((r1 : Int × (((List UInt8) × Bool) × Unit)) = ((fNum (i0.1, i0.2)).1, ((fNum (i0.1, i0.2)).2, ()))) → ((pBytes (r1.2.1.1, r1.2.1.2) r1.1) ∧ ∀ (r2 : (List UInt8) × (((List UInt8) × Bool) × Unit)), ((r2 : (List UInt8) × (((List UInt8) × Bool) × Unit)) = ((fBytes (r1.2.1.1, r1.2.1.2) r1.1).1, ((fBytes (r1.2.1.1, r1.2.1.2) r1.1).2, ()))) → (((r2.1, ((r2.2.1.1, r2.2.1.2), ())) : (List UInt8) × (((List UInt8) × Bool) × Unit)) = ((fPiece i0).1, ((fPiece i0).2, ())))))
def impl_rd_piece.L (i0 : ((List UInt8) × Bool))  : Nat → Option LoopAnn := fun p => Go.Proofs.Ythjlommbnfooaaa.Bv.look p []

theorem impl_rd_piece.pure (i0 : ((List UInt8) × Bool))  (h : True) (hi : Wf c_impl_rd_piece.I i0) (hw : Wf c_impl_rd_piece.A ()) : impl_rd_piece.F i0 := by
  unfold impl_rd_piece.F
  simp only [forall_eq, true_and, and_true, caseB_iff, Prod.mk.injEq, decide_eq_true_eq, decide_eq_false_iff_not, Bool.not_eq_true', Bool.not_eq_false', bne_iff_ne, ne_eq, beq_iff_eq, Bool.not_true, Bool.not_false, beq_eq_false_iff_ne, bne_eq_false_iff_eq, List.length_append, List.length_cons, List.length_nil, List.append_nil, Nat.zero_add, decide_true, decide_false, eq_self_iff_true, pBytes, Prod.eta]
  exact ⟨(num_in i0).1, rfl, rfl⟩

set_option maxRecDepth 100000 in
theorem impl_rd_piece.eq (i : El c_impl_rd_piece.I) (x : El c_impl_rd_piece.A) : vc tab (gam [(116, c_impl_rd_num), (152, c_impl_rd_bytes)] [] eqs) (impl_rd_piece.L i) (match Try.f119.body with | some c => c | none => .skip) 1 (initSt c_impl_rd_piece Try.f119.ntmps i x) (bodyK tab c_impl_rd_piece Try.f119.results.toList [9] i x) = impl_rd_piece.F i := by kernel_rfl
theorem impl_rd_piece.ok : ConOk Try.prog 119 c_impl_rd_piece :=
  conOk_of_eq (con := c_impl_rd_piece) (tab := tab) (Γ := (gam [(116, c_impl_rd_num), (152, c_impl_rd_bytes)] [] eqs)) (fn := Try.f119) (c := (match Try.f119.body with | some c => c | none => .skip)) (fun i x => impl_rd_piece.L i) (fun i x => impl_rd_piece.F i) rfl tabOk (gam_cons ⟨_, Try.func116, rfl, rfl⟩ impl_rd_num.ok (gam_cons ⟨_, Try.func152, rfl, rfl⟩ impl_rd_bytes.ok (gam_nil _ [] eqsOk))) Try.func119 rfl [9] (by kernel_rfl) impl_rd_piece.eq fun i x h hi hw => impl_rd_piece.pure i h (hi rfl) hw

theorem kind_le (s : List UInt8) : 0 ≤ ((s.getD 0 0).toNat : Int) ∧ ((s.getD 0 0).toNat : Int) ≤ 255 := by
  have := (s.getD 0 0).toNat_lt; omega
def c_impl_rd_kind : Con := { io := true, I := (.pair .str .bool), ownI := [], A := .unit, shA := [], ownA := [], backA := [], B := .unit, R := (.int .i64), shR := [(false, 1)], fresh := [], newR := false, pre := fun i a => True, f := some fun i a => ((fKind i).1, ((fKind i).2, ())) }
def impl_rd_kind.F (i0 : ((List UInt8) × Bool))  : Prop := ((pBytes (i0.1, i0.2) 1) ∧ ∀ (r1 : (List UInt8) × (((List UInt8) × Bool) × Unit)), ((r1 : (List UInt8) × (((List UInt8) × Bool) × Unit)) = ((fBytes (i0.1, i0.2) 1).1, ((fBytes (i0.1, i0.2) 1).2, ()))) → (caseB (r1.1 == []) (((0, ((r1.2.1.1, r1.2.1.2), ())) : Int × (((List UInt8) × Bool) × Unit)) = ((fKind i0).1, ((fKind i0).2, ()))) (0 ≤ (0 : Int) ∧ ((0 : Int) < ((List.length r1.1 : Nat) : Int) ∧ ((((IntKind.wrap .i64 ((UInt8.toNat (List.getD r1.1 (Int.toNat (0 : Int)) 0) : Nat) : Int)), ((r1.2.1.1, r1.2.1.2), ())) : Int × (((List UInt8) × Bool) × Unit)) = ((fKind i0).1, ((fKind i0).2, ())))))))
def impl_rd_kind.L (i0 : ((List UInt8) × Bool))  : Nat → Option LoopAnn := fun p => Go.Proofs.Ythjlommbnfooaaa.Bv.look p []

theorem impl_rd_kind.pure (i0 : ((List UInt8) × Bool))  (h : True) (hi : Wf c_impl_rd_kind.I i0) (hw : Wf c_impl_rd_kind.A ()) : impl_rd_kind.F i0 := by
  unfold impl_rd_kind.F
  simp only [forall_eq, true_and, and_true, caseB_iff, Prod.mk.injEq, decide_eq_true_eq, decide_eq_false_iff_not, Bool.not_eq_true', Bool.not_eq_false', bne_iff_ne, ne_eq, beq_iff_eq, Bool.not_true, Bool.not_false, beq_eq_false_iff_ne, bne_eq_false_iff_eq, List.length_append, List.length_cons, List.length_nil, List.append_nil, Nat.zero_add, decide_true, decide_false, eq_self_iff_true, pBytes, Prod.eta]
  have hk := kind_le (fBytes i0 1).1
  refine ⟨by omega, fun h1 => ?_, fun h1 => ?_⟩
  · unfold fKind; rw [h1]; exact ⟨rfl, rfl⟩
  · have := List.length_pos_iff.2 h1
    rw [show Int.toNat 0 = 0 from rfl, w64 (by omega) (by omega)]
    exact ⟨by omega, by omega, rfl, rfl⟩

set_option maxRecDepth 100000 in
theorem impl_rd_kind.eq (i : El c_impl_rd_kind.I) (x : El c_impl_rd_kind.A) : vc tab (gam [(152, c_impl_rd_bytes)] [] eqs) (impl_rd_kind.L i) (match Try.f151.body with | some c => c | none => .skip) 1 (initSt c_impl_rd_kind Try.f151.ntmps i x) (bodyK tab c_impl_rd_kind Try.f151.results.toList [3] i x) = impl_rd_kind.F i := by kernel_rfl
theorem impl_rd_kind.ok : ConOk Try.prog 151 c_impl_rd_kind :=
  conOk_of_eq (con := c_impl_rd_kind) (tab := tab) (Γ := (gam [(152, c_impl_rd_bytes)] [] eqs)) (fn := Try.f151) (c := (match Try.f151.body with | some c => c | none => .skip)) (fun i x => impl_rd_kind.L i) (fun i x => impl_rd_kind.F i) rfl tabOk (gam_cons ⟨_, Try.func152, rfl, rfl⟩ impl_rd_bytes.ok (gam_nil _ [] eqsOk)) Try.func151 rfl [3] (by kernel_rfl) impl_rd_kind.eq fun i x h hi hw => impl_rd_kind.pure i h (hi rfl) hw

def c_impl_rd_op : Con := { io := true, I := (.pair .str .bool), ownI := [], A := .unit, shA := [], ownA := [], backA := [], B := .unit, R := (.pair (.int .i64) (.pair .str (.pair (.int .i64) (.pair (.int .i64) .str)))), shR := [(true, 5)], fresh := [], newR := false, pre := fun i a => True, f := some fun i a => ((fOpR i).1, ((fOpR i).2, ())) }
def impl_rd_op.F (i0 : ((List UInt8) × Bool))  : Prop := (True ∧ ∀ (r1 : Int × (((List UInt8) × Bool) × Unit)), ((r1 : Int × (((List UInt8) × Bool) × Unit)) = ((fKind (i0.1, i0.2)).1, ((fKind (i0.1, i0.2)).2, ()))) → (True ∧ ∀ (r2 : (List UInt8) × (((List UInt8) × Bool) × Unit)), ((r2 : (List UInt8) × (((List UInt8) × Bool) × Unit)) = ((fPiece (r1.2.1.1, r1.2.1.2)).1, ((fPiece (r1.2.1.1, r1.2.1.2)).2, ()))) → (True ∧ ∀ (r3 : Int × (((List UInt8) × Bool) × Unit)), ((r3 : Int × (((List UInt8) × Bool) × Unit)) = ((fNum (r2.2.1.1, r2.2.1.2)).1, ((fNum (r2.2.1.1, r2.2.1.2)).2, ()))) → (True ∧ ∀ (r4 : Int × (((List UInt8) × Bool) × Unit)), ((r4 : Int × (((List UInt8) × Bool) × Unit)) = ((fNum (r3.2.1.1, r3.2.1.2)).1, ((fNum (r3.2.1.1, r3.2.1.2)).2, ()))) → ((((r1.1, (r2.1, (r3.1, (r4.1, r4.2.1.1)))), ((r4.2.1.1, r4.2.1.2), ())) : (Int × ((List UInt8) × (Int × (Int × (List UInt8))))) × (((List UInt8) × Bool) × Unit)) = ((fOpR i0).1, ((fOpR i0).2, ())))))))
def impl_rd_op.L (i0 : ((List UInt8) × Bool))  : Nat → Option LoopAnn := fun p => Go.Proofs.Ythjlommbnfooaaa.Bv.look p []

theorem impl_rd_op.pure (i0 : ((List UInt8) × Bool))  (h : True) (hi : Wf c_impl_rd_op.I i0) (hw : Wf c_impl_rd_op.A ()) : impl_rd_op.F i0 := by
  unfold impl_rd_op.F
  simp only [forall_eq, true_and, and_true, caseB_iff, Prod.mk.injEq, decide_eq_true_eq, decide_eq_false_iff_not, Bool.not_eq_true', Bool.not_eq_false', bne_iff_ne, ne_eq, beq_iff_eq, Bool.not_true, Bool.not_false, beq_eq_false_iff_ne, bne_eq_false_iff_eq, List.length_append, List.length_cons, List.length_nil, List.append_nil, Nat.zero_add, decide_true, decide_false, eq_self_iff_true, Prod.eta]
  exact ⟨rfl, rfl⟩

set_option maxRecDepth 100000 in
theorem impl_rd_op.eq (i : El c_impl_rd_op.I) (x : El c_impl_rd_op.A) : vc tab (gam [(116, c_impl_rd_num), (119, c_impl_rd_piece), (151, c_impl_rd_kind)] [] eqs) (impl_rd_op.L i) (match Try.f115.body with | some c => c | none => .skip) 1 (initSt c_impl_rd_op Try.f115.ntmps i x) (bodyK tab c_impl_rd_op Try.f115.results.toList [63] i x) = impl_rd_op.F i := by kernel_rfl
theorem impl_rd_op.ok : ConOk Try.prog 115 c_impl_rd_op :=
  conOk_of_eq (con := c_impl_rd_op) (tab := tab) (Γ := (gam [(116, c_impl_rd_num), (119, c_impl_rd_piece), (151, c_impl_rd_kind)] [] eqs)) (fn := Try.f115) (c := (match Try.f115.body with | some c => c | none => .skip)) (fun i x => impl_rd_op.L i) (fun i x => impl_rd_op.F i) rfl tabOk (gam_cons ⟨_, Try.func116, rfl, rfl⟩ impl_rd_num.ok (gam_cons ⟨_, Try.func119, rfl, rfl⟩ impl_rd_piece.ok (gam_cons ⟨_, Try.func151, rfl, rfl⟩ impl_rd_kind.ok (gam_nil _ [] eqsOk)))) Try.func115 rfl [63] (by kernel_rfl) impl_rd_op.eq fun i x h hi hw => impl_rd_op.pure i h (hi rfl) hw

def c_spec_l13Vars : Con := { io := false, I := .unit, ownI := [], A := (.pair .str (.pair (.int .i64) (.int .i64))), shA := [.one, .one, .one], ownA := [], backA := [], B := .unit, R := (.pair (.list (.int .i64)) (.int .i64)), shR := [(false, 1), (false, 1)], fresh := [], newR := false, pre := fun _ a => (p13 a.1 a.2.1 a.2.2), f := some fun _ a => ((fVars13 a.1 a.2.1 a.2.2), ((), ())) }
def spec_l13Vars.F  (a0 : (List UInt8)) (a1 : Int) (a2 : Int) : Prop := (([(0, .val false [.str a0]), (2, .val false [.int .i64 a2])] : List (Nat × Sv)) = [(0, .val false [.str a0]), (2, .val false [.int .i64 a2])] ∧ ((v13I a0 a1 a2 a1 0 ([] : List Int)) ∧ ∀ (y1 : (Int × (Int × (List Int)))), (v13I a0 a1 a2 y1.1 y1.2.1 y1.2.2) → (caseB (decide (y1.2.1 < a2)) (caseB (decide (y1.1 > ((List.length a0 : Nat) : Int))) ((((y1.2.2, (-1)), ((), ())) : ((List Int) × Int) × (Unit × Unit)) = ((fVars13 a0 a1 a2), ((), ()))) (0 ≤ y1.1 ∧ (y1.1 ≤ ((List.length a0 : Nat) : Int) ∧ (True ∧ ∀ (r2 : (Int × Int) × (Unit × Unit)), ((r2 : (Int × Int) × (Unit × Unit)) = ((fReadVar (List.drop (Int.toNat y1.1) a0)), ((), ()))) → (caseB (r2.1.2 == (0 : Int)) ((((y1.2.2, (-1)), ((), ())) : ((List Int) × Int) × (Unit × Unit)) = ((fVars13 a0 a1 a2), ((), ()))) (List.length y1.2.2 + List.length [r2.1.1] ≤ 9223372036854775807 ∧ ((List.length y1.2.2 + List.length [r2.1.1]) * 8 ≤ 140737488355328 ∧ (([(0, .val false [.str a0]), (2, .val false [.int .i64 a2])] : List (Nat × Sv)) = [(0, .val false [.str a0]), (2, .val false [.int .i64 a2])] ∧ (v13I a0 a1 a2 (IntKind.wrap .i64 (y1.1 + r2.1.2)) (IntKind.wrap .i64 (y1.2.1 + (1 : Int))) (y1.2.2 ++ [r2.1.1])) ∧ (v13M a0 a1 a2 (IntKind.wrap .i64 (y1.1 + r2.1.2)) (IntKind.wrap .i64 (y1.2.1 + (1 : Int))) (y1.2.2 ++ [r2.1.1])) < (v13M a0 a1 a2 y1.1 y1.2.1 y1.2.2))))))))) ((((y1.2.2, y1.1), ((), ())) : ((List Int) × Int) × (Unit × Unit)) = ((fVars13 a0 a1 a2), ((), ()))))))
def spec_l13Vars.L  (a0 : (List UInt8)) (a1 : Int) (a2 : Int) : Nat → Option LoopAnn := fun p => Go.Proofs.Ythjlommbnfooaaa.Bv.look p [(58, { kp := { hold := [0, 2], slots := [1, 8, 9], boxes := [], rows := [{ bx := false, s := 8, i := 0, k := 1001027, e := 3, hot := true }] }, T := (.pair (.int .i64) (.pair (.int .i64) (.list (.int .i64)))), I := fun st y => v13I a0 a1 a2 y.1 y.2.1 y.2.2, μ := fun st y => v13M a0 a1 a2 y.1 y.2.1 y.2.2 })]

theorem spec_l13Vars.pure  (a0 : (List UInt8)) (a1 : Int) (a2 : Int) (h : (p13 a0 a1 a2)) (hw : Wf c_spec_l13Vars.A (a0, a1, a2)) : spec_l13Vars.F a0 a1 a2 := by
  unfold spec_l13Vars.F
  simp only [forall_eq, true_and, and_true, caseB_iff, Prod.mk.injEq, decide_eq_true_eq, decide_eq_false_iff_not, Bool.not_eq_true', Bool.not_eq_false', bne_iff_ne, ne_eq, beq_iff_eq, Bool.not_true, Bool.not_false, beq_eq_false_iff_ne, bne_eq_false_iff_eq, List.length_append, List.length_cons, List.length_nil, List.append_nil, Nat.zero_add, decide_true, decide_false, eq_self_iff_true, Prod.eta]
  obtain ⟨hl, q1, q2, q3⟩ := h
  unfold maxLen at hl
  refine ⟨⟨by omega, by omega, q1, rfl, by simp [fVars13]⟩, fun y hI => ?_⟩
  obtain ⟨p, i, out⟩ := y
  simp only at hI ⊢
  obtain ⟨h1, h2, h3, h5, h6⟩ := hI
  have hb := readVar_bound (a0.drop p.toNat)
  rw [List.length_drop] at hb
  refine ⟨fun hi => ?_, fun hi => ?_⟩
  · have e : (a2 - i).toNat = (a2 - i - 1).toNat + 1 := by omega
    rw [e, v13Go] at h6
    refine ⟨fun hp => ?_, fun hp => ⟨h3, by omega, fun hz => ?_, fun hz => ?_⟩⟩
    · rw [if_pos hp] at h6; exact h6
    · rw [if_neg hp, if_pos hz] at h6; exact h6
    · rw [if_neg hp, if_neg hz] at h6
      rw [w64 (x := p + (fReadVar (a0.drop p.toNat)).2) (by omega) (by omega), w64 (x := i + 1) (by omega) (by omega)]
      exact ⟨by omega, by omega, ⟨by omega, by omega, by omega, by simp; omega, by rw [show (a2 - (i + 1)).toNat = (a2 - i - 1).toNat by omega]; exact h6⟩, by unfold v13M; omega⟩
  · rw [show (a2 - i).toNat = 0 by omega, v13Go] at h6
    exact h6

set_option maxRecDepth 100000 in
theorem spec_l13Vars.eq (i : El c_spec_l13Vars.I) (x : El c_spec_l13Vars.A) : vc tab (gam [(100, c_spec_ReadVar)] [] eqs) (spec_l13Vars.L x.1 x.2.1 x.2.2) (match Try.f114.body with | some c => c | none => .skip) 1 (initSt c_spec_l13Vars Try.f114.ntmps i x) (bodyK tab c_spec_l13Vars Try.f114.results.toList [23, 3] i x) = spec_l13Vars.F x.1 x.2.1 x.2.2 := by kernel_rfl
theorem spec_l13Vars.ok : ConOk Try.prog 114 c_spec_l13Vars :=
  conOk_of_eq (con := c_spec_l13Vars) (tab := tab) (Γ := (gam [(100, c_spec_ReadVar)] [] eqs)) (fn := Try.f114) (c := (match Try.f114.body with | some c => c | none => .skip)) (fun i x => spec_l13Vars.L x.1 x.2.1 x.2.2) (fun i x => spec_l13Vars.F x.1 x.2.1 x.2.2) rfl tabOk (gam_cons ⟨_, Try.func100, rfl, rfl⟩ spec_ReadVar.ok (gam_nil _ [] eqsOk)) Try.func114 rfl [23, 3] (by kernel_rfl) spec_l13Vars.eq fun i x h hi hw => spec_l13Vars.pure x.1 x.2.1 x.2.2 h hw

theorem bytes_len (i : Rd) (n : Int) : (fBytes i n).1.length ≤ i.1.length ∧ (fBytes i n).2.1.length ≤ i.1.length := by
  unfold fBytes; split
  · simp only [List.length_take, List.length_drop]; omega
  · simp
theorem num_len (i : Rd) : (fNum i).2.1.length ≤ i.1.length := by
  unfold fNum; split
  · simp only [List.length_drop]; omega
  · simp
theorem piece_len (i : Rd) : (fPiece i).1.length ≤ i.1.length ∧ (fPiece i).2.1.length ≤ i.1.length := by
  have h1 := bytes_len (fNum i).2 (fNum i).1
  have h2 := num_len i
  unfold fPiece; omega
theorem opR_len (i : Rd) : (fOpR i).1.2.1.length ≤ i.1.length := by
  have h1 := bytes_len i 1
  have h2 := piece_len (fKind i).2
  have e : (fKind i).2 = (fBytes i 1).2 := rfl
  unfold fOpR
  simp only
  rw [e] at h2 ⊢
  omega
theorem fOpOk_zero : fOpOk zOp = false := rfl
theorem show_zero : fShowOp zOp = [] := rfl
theorem num_yes {i : Rd} (h : i.2 = true) (h2 : (fReadVar i.1).2 ≠ 0) : fNum i = ((fReadVar i.1).1, (i.1.drop (fReadVar i.1).2.toNat, true)) := by
  have := readVar_bound i.1
  unfold fNum; rw [if_pos ⟨h, by omega⟩]
theorem num_no {i : Rd} (h : (fReadVar i.1).2 = 0) : fNum i = (0, (i.1, false)) := by
  unfold fNum; rw [if_neg (by omega)]
theorem num_bad {i : Rd} (h : i.2 = false) : fNum i = (0, (i.1, false)) := by
  unfold fNum; rw [if_neg (by rw [h]; simp)]
theorem vars13_one (s : List UInt8) (p : Int) : fVars13 s p 1 = if p > s.length then ([], -1) else if (fReadVar (s.drop p.toNat)).2 = 0 then ([], -1) else ([(fReadVar (s.drop p.toNat)).1], p + (fReadVar (s.drop p.toNat)).2) := rfl
/-- Two codes read: as the program's reader reads them. -/
theorem vars13_two {s : List UInt8} {p : Int} (hp : 0 ≤ p) (hl : p ≤ s.length) :
    ((fVars13 s p 2).2 < 0 ∧ (fNum (fNum (s.drop p.toNat, true)).2).2.2 = false) ∨
    ((fVars13 s p 2).2 ≥ 0 ∧ (fVars13 s p 2).1 = [(fNum (s.drop p.toNat, true)).1, (fNum (fNum (s.drop p.toNat, true)).2).1] ∧ (fVars13 s p 2).2 ≤ s.length ∧
      (fNum (fNum (s.drop p.toNat, true)).2).2 = (s.drop (fVars13 s p 2).2.toNat, true) ∧
      s.drop p.toNat = fVar (fNum (s.drop p.toNat, true)).1 ++ (fVar (fNum (fNum (s.drop p.toNat, true)).2).1 ++ s.drop (fVars13 s p 2).2.toNat)) := by
  have hv : fVars13 s p 2 = if p > s.length then ([], -1) else if (fReadVar (s.drop p.toNat)).2 = 0 then ([], -1) else if p + (fReadVar (s.drop p.toNat)).2 > s.length then ([(fReadVar (s.drop p.toNat)).1], -1) else if (fReadVar (s.drop (p + (fReadVar (s.drop p.toNat)).2).toNat)).2 = 0 then ([(fReadVar (s.drop p.toNat)).1], -1) else ([(fReadVar (s.drop p.toNat)).1, (fReadVar (s.drop (p + (fReadVar (s.drop p.toNat)).2).toNat)).1], p + (fReadVar (s.drop p.toNat)).2 + (fReadVar (s.drop (p + (fReadVar (s.drop p.toNat)).2).toNat)).2) := rfl
  have hb := readVar_bound (s.drop p.toNat)
  rw [List.length_drop] at hb
  rw [if_neg (by omega)] at hv
  by_cases h1 : (fReadVar (s.drop p.toNat)).2 = 0
  · rw [if_pos h1] at hv
    left
    refine ⟨by rw [hv]; simp, ?_⟩
    rw [num_no (i := (s.drop p.toNat, true)) h1, num_bad rfl]
  rw [if_neg h1, if_neg (by omega)] at hv
  have n1 := num_yes (i := (s.drop p.toNat, true)) rfl h1
  simp only at n1
  obtain ⟨t1, t2⟩ := rv_take h1
  have ed : (s.drop p.toNat).drop (fReadVar (s.drop p.toNat)).2.toNat = s.drop (p + (fReadVar (s.drop p.toNat)).2).toNat := by
    rw [List.drop_drop]; congr 1; omega
  rw [ed] at n1
  have hb2 := readVar_bound (s.drop (p + (fReadVar (s.drop p.toNat)).2).toNat)
  rw [List.length_drop] at hb2
  by_cases h2 : (fReadVar (s.drop (p + (fReadVar (s.drop p.toNat)).2).toNat)).2 = 0
  · rw [if_pos h2] at hv
    left
    refine ⟨by rw [hv]; simp, ?_⟩
    rw [n1, num_no h2]
  rw [if_neg h2] at hv
  right
  have n2 := num_yes (i := (s.drop (p + (fReadVar (s.drop p.toNat)).2).toNat, true)) rfl h2
  simp only at n2
  obtain ⟨t3, t4⟩ := rv_take h2
  rw [n1, hv]
  simp only
  rw [n2]
  simp only
  have ed2 : (s.drop (p + (fReadVar (s.drop p.toNat)).2).toNat).drop (fReadVar (s.drop (p + (fReadVar (s.drop p.toNat)).2).toNat)).2.toNat = s.drop (p + (fReadVar (s.drop p.toNat)).2 + (fReadVar (s.drop (p + (fReadVar (s.drop p.toNat)).2).toNat)).2).toNat := by
    rw [List.drop_drop]; congr 1; omega
  rw [ed2]
  refine ⟨by omega, trivial, by omega, rfl, ?_⟩
  rw [← t1, ← t3, ← ed2, List.take_append_drop, ← ed, List.take_append_drop]
def c_impl_ReadOp : Con := { io := false, I := .unit, ownI := [], A := .str, shA := [.one], ownA := [], backA := [], B := .unit, R := (.pair (.pair (.int .i64) (.pair .str (.pair (.int .i64) (.pair (.int .i64) .str)))) .bool), shR := [(true, 5), (false, 1)], fresh := [], newR := false, pre := fun _ a => (pStr a), f := some fun _ a => ((fReadOp a), ((), ())) }
def impl_ReadOp.F  (a0 : (List UInt8)) : Prop := (True ∧ ∀ (r1 : (Int × ((List UInt8) × (Int × (Int × (List UInt8))))) × (((List UInt8) × Bool) × Unit)), ((r1 : (Int × ((List UInt8) × (Int × (Int × (List UInt8))))) × (((List UInt8) × Bool) × Unit)) = ((fOpR (a0, true)).1, ((fOpR (a0, true)).2, ()))) → (caseB (!r1.2.1.2) (((((0, ([], (0, (0, [])))), false), ((), ())) : ((Int × ((List UInt8) × (Int × (Int × (List UInt8))))) × Bool) × (Unit × Unit)) = ((fReadOp a0), ((), ()))) ((pOp (r1.1.1, (r1.1.2.1, (r1.1.2.2.1, (r1.1.2.2.2.1, r1.1.2.2.2.2))))) ∧ ∀ (r2 : (List UInt8) × (Unit × Unit)), ((r2 : (List UInt8) × (Unit × Unit)) = ((fShowOp (r1.1.1, (r1.1.2.1, (r1.1.2.2.1, (r1.1.2.2.2.1, r1.1.2.2.2.2))))), ((), ()))) → (caseB (!(r2.1 == a0)) (((((0, ([], (0, (0, [])))), false), ((), ())) : ((Int × ((List UInt8) × (Int × (Int × (List UInt8))))) × Bool) × (Unit × Unit)) = ((fReadOp a0), ((), ()))) (((((r1.1.1, (r1.1.2.1, (r1.1.2.2.1, (r1.1.2.2.2.1, r1.1.2.2.2.2)))), true), ((), ())) : ((Int × ((List UInt8) × (Int × (Int × (List UInt8))))) × Bool) × (Unit × Unit)) = ((fReadOp a0), ((), ())))))))
def impl_ReadOp.L  (a0 : (List UInt8)) : Nat → Option LoopAnn := fun p => Go.Proofs.Ythjlommbnfooaaa.Bv.look p []

theorem impl_ReadOp.pure  (a0 : (List UInt8)) (h : (pStr a0)) (hw : Wf c_impl_ReadOp.A a0) : impl_ReadOp.F a0 := by
  unfold impl_ReadOp.F
  simp only [forall_eq, true_and, and_true, caseB_iff, Prod.mk.injEq, decide_eq_true_eq, decide_eq_false_iff_not, Bool.not_eq_true', Bool.not_eq_false', bne_iff_ne, ne_eq, beq_iff_eq, Bool.not_true, Bool.not_false, beq_eq_false_iff_ne, bne_eq_false_iff_eq, List.length_append, List.length_cons, List.length_nil, List.append_nil, Nat.zero_add, decide_true, decide_false, eq_self_iff_true, Prod.eta]
  have hl : a0.length ≤ maxLen := h
  have ho := opR_len (a0, true)
  refine ⟨fun h1 => ?_, fun h1 => ⟨by unfold pOp; simp only at ho; omega, fun h2 => ?_, fun h2 => ?_⟩⟩
  · unfold fReadOp; rw [if_neg (by rw [h1]; simp)]; rfl
  · unfold fReadOp; rw [if_neg (fun h => h2 h.2)]; rfl
  · unfold fReadOp; rw [if_pos ⟨h1, h2⟩]

set_option maxRecDepth 100000 in
theorem impl_ReadOp.eq (i : El c_impl_ReadOp.I) (x : El c_impl_ReadOp.A) : vc tab (gam [(40, c_impl_ShowOp), (115, c_impl_rd_op)] [] eqs) (impl_ReadOp.L x) (match Try.f46.body with | some c => c | none => .skip) 1 (initSt c_impl_ReadOp Try.f46.ntmps i x) (bodyK tab c_impl_ReadOp Try.f46.results.toList [63, 4] i x) = impl_ReadOp.F x := by kernel_rfl
theorem impl_ReadOp.ok : ConOk Try.prog 46 c_impl_ReadOp :=
  conOk_of_eq (con := c_impl_ReadOp) (tab := tab) (Γ := (gam [(40, c_impl_ShowOp), (115, c_impl_rd_op)] [] eqs)) (fn := Try.f46) (c := (match Try.f46.body with | some c => c | none => .skip)) (fun i x => impl_ReadOp.L x) (fun i x => impl_ReadOp.F x) rfl tabOk (gam_cons ⟨_, Try.func40, rfl, rfl⟩ impl_ShowOp.ok (gam_cons ⟨_, Try.func115, rfl, rfl⟩ impl_rd_op.ok (gam_nil _ [] eqsOk))) Try.func46 rfl [63, 4] (by kernel_rfl) impl_ReadOp.eq fun i x h hi hw => impl_ReadOp.pure x h hw

def c_impl_ReadCmd : Con := { io := false, I := .unit, ownI := [], A := .str, shA := [.one], ownA := [], backA := [], B := .unit, R := (.pair (.pair (.int .i64) (.pair (.int .i64) (.pair (.int .i64) (.pair .str (.pair (.int .i64) (.pair (.int .i64) .str)))))) .bool), shR := [(true, 7), (false, 1)], fresh := [], newR := false, pre := fun _ a => (pStr a), f := some fun _ a => ((fReadCmd a), ((), ())) }
def impl_ReadCmd.F  (a0 : (List UInt8)) : Prop := (True ∧ ∀ (r1 : Int × (((List UInt8) × Bool) × Unit)), ((r1 : Int × (((List UInt8) × Bool) × Unit)) = ((fNum (a0, true)).1, ((fNum (a0, true)).2, ()))) → (True ∧ ∀ (r2 : Int × (((List UInt8) × Bool) × Unit)), ((r2 : Int × (((List UInt8) × Bool) × Unit)) = ((fNum (r1.2.1.1, r1.2.1.2)).1, ((fNum (r1.2.1.1, r1.2.1.2)).2, ()))) → (True ∧ ∀ (r3 : (Int × ((List UInt8) × (Int × (Int × (List UInt8))))) × (((List UInt8) × Bool) × Unit)), ((r3 : (Int × ((List UInt8) × (Int × (Int × (List UInt8))))) × (((List UInt8) × Bool) × Unit)) = ((fOpR (r2.2.1.1, r2.2.1.2)).1, ((fOpR (r2.2.1.1, r2.2.1.2)).2, ()))) → (caseB (!r3.2.1.2) (((((0, (0, (0, ([], (0, (0, [])))))), false), ((), ())) : ((Int × (Int × (Int × ((List UInt8) × (Int × (Int × (List UInt8))))))) × Bool) × (Unit × Unit)) = ((fReadCmd a0), ((), ()))) ((pCmd (r1.1, (r2.1, (r3.1.1, (r3.1.2.1, (r3.1.2.2.1, (r3.1.2.2.2.1, r3.1.2.2.2.2))))))) ∧ ∀ (r4 : (List UInt8) × (Unit × Unit)), ((r4 : (List UInt8) × (Unit × Unit)) = ((fShowCmd (r1.1, (r2.1, (r3.1.1, (r3.1.2.1, (r3.1.2.2.1, (r3.1.2.2.2.1, r3.1.2.2.2.2))))))), ((), ()))) → (caseB (!(r4.1 == a0)) (((((0, (0, (0, ([], (0, (0, [])))))), false), ((), ())) : ((Int × (Int × (Int × ((List UInt8) × (Int × (Int × (List UInt8))))))) × Bool) × (Unit × Unit)) = ((fReadCmd a0), ((), ()))) (((((r1.1, (r2.1, (r3.1.1, (r3.1.2.1, (r3.1.2.2.1, (r3.1.2.2.2.1, r3.1.2.2.2.2)))))), true), ((), ())) : ((Int × (Int × (Int × ((List UInt8) × (Int × (Int × (List UInt8))))))) × Bool) × (Unit × Unit)) = ((fReadCmd a0), ((), ())))))))))
def impl_ReadCmd.L  (a0 : (List UInt8)) : Nat → Option LoopAnn := fun p => Go.Proofs.Ythjlommbnfooaaa.Bv.look p []

theorem impl_ReadCmd.pure  (a0 : (List UInt8)) (h : (pStr a0)) (hw : Wf c_impl_ReadCmd.A a0) : impl_ReadCmd.F a0 := by
  unfold impl_ReadCmd.F
  simp only [forall_eq, true_and, and_true, caseB_iff, Prod.mk.injEq, decide_eq_true_eq, decide_eq_false_iff_not, Bool.not_eq_true', Bool.not_eq_false', bne_iff_ne, ne_eq, beq_iff_eq, Bool.not_true, Bool.not_false, beq_eq_false_iff_ne, bne_eq_false_iff_eq, List.length_append, List.length_cons, List.length_nil, List.append_nil, Nat.zero_add, decide_true, decide_false, eq_self_iff_true, Prod.eta]
  have hl : a0.length ≤ maxLen := h
  have ho := opR_len (fNum (fNum (a0, true)).2).2
  have h4 := num_len (fNum (a0, true)).2
  have h5 := num_len (a0, true)
  refine ⟨fun h1 => ?_, fun h1 => ⟨by unfold pCmd; simp only at ho h4 h5 ⊢; omega, fun h2 => ?_, fun h2 => ?_⟩⟩
  · unfold fReadCmd; rw [if_neg (by rw [h1]; simp)]; rfl
  · unfold fReadCmd; rw [if_neg (fun h => h2 h.2)]; rfl
  · unfold fReadCmd; rw [if_pos ⟨h1, h2⟩]

set_option maxRecDepth 100000 in
theorem impl_ReadCmd.eq (i : El c_impl_ReadCmd.I) (x : El c_impl_ReadCmd.A) : vc tab (gam [(44, c_impl_ShowCmd), (115, c_impl_rd_op), (116, c_impl_rd_num)] [] eqs) (impl_ReadCmd.L x) (match Try.f51.body with | some c => c | none => .skip) 1 (initSt c_impl_ReadCmd Try.f51.ntmps i x) (bodyK tab c_impl_ReadCmd Try.f51.results.toList [72, 4] i x) = impl_ReadCmd.F x := by kernel_rfl
theorem impl_ReadCmd.ok : ConOk Try.prog 51 c_impl_ReadCmd :=
  conOk_of_eq (con := c_impl_ReadCmd) (tab := tab) (Γ := (gam [(44, c_impl_ShowCmd), (115, c_impl_rd_op), (116, c_impl_rd_num)] [] eqs)) (fn := Try.f51) (c := (match Try.f51.body with | some c => c | none => .skip)) (fun i x => impl_ReadCmd.L x) (fun i x => impl_ReadCmd.F x) rfl tabOk (gam_cons ⟨_, Try.func44, rfl, rfl⟩ impl_ShowCmd.ok (gam_cons ⟨_, Try.func115, rfl, rfl⟩ impl_rd_op.ok (gam_cons ⟨_, Try.func116, rfl, rfl⟩ impl_rd_num.ok (gam_nil _ [] eqsOk)))) Try.func51 rfl [72, 4] (by kernel_rfl) impl_ReadCmd.eq fun i x h hi hw => impl_ReadCmd.pure x h hw

theorem opR_bad {i : Rd} (h : (fPiece (fKind i).2).2.2 = false) : (fOpR i).2.2 = false := by
  show (fNum (fNum (fPiece (fKind i).2).2).2).2.2 = false
  rw [num_bad h, num_bad rfl]
theorem readOp_bad {s : List UInt8} (h : (fOpR (s, true)).2.2 = false) : (zOp, false) = fReadOp s := by
  unfold fReadOp; rw [if_neg (by rw [h]; simp)]
theorem kind_at {s : List UInt8} (h : 1 ≤ s.length) : fKind (s, true) = (((s.getD 0 0).toNat : Int), (s.drop 1, true)) := by
  unfold fKind fBytes
  rw [if_pos ⟨rfl, by simp only; omega⟩]
  cases s with
  | nil => simp at h
  | cons a r => rfl
theorem kind_no {s : List UInt8} (h : ¬ 1 ≤ s.length) : (fKind (s, true)).2 = (s, false) := by
  unfold fKind fBytes
  rw [if_neg (by simp only; omega)]
theorem piece_bad {i : Rd} (h : i.2 = false) : (fPiece i).2.2 = false := by
  unfold fPiece fBytes; rw [num_bad h, if_neg (by simp)]
theorem piece_at {s : List UInt8} (h : (fReadVar s).2 ≠ 0) : fPiece (s, true) = if (fReadVar s).1 ≤ (s.length : Int) - (fReadVar s).2 then ((s.drop (fReadVar s).2.toNat).take (fReadVar s).1.toNat, (s.drop ((fReadVar s).2 + (fReadVar s).1).toNat, true)) else ([], (s.drop (fReadVar s).2.toNat, false)) := by
  have hb := readVar_bound s
  unfold fPiece
  rw [num_yes (i := (s, true)) rfl h]
  unfold fBytes
  simp only [List.length_drop]
  by_cases hc : (fReadVar s).1 ≤ (s.length : Int) - (fReadVar s).2
  · rw [if_pos hc, if_pos ⟨trivial, by omega⟩, List.drop_drop]
    rw [show (fReadVar s).2.toNat + (fReadVar s).1.toNat = ((fReadVar s).2 + (fReadVar s).1).toNat by omega]
  · rw [if_neg hc, if_neg (by omega)]
theorem piece_no {s : List UInt8} (h : (fReadVar s).2 = 0) : (fPiece (s, true)).2.2 = false := by
  unfold fPiece; rw [num_no (i := (s, true)) h]; unfold fBytes; rw [if_neg (by simp)]
theorem drop_take_swap (s : List UInt8) (a b : Nat) : (s.take (a + b)).drop a = (s.drop a).take b := by
  rw [List.drop_take]; congr 1; omega
def c_spec_ReadOp : Con := { io := false, I := .unit, ownI := [], A := .str, shA := [.one], ownA := [], backA := [], B := .unit, R := (.pair (.pair (.int .i64) (.pair .str (.pair (.int .i64) (.pair (.int .i64) .str)))) .bool), shR := [(true, 5), (false, 1)], fresh := [], newR := false, pre := fun _ a => (pStr a), f := some fun _ a => ((fReadOp a), ((), ())) }
def spec_ReadOp.F  (a0 : (List UInt8)) : Prop := ((p13 a0 1 1) ∧ ∀ (r1 : ((List Int) × Int) × (Unit × Unit)), ((r1 : ((List Int) × Int) × (Unit × Unit)) = ((fVars13 a0 1 1), ((), ()))) → (caseB (decide (r1.1.2 < (0 : Int))) (((((0, ([], (0, (0, [])))), false), ((), ())) : ((Int × ((List UInt8) × (Int × (Int × (List UInt8))))) × Bool) × (Unit × Unit)) = ((fReadOp a0), ((), ()))) (0 ≤ (0 : Int) ∧ ((0 : Int) < ((List.length r1.1.1 : Nat) : Int) ∧ (caseB (decide ((List.getD r1.1.1 (Int.toNat (0 : Int)) (0 : Int)) > (8 : Int))) (((((0, ([], (0, (0, [])))), false), ((), ())) : ((Int × ((List UInt8) × (Int × (Int × (List UInt8))))) × Bool) × (Unit × Unit)) = ((fReadOp a0), ((), ()))) (0 ≤ (0 : Int) ∧ ((0 : Int) < ((List.length r1.1.1 : Nat) : Int) ∧ (caseB (decide ((List.getD r1.1.1 (Int.toNat (0 : Int)) (0 : Int)) > (IntKind.wrap .i64 (((List.length a0 : Nat) : Int) - r1.1.2)))) (((((0, ([], (0, (0, [])))), false), ((), ())) : ((Int × ((List UInt8) × (Int × (Int × (List UInt8))))) × Bool) × (Unit × Unit)) = ((fReadOp a0), ((), ()))) (0 ≤ (0 : Int) ∧ ((0 : Int) < ((List.length r1.1.1 : Nat) : Int) ∧ ((p13 a0 (IntKind.wrap .i64 (r1.1.2 + (List.getD r1.1.1 (Int.toNat (0 : Int)) (0 : Int)))) 2) ∧ ∀ (r2 : ((List Int) × Int) × (Unit × Unit)), ((r2 : ((List Int) × Int) × (Unit × Unit)) = ((fVars13 a0 (IntKind.wrap .i64 (r1.1.2 + (List.getD r1.1.1 (Int.toNat (0 : Int)) (0 : Int)))) 2), ((), ()))) → (caseB (decide (r2.1.2 < (0 : Int))) (((((0, ([], (0, (0, [])))), false), ((), ())) : ((Int × ((List UInt8) × (Int × (Int × (List UInt8))))) × Bool) × (Unit × Unit)) = ((fReadOp a0), ((), ()))) (0 ≤ (0 : Int) ∧ ((0 : Int) < ((List.length a0 : Nat) : Int) ∧ (0 ≤ (0 : Int) ∧ ((0 : Int) < ((List.length r1.1.1 : Nat) : Int) ∧ (0 ≤ r1.1.2 ∧ (r1.1.2 ≤ (IntKind.wrap .i64 (r1.1.2 + (List.getD r1.1.1 (Int.toNat (0 : Int)) (0 : Int)))) ∧ ((IntKind.wrap .i64 (r1.1.2 + (List.getD r1.1.1 (Int.toNat (0 : Int)) (0 : Int)))) ≤ ((List.length a0 : Nat) : Int) ∧ (0 ≤ (0 : Int) ∧ ((0 : Int) < ((List.length r2.1.1 : Nat) : Int) ∧ (0 ≤ (1 : Int) ∧ ((1 : Int) < ((List.length r2.1.1 : Nat) : Int) ∧ (0 ≤ r2.1.2 ∧ (r2.1.2 ≤ ((List.length a0 : Nat) : Int) ∧ ((pOp ((IntKind.wrap .i64 ((UInt8.toNat (List.getD a0 (Int.toNat (0 : Int)) 0) : Nat) : Int)), ((List.drop (Int.toNat r1.1.2) (List.take (Int.toNat (IntKind.wrap .i64 (r1.1.2 + (List.getD r1.1.1 (Int.toNat (0 : Int)) (0 : Int))))) a0)), ((List.getD r2.1.1 (Int.toNat (0 : Int)) (0 : Int)), ((List.getD r2.1.1 (Int.toNat (1 : Int)) (0 : Int)), (List.drop (Int.toNat r2.1.2) a0)))))) ∧ ∀ (r3 : (List UInt8) × (Unit × Unit)), ((r3 : (List UInt8) × (Unit × Unit)) = ((fShowOp ((IntKind.wrap .i64 ((UInt8.toNat (List.getD a0 (Int.toNat (0 : Int)) 0) : Nat) : Int)), ((List.drop (Int.toNat r1.1.2) (List.take (Int.toNat (IntKind.wrap .i64 (r1.1.2 + (List.getD r1.1.1 (Int.toNat (0 : Int)) (0 : Int))))) a0)), ((List.getD r2.1.1 (Int.toNat (0 : Int)) (0 : Int)), ((List.getD r2.1.1 (Int.toNat (1 : Int)) (0 : Int)), (List.drop (Int.toNat r2.1.2) a0)))))), ((), ()))) → (caseB (!(r3.1 == a0)) (((((0, ([], (0, (0, [])))), false), ((), ())) : ((Int × ((List UInt8) × (Int × (Int × (List UInt8))))) × Bool) × (Unit × Unit)) = ((fReadOp a0), ((), ()))) ((((((IntKind.wrap .i64 ((UInt8.toNat (List.getD a0 (Int.toNat (0 : Int)) 0) : Nat) : Int)), ((List.drop (Int.toNat r1.1.2) (List.take (Int.toNat (IntKind.wrap .i64 (r1.1.2 + (List.getD r1.1.1 (Int.toNat (0 : Int)) (0 : Int))))) a0)), ((List.getD r2.1.1 (Int.toNat (0 : Int)) (0 : Int)), ((List.getD r2.1.1 (Int.toNat (1 : Int)) (0 : Int)), (List.drop (Int.toNat r2.1.2) a0))))), true), ((), ())) : ((Int × ((List UInt8) × (Int × (Int × (List UInt8))))) × Bool) × (Unit × Unit)) = ((fReadOp a0), ((), ()))))))))))))))))))))))))))))))
def spec_ReadOp.L  (a0 : (List UInt8)) : Nat → Option LoopAnn := fun p => Go.Proofs.Ythjlommbnfooaaa.Bv.look p []

theorem spec_ReadOp.pure  (a0 : (List UInt8)) (h : (pStr a0)) (hw : Wf c_spec_ReadOp.A a0) : spec_ReadOp.F a0 := by
  unfold spec_ReadOp.F
  simp only [forall_eq, true_and, and_true, caseB_iff, Prod.mk.injEq, decide_eq_true_eq, decide_eq_false_iff_not, Bool.not_eq_true', Bool.not_eq_false', bne_iff_ne, ne_eq, beq_iff_eq, Bool.not_true, Bool.not_false, beq_eq_false_iff_ne, bne_eq_false_iff_eq, List.length_append, List.length_cons, List.length_nil, List.append_nil, Nat.zero_add, decide_true, decide_false, eq_self_iff_true, Prod.eta]
  have hl : a0.length ≤ maxLen := h
  have hl2 := hl
  unfold maxLen at hl
  have ez : ((0, [], 0, 0, []) : Op) = zOp := rfl
  rw [ez]
  have h13 := vars13_one a0 1
  rw [show (1 : Int).toNat = 1 from rfl] at h13
  by_cases h0 : 1 ≤ a0.length
  · rw [if_neg (by omega)] at h13
    have hb := readVar_bound (a0.drop 1)
    rw [List.length_drop] at hb
    by_cases h1 : (fReadVar (a0.drop 1)).2 = 0
    · rw [if_pos h1] at h13
      rw [h13]
      exact ⟨⟨hl2, by omega, by omega, by omega⟩, fun _ => readOp_bad (opR_bad (by rw [kind_at h0]; exact piece_no h1)), fun hn => absurd (by decide : (-1 : Int) < 0) hn⟩
    · rw [if_neg h1] at h13
      rw [h13]
      have hpc := piece_at h1
      rw [List.length_drop] at hpc
      generalize (fReadVar (a0.drop 1)).1 = n at *
      generalize (fReadVar (a0.drop 1)).2 = k at *
      simp only [show ([n] : List Int).getD (Int.toNat 0) 0 = n from rfl, List.length_cons, List.length_nil]
      rw [w64 (x := (a0.length : Int) - (1 + k)) (by omega) (by omega)]
      refine ⟨⟨hl2, by omega, by omega, by omega⟩, fun hn => by omega, fun _ => ⟨by omega, by omega, fun h8 => ?_, fun h8 => ⟨by omega, by omega, fun hn => ?_, fun hn => ?_⟩⟩⟩
      · by_cases hc : n ≤ ((a0.length - 1 : Nat) : Int) - k
        · rw [if_pos hc] at hpc
          unfold fReadOp
          rw [if_neg]
          rintro ⟨_, hs⟩
          have hk : (fOpR (a0, true)).1.2.1.length = n.toNat := by
            show (fPiece (fKind (a0, true)).2).1.length = n.toNat
            rw [kind_at h0, hpc]; simp only [List.length_take, List.length_drop]; omega
          unfold fShowOp at hs
          split at hs
          · rename_i ho; have := (fOpOk_len _ ho).1; omega
          · rw [← hs] at h0; simp at h0
        · rw [if_neg hc] at hpc
          exact readOp_bad (opR_bad (by rw [kind_at h0, hpc]))
      · rw [if_neg (by omega)] at hpc
        exact readOp_bad (opR_bad (by rw [kind_at h0, hpc]))
      · rw [if_pos (by omega)] at hpc
        rw [w64 (x := 1 + k + n) (by omega) (by omega), w64 (x := ((a0.getD (Int.toNat 0) 0).toNat : Int)) (by have := kind_le a0; rw [show Int.toNat 0 = 0 from rfl]; omega) (by have := kind_le a0; rw [show Int.toNat 0 = 0 from rfl]; omega)]
        have ed : (a0.drop 1).drop (k + n).toNat = a0.drop (1 + k + n).toNat := by rw [List.drop_drop]; congr 1; omega
        rw [ed] at hpc
        have eo : fOpR (a0, true) = ((((a0.getD 0 0).toNat : Int), (((a0.drop 1).drop k.toNat).take n.toNat, ((fNum (a0.drop (1 + k + n).toNat, true)).1, ((fNum (fNum (a0.drop (1 + k + n).toNat, true)).2).1, (fNum (fNum (a0.drop (1 + k + n).toNat, true)).2).2.1)))), (fNum (fNum (a0.drop (1 + k + n).toNat, true)).2).2) := by
          unfold fOpR; rw [kind_at h0, hpc]
        have h2 := vars13_two (s := a0) (p := 1 + k + n) (by omega) (by omega)
        refine ⟨by omega, by omega, ⟨hl2, by omega, by omega, by omega⟩, fun hv => ?_, fun hv => ?_⟩
        · rcases h2 with ⟨_, h3⟩ | ⟨h3, _⟩
          · exact readOp_bad (by rw [eo]; exact h3)
          · omega
        · rcases h2 with ⟨h3, _⟩ | ⟨h3, h4, h5, h6, h7⟩
          · exact absurd h3 hv
          · rw [h6] at eo
            rw [h4]
            simp only [List.length_cons, List.length_nil]
            have ek : List.drop (1 + k).toNat (List.take (1 + k + n).toNat a0) = ((a0.drop 1).drop k.toNat).take n.toNat := by
              rw [show (1 + k + n).toNat = (1 + k).toNat + n.toNat by omega, drop_take_swap, List.drop_drop, show (1 + k).toNat = 1 + k.toNat by omega]
            rw [ek]
            simp only [show ∀ x y : Int, ([x, y] : List Int).getD (Int.toNat 0) 0 = x from fun _ _ => rfl, show ∀ x y : Int, ([x, y] : List Int).getD (Int.toNat 1) 0 = y from fun _ _ => rfl, show Int.toNat 0 = 0 from rfl]
            refine ⟨by omega, by omega, by omega, by omega, by omega, by omega, by omega, by omega, by omega, by omega, by omega, by omega, by omega, ?_, fun hs => ?_, fun hs => ?_⟩
            · unfold pOp; simp only [List.length_take, List.length_drop]; omega
            · unfold fReadOp; rw [eo, if_neg (fun h => hs h.2)]
            · unfold fReadOp; rw [eo, if_pos ⟨rfl, hs⟩]; rfl
  · rw [if_pos (by omega)] at h13
    rw [h13]
    exact ⟨⟨hl2, by omega, by omega, by omega⟩, fun _ => readOp_bad (opR_bad (by rw [kind_no h0]; exact piece_bad rfl)), fun hn => absurd (by decide : (-1 : Int) < 0) hn⟩

set_option maxRecDepth 100000 in
theorem spec_ReadOp.eq (i : El c_spec_ReadOp.I) (x : El c_spec_ReadOp.A) : vc tab (gam [(39, c_spec_ShowOp), (114, c_spec_l13Vars)] [] eqs) (spec_ReadOp.L x) (match Try.f45.body with | some c => c | none => .skip) 1 (initSt c_spec_ReadOp Try.f45.ntmps i x) (bodyK tab c_spec_ReadOp Try.f45.results.toList [63, 4] i x) = spec_ReadOp.F x := by kernel_rfl
theorem spec_ReadOp.ok : ConOk Try.prog 45 c_spec_ReadOp :=
  conOk_of_eq (con := c_spec_ReadOp) (tab := tab) (Γ := (gam [(39, c_spec_ShowOp), (114, c_spec_l13Vars)] [] eqs)) (fn := Try.f45) (c := (match Try.f45.body with | some c => c | none => .skip)) (fun i x => spec_ReadOp.L x) (fun i x => spec_ReadOp.F x) rfl tabOk (gam_cons ⟨_, Try.func39, rfl, rfl⟩ spec_ShowOp.ok (gam_cons ⟨_, Try.func114, rfl, rfl⟩ spec_l13Vars.ok (gam_nil _ [] eqsOk))) Try.func45 rfl [63, 4] (by kernel_rfl) spec_ReadOp.eq fun i x h hi hw => spec_ReadOp.pure x h hw

theorem kind_bad {i : Rd} (h : i.2 = false) : (fKind i).2.2 = false := by
  unfold fKind fBytes; rw [if_neg (by rw [h]; simp)]
theorem opR_bad' {i : Rd} (h : i.2 = false) : (fOpR i).2.2 = false := opR_bad (piece_bad (kind_bad h))
def zCmd : Cmd := (0, (0, zOp))
theorem readCmd_bad {s : List UInt8} (h : (fNum (fNum (s, true)).2).2.2 = false) : (zCmd, false) = fReadCmd s := by
  unfold fReadCmd; rw [if_neg (by rw [opR_bad' h]; simp)]; rfl
theorem showCmd_zero (x y : Int) : fShowCmd (x, (y, zOp)) = [] := by
  unfold fShowCmd; rw [if_neg (by simp [fOpOk_zero])]
theorem readOp_yes {s : List UInt8} (h : (fOpR (s, true)).2.2 = true) (h2 : fShowOp (fOpR (s, true)).1 = s) : (fReadOp s).1 = (fOpR (s, true)).1 := by
  unfold fReadOp; rw [if_pos ⟨h, h2⟩]
theorem readOp_no {s : List UInt8} (h : ¬ ((fOpR (s, true)).2.2 = true ∧ fShowOp (fOpR (s, true)).1 = s)) : (fReadOp s).1 = zOp := by
  unfold fReadOp; rw [if_neg h]
theorem readOp_len (s : List UInt8) : (fReadOp s).1.2.1.length ≤ s.length := by
  by_cases h : (fOpR (s, true)).2.2 = true ∧ fShowOp (fOpR (s, true)).1 = s
  · rw [readOp_yes h.1 h.2]; exact opR_len (s, true)
  · rw [readOp_no h]; simp [zOp]
def c_spec_ReadCmd : Con := { io := false, I := .unit, ownI := [], A := .str, shA := [.one], ownA := [], backA := [], B := .unit, R := (.pair (.pair (.int .i64) (.pair (.int .i64) (.pair (.int .i64) (.pair .str (.pair (.int .i64) (.pair (.int .i64) .str)))))) .bool), shR := [(true, 7), (false, 1)], fresh := [], newR := false, pre := fun _ a => (pStr a), f := some fun _ a => ((fReadCmd a), ((), ())) }
def spec_ReadCmd.F  (a0 : (List UInt8)) : Prop := ((p13 a0 0 2) ∧ ∀ (r1 : ((List Int) × Int) × (Unit × Unit)), ((r1 : ((List Int) × Int) × (Unit × Unit)) = ((fVars13 a0 0 2), ((), ()))) → (caseB (decide (r1.1.2 < (0 : Int))) (((((0, (0, (0, ([], (0, (0, [])))))), false), ((), ())) : ((Int × (Int × (Int × ((List UInt8) × (Int × (Int × (List UInt8))))))) × Bool) × (Unit × Unit)) = ((fReadCmd a0), ((), ()))) (0 ≤ r1.1.2 ∧ (r1.1.2 ≤ ((List.length a0 : Nat) : Int) ∧ ((pStr (List.drop (Int.toNat r1.1.2) a0)) ∧ ∀ (r2 : ((Int × ((List UInt8) × (Int × (Int × (List UInt8))))) × Bool) × (Unit × Unit)), ((r2 : ((Int × ((List UInt8) × (Int × (Int × (List UInt8))))) × Bool) × (Unit × Unit)) = ((fReadOp (List.drop (Int.toNat r1.1.2) a0)), ((), ()))) → (0 ≤ (0 : Int) ∧ ((0 : Int) < ((List.length r1.1.1 : Nat) : Int) ∧ (0 ≤ (1 : Int) ∧ ((1 : Int) < ((List.length r1.1.1 : Nat) : Int) ∧ ((pCmd ((List.getD r1.1.1 (Int.toNat (0 : Int)) (0 : Int)), ((List.getD r1.1.1 (Int.toNat (1 : Int)) (0 : Int)), (r2.1.1.1, (r2.1.1.2.1, (r2.1.1.2.2.1, (r2.1.1.2.2.2.1, r2.1.1.2.2.2.2))))))) ∧ ∀ (r3 : (List UInt8) × (Unit × Unit)), ((r3 : (List UInt8) × (Unit × Unit)) = ((fShowCmd ((List.getD r1.1.1 (Int.toNat (0 : Int)) (0 : Int)), ((List.getD r1.1.1 (Int.toNat (1 : Int)) (0 : Int)), (r2.1.1.1, (r2.1.1.2.1, (r2.1.1.2.2.1, (r2.1.1.2.2.2.1, r2.1.1.2.2.2.2))))))), ((), ()))) → (caseB (!(r3.1 == a0)) (((((0, (0, (0, ([], (0, (0, [])))))), false), ((), ())) : ((Int × (Int × (Int × ((List UInt8) × (Int × (Int × (List UInt8))))))) × Bool) × (Unit × Unit)) = ((fReadCmd a0), ((), ()))) ((((((List.getD r1.1.1 (Int.toNat (0 : Int)) (0 : Int)), ((List.getD r1.1.1 (Int.toNat (1 : Int)) (0 : Int)), (r2.1.1.1, (r2.1.1.2.1, (r2.1.1.2.2.1, (r2.1.1.2.2.2.1, r2.1.1.2.2.2.2)))))), true), ((), ())) : ((Int × (Int × (Int × ((List UInt8) × (Int × (Int × (List UInt8))))))) × Bool) × (Unit × Unit)) = ((fReadCmd a0), ((), ()))))))))))))))
def spec_ReadCmd.L  (a0 : (List UInt8)) : Nat → Option LoopAnn := fun p => Go.Proofs.Ythjlommbnfooaaa.Bv.look p []

theorem spec_ReadCmd.pure  (a0 : (List UInt8)) (h : (pStr a0)) (hw : Wf c_spec_ReadCmd.A a0) : spec_ReadCmd.F a0 := by
  unfold spec_ReadCmd.F
  simp only [forall_eq, true_and, and_true, caseB_iff, Prod.mk.injEq, decide_eq_true_eq, decide_eq_false_iff_not, Bool.not_eq_true', Bool.not_eq_false', bne_iff_ne, ne_eq, beq_iff_eq, Bool.not_true, Bool.not_false, beq_eq_false_iff_ne, bne_eq_false_iff_eq, List.length_append, List.length_cons, List.length_nil, List.append_nil, Nat.zero_add, decide_true, decide_false, eq_self_iff_true, Prod.eta]
  have hl : a0.length ≤ maxLen := h
  have hl2 := hl
  unfold maxLen at hl
  have ez : ((0, 0, 0, [], 0, 0, []) : Cmd) = zCmd := rfl
  rw [ez]
  have h2 := vars13_two (s := a0) (p := 0) (by omega) (by omega)
  rw [show (0 : Int).toNat = 0 from rfl, List.drop_zero] at h2
  refine ⟨⟨hl2, by omega, by omega, by omega⟩, fun hv => ?_, fun hv => ?_⟩
  · rcases h2 with ⟨_, h3⟩ | ⟨h3, _⟩
    · exact readCmd_bad h3
    · omega
  rcases h2 with ⟨h3, _⟩ | ⟨h3, h4, h5, h6, h7⟩
  · exact absurd h3 hv
  have hne : a0 ≠ [] := fun e => by
    have hb := readVar_bound ([] : List UInt8)
    have h0 : (fReadVar ([] : List UInt8)).2 = 0 := by simp only [List.length_nil] at hb; omega
    rw [e, num_no (i := ([], true)) h0, num_bad rfl] at h6
    cases h6
  have ec : fReadCmd a0 = if (fOpR (a0.drop (fVars13 a0 0 2).2.toNat, true)).2.2 = true ∧ fShowCmd ((fNum (a0, true)).1, ((fNum (fNum (a0, true)).2).1, (fOpR (a0.drop (fVars13 a0 0 2).2.toNat, true)).1)) = a0 then (((fNum (a0, true)).1, ((fNum (fNum (a0, true)).2).1, (fOpR (a0.drop (fVars13 a0 0 2).2.toNat, true)).1)), true) else (zCmd, false) := by
    unfold fReadCmd; rw [h6]; rfl
  rw [h4, ec]
  have hro := readOp_len (a0.drop (fVars13 a0 0 2).2.toNat)
  rw [List.length_drop] at hro
  generalize (fVars13 a0 0 2).2 = p at *
  generalize (fNum (fNum (a0, true)).2).1 = y at *
  generalize (fNum (a0, true)).1 = x at *
  simp only [List.length_cons, List.length_nil, show ∀ x y : Int, ([x, y] : List Int).getD (Int.toNat 0) 0 = x from fun _ _ => rfl, show ∀ x y : Int, ([x, y] : List Int).getD (Int.toNat 1) 0 = y from fun _ _ => rfl]
  refine ⟨by omega, by omega, by unfold pStr maxLen; rw [List.length_drop]; omega, by omega, by omega, by omega, by omega, by unfold pCmd maxLen; simp only; omega, ?_⟩
  by_cases hc : (fOpR (a0.drop p.toNat, true)).2.2 = true ∧ fShowOp (fOpR (a0.drop p.toNat, true)).1 = a0.drop p.toNat
  · rw [readOp_yes hc.1 hc.2]
    exact ⟨fun hs => by rw [if_neg (fun h => hs h.2)], fun hs => by rw [if_pos ⟨hc.1, hs⟩]⟩
  · rw [readOp_no hc, showCmd_zero]
    refine ⟨fun _ => ?_, fun hs => absurd hs.symm hne⟩
    rw [if_neg]
    rintro ⟨k1, k2⟩
    apply hc
    refine ⟨k1, ?_⟩
    unfold fShowCmd at k2
    split at k2
    · rw [List.append_assoc] at k2
      have k3 := k2.trans h7
      exact List.append_cancel_left (List.append_cancel_left k3)
    · exact absurd k2.symm hne

set_option maxRecDepth 100000 in
theorem spec_ReadCmd.eq (i : El c_spec_ReadCmd.I) (x : El c_spec_ReadCmd.A) : vc tab (gam [(42, c_spec_ShowCmd), (45, c_spec_ReadOp), (114, c_spec_l13Vars)] [] eqs) (spec_ReadCmd.L x) (match Try.f50.body with | some c => c | none => .skip) 1 (initSt c_spec_ReadCmd Try.f50.ntmps i x) (bodyK tab c_spec_ReadCmd Try.f50.results.toList [72, 4] i x) = spec_ReadCmd.F x := by kernel_rfl
theorem spec_ReadCmd.ok : ConOk Try.prog 50 c_spec_ReadCmd :=
  conOk_of_eq (con := c_spec_ReadCmd) (tab := tab) (Γ := (gam [(42, c_spec_ShowCmd), (45, c_spec_ReadOp), (114, c_spec_l13Vars)] [] eqs)) (fn := Try.f50) (c := (match Try.f50.body with | some c => c | none => .skip)) (fun i x => spec_ReadCmd.L x) (fun i x => spec_ReadCmd.F x) rfl tabOk (gam_cons ⟨_, Try.func42, rfl, rfl⟩ spec_ShowCmd.ok (gam_cons ⟨_, Try.func45, rfl, rfl⟩ spec_ReadOp.ok (gam_cons ⟨_, Try.func114, rfl, rfl⟩ spec_l13Vars.ok (gam_nil _ [] eqsOk)))) Try.func50 rfl [72, 4] (by kernel_rfl) spec_ReadCmd.eq fun i x h hi hw => spec_ReadCmd.pure x h hw

end Go.Proofs.Ythjlommbnfooaaa.B
