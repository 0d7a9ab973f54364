/- Values of the type Op: how large, the same, marked. -/
import Derived.Test.YthjlommbnfooaaaCTypes
namespace Go.Proofs.Ythjlommbnfooaaa.B
set_option linter.unusedVariables false
set_option linter.unusedSimpArgs false
open Go Go.Proofs.Ythjlommbnfooaaa.Bv

def n_Op (x : (Int × ((List UInt8) × (Int × (Int × (List UInt8)))))) : Nat := (x.2.1.length) + (x.2.2.2.2.length)
def pSz_Op (x : (Int × ((List UInt8) × (Int × (Int × (List UInt8)))))) (left : Int) : Prop := WfD (.pair (.int .i64) (.pair .str (.pair (.int .i64) (.pair (.int .i64) .str)))) x ∧ 0 ≤ left ∧ left ≤ 1048576
def fSz_Op (x : (Int × ((List UInt8) × (Int × (Int × (List UInt8)))))) (left : Int) : Int := fSz (n_Op x) left
def c_laws_szOp : Con := { io := false, I := .unit, ownI := [], A := (.pair (.pair (.int .i64) (.pair .str (.pair (.int .i64) (.pair (.int .i64) .str)))) (.int .i64)), shA := [.agg 5, .one], ownA := [], backA := [], B := .unit, R := (.int .i64), shR := [(false, 1)], fresh := [], newR := false, pre := fun _ a => (pSz_Op a.1 a.2), f := some fun _ a => ((fSz_Op a.1 a.2), ((), ())) }
def laws_szOp.F  (a0 : (Int × ((List UInt8) × (Int × (Int × (List UInt8)))))) (a1 : Int) : Prop := (caseB (decide ((IntKind.wrap .i64 (a1 - ((List.length a0.2.1 : Nat) : Int))) < (0 : Int))) ((((-1), ((), ())) : Int × (Unit × Unit)) = ((fSz_Op a0 a1), ((), ()))) (caseB (decide ((IntKind.wrap .i64 ((IntKind.wrap .i64 (a1 - ((List.length a0.2.1 : Nat) : Int))) - ((List.length a0.2.2.2.2 : Nat) : Int))) < (0 : Int))) ((((-1), ((), ())) : Int × (Unit × Unit)) = ((fSz_Op a0 a1), ((), ()))) ((((IntKind.wrap .i64 ((IntKind.wrap .i64 (a1 - ((List.length a0.2.1 : Nat) : Int))) - ((List.length a0.2.2.2.2 : Nat) : Int))), ((), ())) : Int × (Unit × Unit)) = ((fSz_Op a0 a1), ((), ())))))
def laws_szOp.L  (a0 : (Int × ((List UInt8) × (Int × (Int × (List UInt8)))))) (a1 : Int) : Nat → Option LoopAnn := fun p => Go.Proofs.Ythjlommbnfooaaa.Bv.look p []

theorem laws_szOp.pure  (a0 : (Int × ((List UInt8) × (Int × (Int × (List UInt8)))))) (a1 : Int) (h : (pSz_Op a0 a1)) (hw : Wf c_laws_szOp.A (a0, a1)) : laws_szOp.F a0 a1 := by
  unfold laws_szOp.F
  obtain ⟨hwf, p1, p2⟩ := h
  have w1 : a0.2.1.length ≤ 9223372036854775807 := hwf.2.1
  have w4 : a0.2.2.2.2.length ≤ 9223372036854775807 := hwf.2.2.2.2
  simp only [forall_eq, true_and, and_true, caseB_iff, Prod.mk.injEq, decide_eq_true_eq, decide_eq_false_iff_not, Bool.not_eq_true', Bool.not_eq_false', bne_iff_ne, ne_eq, beq_iff_eq, Bool.not_true, Bool.not_false, beq_eq_false_iff_ne, bne_eq_false_iff_eq, List.length_append, List.length_cons, List.length_nil, List.append_nil, Nat.zero_add, decide_true, decide_false, eq_self_iff_true, n_Op, fSz_Op]
  repeat' (with_reducible (first | (refine And.intro ?_ ?_) | intro _))
  all_goals (try simp (disch := omega) only [w64, wu8, tn0, tn1, tm1, tm2, List.length_append, List.length_cons, List.length_nil] at *)
  all_goals (try simp (disch := omega) only [w64, wu8, tn0, tn1, tm1, tm2, List.length_append, List.length_cons, List.length_nil] at *)
  all_goals (try omega)
  all_goals (try grind [fSz])

set_option maxRecDepth 100000 in
theorem laws_szOp.eq (i : El c_laws_szOp.I) (x : El c_laws_szOp.A) : vc tab (gam [] [] eqs) (laws_szOp.L x.1 x.2) (match Try.f35.body with | some c => c | none => .skip) 1 (initSt c_laws_szOp Try.f35.ntmps i x) (bodyK tab c_laws_szOp Try.f35.results.toList [3] i x) = laws_szOp.F x.1 x.2 := by kernel_rfl
theorem laws_szOp.ok : ConOk Try.prog 35 c_laws_szOp :=
  conOk_of_eq (con := c_laws_szOp) (tab := tab) (Γ := (gam [] [] eqs)) (fn := Try.f35) (c := (match Try.f35.body with | some c => c | none => .skip)) (fun i x => laws_szOp.L x.1 x.2) (fun i x => laws_szOp.F x.1 x.2) rfl tabOk (gam_nil _ [] eqsOk) Try.func35 rfl [3] (by kernel_rfl) laws_szOp.eq fun i x h hi hw => laws_szOp.pure x.1 x.2 h hw

def pTo_Op (x : (Int × ((List UInt8) × (Int × (Int × (List UInt8)))))) : Prop := n_Op x ≤ 1048576
def fTo_Op (x : (Int × ((List UInt8) × (Int × (Int × (List UInt8)))))) : (Int × ((List UInt8) × (Int × (Int × (List UInt8))))) := x
def c_laws_toOp : Con := { io := false, I := .unit, ownI := [], A := (.pair (.int .i64) (.pair .str (.pair (.int .i64) (.pair (.int .i64) .str)))), shA := [.agg 5], ownA := [], backA := [], B := .unit, R := (.pair (.int .i64) (.pair .str (.pair (.int .i64) (.pair (.int .i64) .str)))), shR := [(true, 5)], fresh := [], newR := false, pre := fun _ a => (pTo_Op a), f := some fun _ a => ((fTo_Op a), ((), ())) }
def laws_toOp.F  (a0 : (Int × ((List UInt8) × (Int × (Int × (List UInt8)))))) : Prop := ((((a0.1, (a0.2.1, (a0.2.2.1, (a0.2.2.2.1, a0.2.2.2.2)))), ((), ())) : (Int × ((List UInt8) × (Int × (Int × (List UInt8))))) × (Unit × Unit)) = ((fTo_Op a0), ((), ())))
def laws_toOp.L  (a0 : (Int × ((List UInt8) × (Int × (Int × (List UInt8)))))) : Nat → Option LoopAnn := fun p => Go.Proofs.Ythjlommbnfooaaa.Bv.look p []

theorem laws_toOp.pure  (a0 : (Int × ((List UInt8) × (Int × (Int × (List UInt8)))))) (h : (pTo_Op a0)) (hw : Wf c_laws_toOp.A a0) : laws_toOp.F a0 := by
  unfold laws_toOp.F
  have hp : n_Op a0 ≤ 1048576 := h
  simp only [n_Op] at hp
  simp only [forall_eq, true_and, and_true, caseB_iff, Prod.mk.injEq, decide_eq_true_eq, decide_eq_false_iff_not, Bool.not_eq_true', Bool.not_eq_false', bne_iff_ne, ne_eq, beq_iff_eq, Bool.not_true, Bool.not_false, beq_eq_false_iff_ne, bne_eq_false_iff_eq, List.length_append, List.length_cons, List.length_nil, List.append_nil, Nat.zero_add, decide_true, decide_false, eq_self_iff_true, n_Op, fTo_Op, pTo_Op]
  repeat' (with_reducible (first | (refine And.intro ?_ ?_) | intro _))
  all_goals (try simp (disch := omega) only [w64, wu8, tn0, tn1, tm1, tm2, List.length_append, List.length_cons, List.length_nil] at *)
  all_goals (try simp (disch := omega) only [w64, wu8, tn0, tn1, tm1, tm2, List.length_append, List.length_cons, List.length_nil] at *)
  all_goals (try omega)
  all_goals (try grind [])

set_option maxRecDepth 100000 in
theorem laws_toOp.eq (i : El c_laws_toOp.I) (x : El c_laws_toOp.A) : vc tab (gam [] [] eqs) (laws_toOp.L x) (match Try.f37.body with | some c => c | none => .skip) 1 (initSt c_laws_toOp Try.f37.ntmps i x) (bodyK tab c_laws_toOp Try.f37.results.toList [63] i x) = laws_toOp.F x := by kernel_rfl
theorem laws_toOp.ok : ConOk Try.prog 37 c_laws_toOp :=
  conOk_of_eq (con := c_laws_toOp) (tab := tab) (Γ := (gam [] [] eqs)) (fn := Try.f37) (c := (match Try.f37.body with | some c => c | none => .skip)) (fun i x => laws_toOp.L x) (fun i x => laws_toOp.F x) rfl tabOk (gam_nil _ [] eqsOk) Try.func37 rfl [63] (by kernel_rfl) laws_toOp.eq fun i x h hi hw => laws_toOp.pure x h hw

instance dec_Op : DecidableEq (Int × ((List UInt8) × (Int × (Int × (List UInt8))))) := by (iterate 20 (all_goals (first | infer_instance | refine @instDecidableEqProd _ _ ?_ ?_)))
def fEq_Op (a b : (Int × ((List UInt8) × (Int × (Int × (List UInt8)))))) : Bool := decide (a = b)
def c_laws_eqOp : Con := { io := false, I := .unit, ownI := [], A := (.pair (.pair (.int .i64) (.pair .str (.pair (.int .i64) (.pair (.int .i64) .str)))) (.pair (.int .i64) (.pair .str (.pair (.int .i64) (.pair (.int .i64) .str))))), shA := [.agg 5, .agg 5], ownA := [], backA := [], B := .unit, R := .bool, shR := [(false, 1)], fresh := [], newR := false, pre := fun _ a => True, f := some fun _ a => ((fEq_Op a.1 a.2), ((), ())) }
def laws_eqOp.F  (a0 : (Int × ((List UInt8) × (Int × (Int × (List UInt8)))))) (a1 : (Int × ((List UInt8) × (Int × (Int × (List UInt8)))))) : Prop := (caseB (a0.1 != a1.1) (((false, ((), ())) : Bool × (Unit × Unit)) = ((fEq_Op a0 a1), ((), ()))) (caseB (!(a0.2.1 == a1.2.1)) (((false, ((), ())) : Bool × (Unit × Unit)) = ((fEq_Op a0 a1), ((), ()))) (caseB (a0.2.2.1 != a1.2.2.1) (((false, ((), ())) : Bool × (Unit × Unit)) = ((fEq_Op a0 a1), ((), ()))) (caseB (a0.2.2.2.1 != a1.2.2.2.1) (((false, ((), ())) : Bool × (Unit × Unit)) = ((fEq_Op a0 a1), ((), ()))) (caseB (!(a0.2.2.2.2 == a1.2.2.2.2)) (((false, ((), ())) : Bool × (Unit × Unit)) = ((fEq_Op a0 a1), ((), ()))) (((true, ((), ())) : Bool × (Unit × Unit)) = ((fEq_Op a0 a1), ((), ()))))))))
def laws_eqOp.L  (a0 : (Int × ((List UInt8) × (Int × (Int × (List UInt8)))))) (a1 : (Int × ((List UInt8) × (Int × (Int × (List UInt8)))))) : Nat → Option LoopAnn := fun p => Go.Proofs.Ythjlommbnfooaaa.Bv.look p []

theorem laws_eqOp.pure  (a0 : (Int × ((List UInt8) × (Int × (Int × (List UInt8)))))) (a1 : (Int × ((List UInt8) × (Int × (Int × (List UInt8)))))) (h : True) (hw : Wf c_laws_eqOp.A (a0, a1)) : laws_eqOp.F a0 a1 := by
  unfold laws_eqOp.F
  obtain ⟨x1, x2, x3, x4, x5⟩ := a0
  obtain ⟨y1, y2, y3, y4, y5⟩ := a1
  simp only [forall_eq, true_and, and_true, caseB_iff, Prod.mk.injEq, decide_eq_true_eq, decide_eq_false_iff_not, Bool.not_eq_true', Bool.not_eq_false', bne_iff_ne, ne_eq, beq_iff_eq, Bool.not_true, Bool.not_false, beq_eq_false_iff_ne, bne_eq_false_iff_eq, List.length_append, List.length_cons, List.length_nil, List.append_nil, Nat.zero_add, decide_true, decide_false, eq_self_iff_true, fEq_Op]
  repeat' (first | (refine And.intro ?_ ?_) | intro _)
  all_goals simp_all

set_option maxRecDepth 100000 in
theorem laws_eqOp.eq (i : El c_laws_eqOp.I) (x : El c_laws_eqOp.A) : vc tab (gam [] [] eqs) (laws_eqOp.L x.1 x.2) (match Try.f47.body with | some c => c | none => .skip) 1 (initSt c_laws_eqOp Try.f47.ntmps i x) (bodyK tab c_laws_eqOp Try.f47.results.toList [4] i x) = laws_eqOp.F x.1 x.2 := by kernel_rfl
theorem laws_eqOp.ok : ConOk Try.prog 47 c_laws_eqOp :=
  conOk_of_eq (con := c_laws_eqOp) (tab := tab) (Γ := (gam [] [] eqs)) (fn := Try.f47) (c := (match Try.f47.body with | some c => c | none => .skip)) (fun i x => laws_eqOp.L x.1 x.2) (fun i x => laws_eqOp.F x.1 x.2) rfl tabOk (gam_nil _ [] eqsOk) Try.func47 rfl [4] (by kernel_rfl) laws_eqOp.eq fun i x h hi hw => laws_eqOp.pure x.1 x.2 h hw

def c_mOp (x : (Int × ((List UInt8) × (Int × (Int × (List UInt8)))))) : Int := 1 + 1 + 1 + 1 + 1
def m_Op (x : (Int × ((List UInt8) × (Int × (Int × (List UInt8)))))) (k : Int) : (Int × ((List UInt8) × (Int × (Int × (List UInt8))))) := (k, (fMT (k + 1)), ((k + 1) + 1), (((k + 1) + 1) + 1), (fMT ((((k + 1) + 1) + 1) + 1)))
def o_Op (x : (Int × ((List UInt8) × (Int × (Int × (List UInt8)))))) (k : Int) : Bool := (decide (x.1 = k)) && (decide (x.2.1 = fMT (k + 1))) && (decide (x.2.2.1 = ((k + 1) + 1))) && (decide (x.2.2.2.1 = (((k + 1) + 1) + 1))) && (decide (x.2.2.2.2 = fMT ((((k + 1) + 1) + 1) + 1)))
theorem ok_Op : ∀ (x : (Int × ((List UInt8) × (Int × (Int × (List UInt8)))))) (k : Int), o_Op (m_Op x k) k = true ∧ c_mOp (m_Op x k) = c_mOp x := fun x k => by
  simp [o_Op, m_Op, c_mOp]
theorem pos_Op : ∀ x : (Int × ((List UInt8) × (Int × (Int × (List UInt8))))), 0 ≤ c_mOp x := fun x => by
  unfold c_mOp; omega
end Go.Proofs.Ythjlommbnfooaaa.B
