/- Values of the type Cmd: how large, the same, marked. -/
import Derived.Test.YthjlommbnfooaaaCTypes
import Derived.Test.YthjlommbnfooaaaCTOp
namespace Go.Proofs.Ythjlommbnfooaaa.B
set_option linter.unusedVariables false
set_option linter.unusedSimpArgs false
open Go Go.Proofs.Ythjlommbnfooaaa.Bv

def n_Cmd (x : (Int × (Int × (Int × ((List UInt8) × (Int × (Int × (List UInt8)))))))) : Nat := (n_Op x.2.2)
def pSz_Cmd (x : (Int × (Int × (Int × ((List UInt8) × (Int × (Int × (List UInt8)))))))) (left : Int) : Prop := WfD (.pair (.int .i64) (.pair (.int .i64) (.pair (.int .i64) (.pair .str (.pair (.int .i64) (.pair (.int .i64) .str)))))) x ∧ 0 ≤ left ∧ left ≤ 1048576
def fSz_Cmd (x : (Int × (Int × (Int × ((List UInt8) × (Int × (Int × (List UInt8)))))))) (left : Int) : Int := fSz (n_Cmd x) left
def c_laws_szCmd : Con := { io := false, I := .unit, ownI := [], A := (.pair (.pair (.int .i64) (.pair (.int .i64) (.pair (.int .i64) (.pair .str (.pair (.int .i64) (.pair (.int .i64) .str)))))) (.int .i64)), shA := [.agg 7, .one], ownA := [], backA := [], B := .unit, R := (.int .i64), shR := [(false, 1)], fresh := [], newR := false, pre := fun _ a => (pSz_Cmd a.1 a.2), f := some fun _ a => ((fSz_Cmd a.1 a.2), ((), ())) }
def laws_szCmd.F  (a0 : (Int × (Int × (Int × ((List UInt8) × (Int × (Int × (List UInt8)))))))) (a1 : Int) : Prop := ((pSz_Op (a0.2.2.1, (a0.2.2.2.1, (a0.2.2.2.2.1, (a0.2.2.2.2.2.1, a0.2.2.2.2.2.2)))) a1) ∧ ∀ (r1 : Int × (Unit × Unit)), ((r1 : Int × (Unit × Unit)) = ((fSz_Op (a0.2.2.1, (a0.2.2.2.1, (a0.2.2.2.2.1, (a0.2.2.2.2.2.1, a0.2.2.2.2.2.2)))) a1), ((), ()))) → (caseB (decide (r1.1 < (0 : Int))) ((((-1), ((), ())) : Int × (Unit × Unit)) = ((fSz_Cmd a0 a1), ((), ()))) (((r1.1, ((), ())) : Int × (Unit × Unit)) = ((fSz_Cmd a0 a1), ((), ())))))
def laws_szCmd.L  (a0 : (Int × (Int × (Int × ((List UInt8) × (Int × (Int × (List UInt8)))))))) (a1 : Int) : Nat → Option LoopAnn := fun p => Go.Proofs.Ythjlommbnfooaaa.Bv.look p []

theorem laws_szCmd.pure  (a0 : (Int × (Int × (Int × ((List UInt8) × (Int × (Int × (List UInt8)))))))) (a1 : Int) (h : (pSz_Cmd a0 a1)) (hw : Wf c_laws_szCmd.A (a0, a1)) : laws_szCmd.F a0 a1 := by
  unfold laws_szCmd.F
  obtain ⟨hwf, p1, p2⟩ := h
  have w2 : WfD (.pair (.int .i64) (.pair .str (.pair (.int .i64) (.pair (.int .i64) .str)))) a0.2.2 := hwf.2.2
  simp only [forall_eq, true_and, and_true, caseB_iff, Prod.mk.injEq, decide_eq_true_eq, decide_eq_false_iff_not, Bool.not_eq_true', Bool.not_eq_false', bne_iff_ne, ne_eq, beq_iff_eq, Bool.not_true, Bool.not_false, beq_eq_false_iff_ne, bne_eq_false_iff_eq, List.length_append, List.length_cons, List.length_nil, List.append_nil, Nat.zero_add, decide_true, decide_false, eq_self_iff_true, n_Cmd, fSz_Cmd, pSz_Op, fSz_Op]
  repeat' (with_reducible (first | (refine And.intro ?_ ?_) | intro _))
  all_goals (try simp (disch := omega) only [w64, wu8, tn0, tn1, tm1, tm2, List.length_append, List.length_cons, List.length_nil] at *)
  all_goals (try simp (disch := omega) only [w64, wu8, tn0, tn1, tm1, tm2, List.length_append, List.length_cons, List.length_nil] at *)
  all_goals (try omega)
  all_goals (try grind [fSz])

set_option maxRecDepth 100000 in
theorem laws_szCmd.eq (i : El c_laws_szCmd.I) (x : El c_laws_szCmd.A) : vc tab (gam [(35, c_laws_szOp)] [] eqs) (laws_szCmd.L x.1 x.2) (match Try.f41.body with | some c => c | none => .skip) 1 (initSt c_laws_szCmd Try.f41.ntmps i x) (bodyK tab c_laws_szCmd Try.f41.results.toList [3] i x) = laws_szCmd.F x.1 x.2 := by kernel_rfl
theorem laws_szCmd.ok : ConOk Try.prog 41 c_laws_szCmd :=
  conOk_of_eq (con := c_laws_szCmd) (tab := tab) (Γ := (gam [(35, c_laws_szOp)] [] eqs)) (fn := Try.f41) (c := (match Try.f41.body with | some c => c | none => .skip)) (fun i x => laws_szCmd.L x.1 x.2) (fun i x => laws_szCmd.F x.1 x.2) rfl tabOk (gam_cons ⟨_, Try.func35, rfl, rfl⟩ laws_szOp.ok (gam_nil _ [] eqsOk)) Try.func41 rfl [3] (by kernel_rfl) laws_szCmd.eq fun i x h hi hw => laws_szCmd.pure x.1 x.2 h hw

def pTo_Cmd (x : (Int × (Int × (Int × ((List UInt8) × (Int × (Int × (List UInt8)))))))) : Prop := n_Cmd x ≤ 1048576
def fTo_Cmd (x : (Int × (Int × (Int × ((List UInt8) × (Int × (Int × (List UInt8)))))))) : (Int × (Int × (Int × ((List UInt8) × (Int × (Int × (List UInt8))))))) := x
def c_laws_toCmd : Con := { io := false, I := .unit, ownI := [], A := (.pair (.int .i64) (.pair (.int .i64) (.pair (.int .i64) (.pair .str (.pair (.int .i64) (.pair (.int .i64) .str)))))), shA := [.agg 7], ownA := [], backA := [], B := .unit, R := (.pair (.int .i64) (.pair (.int .i64) (.pair (.int .i64) (.pair .str (.pair (.int .i64) (.pair (.int .i64) .str)))))), shR := [(true, 7)], fresh := [], newR := false, pre := fun _ a => (pTo_Cmd a), f := some fun _ a => ((fTo_Cmd a), ((), ())) }
def laws_toCmd.F  (a0 : (Int × (Int × (Int × ((List UInt8) × (Int × (Int × (List UInt8)))))))) : Prop := ((pTo_Op (a0.2.2.1, (a0.2.2.2.1, (a0.2.2.2.2.1, (a0.2.2.2.2.2.1, a0.2.2.2.2.2.2))))) ∧ ∀ (r1 : (Int × ((List UInt8) × (Int × (Int × (List UInt8))))) × (Unit × Unit)), ((r1 : (Int × ((List UInt8) × (Int × (Int × (List UInt8))))) × (Unit × Unit)) = ((fTo_Op (a0.2.2.1, (a0.2.2.2.1, (a0.2.2.2.2.1, (a0.2.2.2.2.2.1, a0.2.2.2.2.2.2))))), ((), ()))) → ((((a0.1, (a0.2.1, (r1.1.1, (r1.1.2.1, (r1.1.2.2.1, (r1.1.2.2.2.1, r1.1.2.2.2.2)))))), ((), ())) : (Int × (Int × (Int × ((List UInt8) × (Int × (Int × (List UInt8))))))) × (Unit × Unit)) = ((fTo_Cmd a0), ((), ()))))
def laws_toCmd.L  (a0 : (Int × (Int × (Int × ((List UInt8) × (Int × (Int × (List UInt8)))))))) : Nat → Option LoopAnn := fun p => Go.Proofs.Ythjlommbnfooaaa.Bv.look p []

theorem laws_toCmd.pure  (a0 : (Int × (Int × (Int × ((List UInt8) × (Int × (Int × (List UInt8)))))))) (h : (pTo_Cmd a0)) (hw : Wf c_laws_toCmd.A a0) : laws_toCmd.F a0 := by
  unfold laws_toCmd.F
  have hp : n_Cmd a0 ≤ 1048576 := h
  simp only [n_Cmd] at hp
  simp only [forall_eq, true_and, and_true, caseB_iff, Prod.mk.injEq, decide_eq_true_eq, decide_eq_false_iff_not, Bool.not_eq_true', Bool.not_eq_false', bne_iff_ne, ne_eq, beq_iff_eq, Bool.not_true, Bool.not_false, beq_eq_false_iff_ne, bne_eq_false_iff_eq, List.length_append, List.length_cons, List.length_nil, List.append_nil, Nat.zero_add, decide_true, decide_false, eq_self_iff_true, n_Cmd, fTo_Cmd, pTo_Cmd, pTo_Op, fTo_Op]
  repeat' (with_reducible (first | (refine And.intro ?_ ?_) | intro _))
  all_goals (try simp (disch := omega) only [w64, wu8, tn0, tn1, tm1, tm2, List.length_append, List.length_cons, List.length_nil] at *)
  all_goals (try simp (disch := omega) only [w64, wu8, tn0, tn1, tm1, tm2, List.length_append, List.length_cons, List.length_nil] at *)
  all_goals (try omega)
  all_goals (try grind [])

set_option maxRecDepth 100000 in
theorem laws_toCmd.eq (i : El c_laws_toCmd.I) (x : El c_laws_toCmd.A) : vc tab (gam [(37, c_laws_toOp)] [] eqs) (laws_toCmd.L x) (match Try.f43.body with | some c => c | none => .skip) 1 (initSt c_laws_toCmd Try.f43.ntmps i x) (bodyK tab c_laws_toCmd Try.f43.results.toList [72] i x) = laws_toCmd.F x := by kernel_rfl
theorem laws_toCmd.ok : ConOk Try.prog 43 c_laws_toCmd :=
  conOk_of_eq (con := c_laws_toCmd) (tab := tab) (Γ := (gam [(37, c_laws_toOp)] [] eqs)) (fn := Try.f43) (c := (match Try.f43.body with | some c => c | none => .skip)) (fun i x => laws_toCmd.L x) (fun i x => laws_toCmd.F x) rfl tabOk (gam_cons ⟨_, Try.func37, rfl, rfl⟩ laws_toOp.ok (gam_nil _ [] eqsOk)) Try.func43 rfl [72] (by kernel_rfl) laws_toCmd.eq fun i x h hi hw => laws_toCmd.pure x h hw

instance dec_Cmd : DecidableEq (Int × (Int × (Int × ((List UInt8) × (Int × (Int × (List UInt8))))))) := by (iterate 20 (all_goals (first | infer_instance | refine @instDecidableEqProd _ _ ?_ ?_)))
def fEq_Cmd (a b : (Int × (Int × (Int × ((List UInt8) × (Int × (Int × (List UInt8)))))))) : Bool := decide (a = b)
def c_laws_eqCmd : Con := { io := false, I := .unit, ownI := [], A := (.pair (.pair (.int .i64) (.pair (.int .i64) (.pair (.int .i64) (.pair .str (.pair (.int .i64) (.pair (.int .i64) .str)))))) (.pair (.int .i64) (.pair (.int .i64) (.pair (.int .i64) (.pair .str (.pair (.int .i64) (.pair (.int .i64) .str))))))), shA := [.agg 7, .agg 7], ownA := [], backA := [], B := .unit, R := .bool, shR := [(false, 1)], fresh := [], newR := false, pre := fun _ a => True, f := some fun _ a => ((fEq_Cmd a.1 a.2), ((), ())) }
def laws_eqCmd.F  (a0 : (Int × (Int × (Int × ((List UInt8) × (Int × (Int × (List UInt8)))))))) (a1 : (Int × (Int × (Int × ((List UInt8) × (Int × (Int × (List UInt8)))))))) : Prop := (caseB (a0.1 != a1.1) (((false, ((), ())) : Bool × (Unit × Unit)) = ((fEq_Cmd a0 a1), ((), ()))) (caseB (a0.2.1 != a1.2.1) (((false, ((), ())) : Bool × (Unit × Unit)) = ((fEq_Cmd a0 a1), ((), ()))) (True ∧ ∀ (r1 : Bool × (Unit × Unit)), ((r1 : Bool × (Unit × Unit)) = ((fEq_Op (a0.2.2.1, (a0.2.2.2.1, (a0.2.2.2.2.1, (a0.2.2.2.2.2.1, a0.2.2.2.2.2.2)))) (a1.2.2.1, (a1.2.2.2.1, (a1.2.2.2.2.1, (a1.2.2.2.2.2.1, a1.2.2.2.2.2.2))))), ((), ()))) → (caseB (!r1.1) (((false, ((), ())) : Bool × (Unit × Unit)) = ((fEq_Cmd a0 a1), ((), ()))) (((true, ((), ())) : Bool × (Unit × Unit)) = ((fEq_Cmd a0 a1), ((), ())))))))
def laws_eqCmd.L  (a0 : (Int × (Int × (Int × ((List UInt8) × (Int × (Int × (List UInt8)))))))) (a1 : (Int × (Int × (Int × ((List UInt8) × (Int × (Int × (List UInt8)))))))) : Nat → Option LoopAnn := fun p => Go.Proofs.Ythjlommbnfooaaa.Bv.look p []

theorem laws_eqCmd.pure  (a0 : (Int × (Int × (Int × ((List UInt8) × (Int × (Int × (List UInt8)))))))) (a1 : (Int × (Int × (Int × ((List UInt8) × (Int × (Int × (List UInt8)))))))) (h : True) (hw : Wf c_laws_eqCmd.A (a0, a1)) : laws_eqCmd.F a0 a1 := by
  unfold laws_eqCmd.F
  obtain ⟨x1, x2, ⟨x3, x4, x5, x6, x7⟩⟩ := a0
  obtain ⟨y1, y2, ⟨y3, y4, y5, y6, y7⟩⟩ := a1
  simp only [forall_eq, true_and, and_true, caseB_iff, Prod.mk.injEq, decide_eq_true_eq, decide_eq_false_iff_not, Bool.not_eq_true', Bool.not_eq_false', bne_iff_ne, ne_eq, beq_iff_eq, Bool.not_true, Bool.not_false, beq_eq_false_iff_ne, bne_eq_false_iff_eq, List.length_append, List.length_cons, List.length_nil, List.append_nil, Nat.zero_add, decide_true, decide_false, eq_self_iff_true, fEq_Cmd, fEq_Op]
  repeat' (first | (refine And.intro ?_ ?_) | intro _)
  all_goals simp_all

set_option maxRecDepth 100000 in
theorem laws_eqCmd.eq (i : El c_laws_eqCmd.I) (x : El c_laws_eqCmd.A) : vc tab (gam [(47, c_laws_eqOp)] [] eqs) (laws_eqCmd.L x.1 x.2) (match Try.f52.body with | some c => c | none => .skip) 1 (initSt c_laws_eqCmd Try.f52.ntmps i x) (bodyK tab c_laws_eqCmd Try.f52.results.toList [4] i x) = laws_eqCmd.F x.1 x.2 := by kernel_rfl
theorem laws_eqCmd.ok : ConOk Try.prog 52 c_laws_eqCmd :=
  conOk_of_eq (con := c_laws_eqCmd) (tab := tab) (Γ := (gam [(47, c_laws_eqOp)] [] eqs)) (fn := Try.f52) (c := (match Try.f52.body with | some c => c | none => .skip)) (fun i x => laws_eqCmd.L x.1 x.2) (fun i x => laws_eqCmd.F x.1 x.2) rfl tabOk (gam_cons ⟨_, Try.func47, rfl, rfl⟩ laws_eqOp.ok (gam_nil _ [] eqsOk)) Try.func52 rfl [4] (by kernel_rfl) laws_eqCmd.eq fun i x h hi hw => laws_eqCmd.pure x.1 x.2 h hw

def c_mCmd (x : (Int × (Int × (Int × ((List UInt8) × (Int × (Int × (List UInt8)))))))) : Int := 1 + 1 + 1 + 1 + 1 + 1 + 1
def m_Cmd (x : (Int × (Int × (Int × ((List UInt8) × (Int × (Int × (List UInt8)))))))) (k : Int) : (Int × (Int × (Int × ((List UInt8) × (Int × (Int × (List UInt8))))))) := (k, (k + 1), (((k + 1) + 1), (fMT (((k + 1) + 1) + 1)), ((((k + 1) + 1) + 1) + 1), (((((k + 1) + 1) + 1) + 1) + 1), (fMT ((((((k + 1) + 1) + 1) + 1) + 1) + 1))))
def o_Cmd (x : (Int × (Int × (Int × ((List UInt8) × (Int × (Int × (List UInt8)))))))) (k : Int) : Bool := (decide (x.1 = k)) && (decide (x.2.1 = (k + 1))) && (decide (x.2.2.1 = ((k + 1) + 1))) && (decide (x.2.2.2.1 = fMT (((k + 1) + 1) + 1))) && (decide (x.2.2.2.2.1 = ((((k + 1) + 1) + 1) + 1))) && (decide (x.2.2.2.2.2.1 = (((((k + 1) + 1) + 1) + 1) + 1))) && (decide (x.2.2.2.2.2.2 = fMT ((((((k + 1) + 1) + 1) + 1) + 1) + 1)))
theorem ok_Cmd : ∀ (x : (Int × (Int × (Int × ((List UInt8) × (Int × (Int × (List UInt8)))))))) (k : Int), o_Cmd (m_Cmd x k) k = true ∧ c_mCmd (m_Cmd x k) = c_mCmd x := fun x k => by
  simp [o_Cmd, m_Cmd, c_mCmd]
theorem pos_Cmd : ∀ x : (Int × (Int × (Int × ((List UInt8) × (Int × (Int × (List UInt8))))))), 0 ≤ c_mCmd x := fun x => by
  unfold c_mCmd; omega
end Go.Proofs.Ythjlommbnfooaaa.B
