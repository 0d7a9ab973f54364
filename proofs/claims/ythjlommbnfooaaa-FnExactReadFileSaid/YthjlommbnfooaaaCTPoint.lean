/- Values of the type Point: how large, the same, marked. -/
import Derived.Test.YthjlommbnfooaaaCTypes
namespace Go.Proofs.Ythjlommbnfooaaa.B
set_option linter.unusedVariables false
set_option linter.unusedSimpArgs false
open Go Go.Proofs.Ythjlommbnfooaaa.Bv

def n_Point (x : (Int × Int)) : Nat := 0
def pSz_PointS (x : List (Int × Int)) (left : Int) : Prop := WfD (.list (.pair (.int .i64) (.int .i64))) x ∧ 0 ≤ left ∧ left ≤ 1048576
def fSz_PointS (x : List (Int × Int)) (left : Int) : Int := fSz (List.length x) left
def c_laws_szPointS : Con := { io := false, I := .unit, ownI := [], A := (.pair (.list (.pair (.int .i64) (.int .i64))) (.int .i64)), shA := [.one, .one], ownA := [], backA := [], B := .unit, R := (.int .i64), shR := [(false, 1)], fresh := [], newR := false, pre := fun _ a => (pSz_PointS a.1 a.2), f := some fun _ a => ((fSz_PointS a.1 a.2), ((), ())) }
def laws_szPointS.F  (a0 : (List (Int × Int))) (a1 : Int) : Prop := (caseB (decide ((IntKind.wrap .i64 (a1 - ((List.length a0 : Nat) : Int))) < (0 : Int))) ((((-1), ((), ())) : Int × (Unit × Unit)) = ((fSz_PointS a0 a1), ((), ()))) ((((IntKind.wrap .i64 (a1 - ((List.length a0 : Nat) : Int))), ((), ())) : Int × (Unit × Unit)) = ((fSz_PointS a0 a1), ((), ()))))
def laws_szPointS.L  (a0 : (List (Int × Int))) (a1 : Int) : Nat → Option LoopAnn := fun p => Go.Proofs.Ythjlommbnfooaaa.Bv.look p []

theorem laws_szPointS.pure  (a0 : (List (Int × Int))) (a1 : Int) (h : (pSz_PointS a0 a1)) (hw : Wf c_laws_szPointS.A (a0, a1)) : laws_szPointS.F a0 a1 := by
  unfold laws_szPointS.F
  obtain ⟨hwf, p1, p2⟩ := h
  have hw1 : a0.length ≤ 9223372036854775807 := hwf.1
  simp only [forall_eq, true_and, and_true, caseB_iff, Prod.mk.injEq, decide_eq_true_eq, decide_eq_false_iff_not, Bool.not_eq_true', Bool.not_eq_false', bne_iff_ne, ne_eq, beq_iff_eq, Bool.not_true, Bool.not_false, beq_eq_false_iff_ne, bne_eq_false_iff_eq, List.length_append, List.length_cons, List.length_nil, List.append_nil, Nat.zero_add, decide_true, decide_false, eq_self_iff_true, fSz_PointS]
  rw [w64 (x := a1 - (a0.length : Int)) (by omega) (by omega)]
  exact ⟨fun h1 => (fSz_no (by omega)).symm, fun h1 => (fSz_yes (by omega)).symm⟩

set_option maxRecDepth 100000 in
theorem laws_szPointS.eq (i : El c_laws_szPointS.I) (x : El c_laws_szPointS.A) : vc tab (gam [] [] eqs) (laws_szPointS.L x.1 x.2) (match Try.f136.body with | some c => c | none => .skip) 1 (initSt c_laws_szPointS Try.f136.ntmps i x) (bodyK tab c_laws_szPointS Try.f136.results.toList [3] i x) = laws_szPointS.F x.1 x.2 := by kernel_rfl
theorem laws_szPointS.ok : ConOk Try.prog 136 c_laws_szPointS :=
  conOk_of_eq (con := c_laws_szPointS) (tab := tab) (Γ := (gam [] [] eqs)) (fn := Try.f136) (c := (match Try.f136.body with | some c => c | none => .skip)) (fun i x => laws_szPointS.L x.1 x.2) (fun i x => laws_szPointS.F x.1 x.2) rfl tabOk (gam_nil _ [] eqsOk) Try.func136 rfl [3] (by kernel_rfl) laws_szPointS.eq fun i x h hi hw => laws_szPointS.pure x.1 x.2 h hw

def pTo_Point (x : (Int × Int)) : Prop := n_Point x ≤ 1048576
def fTo_Point (x : (Int × Int)) : (Int × Int) := x
def c_laws_toPoint : Con := { io := false, I := .unit, ownI := [], A := (.pair (.int .i64) (.int .i64)), shA := [.agg 2], ownA := [], backA := [], B := .unit, R := (.pair (.int .i64) (.int .i64)), shR := [(true, 2)], fresh := [], newR := false, pre := fun _ a => (pTo_Point a), f := some fun _ a => ((fTo_Point a), ((), ())) }
def laws_toPoint.F  (a0 : (Int × Int)) : Prop := ((((a0.1, a0.2), ((), ())) : (Int × Int) × (Unit × Unit)) = ((fTo_Point a0), ((), ())))
def laws_toPoint.L  (a0 : (Int × Int)) : Nat → Option LoopAnn := fun p => Go.Proofs.Ythjlommbnfooaaa.Bv.look p []

theorem laws_toPoint.pure  (a0 : (Int × Int)) (h : (pTo_Point a0)) (hw : Wf c_laws_toPoint.A a0) : laws_toPoint.F a0 := by
  unfold laws_toPoint.F
  have hp : n_Point a0 ≤ 1048576 := h
  simp only [n_Point] at hp
  simp only [forall_eq, true_and, and_true, caseB_iff, Prod.mk.injEq, decide_eq_true_eq, decide_eq_false_iff_not, Bool.not_eq_true', Bool.not_eq_false', bne_iff_ne, ne_eq, beq_iff_eq, Bool.not_true, Bool.not_false, beq_eq_false_iff_ne, bne_eq_false_iff_eq, List.length_append, List.length_cons, List.length_nil, List.append_nil, Nat.zero_add, decide_true, decide_false, eq_self_iff_true, n_Point, fTo_Point, pTo_Point]
  repeat' (with_reducible (first | (refine And.intro ?_ ?_) | intro _))
  all_goals (try simp (disch := omega) only [w64, wu8, tn0, tn1, tm1, tm2, List.length_append, List.length_cons, List.length_nil] at *)
  all_goals (try simp (disch := omega) only [w64, wu8, tn0, tn1, tm1, tm2, List.length_append, List.length_cons, List.length_nil] at *)
  all_goals (try omega)
  all_goals (try grind [])

set_option maxRecDepth 100000 in
theorem laws_toPoint.eq (i : El c_laws_toPoint.I) (x : El c_laws_toPoint.A) : vc tab (gam [] [] eqs) (laws_toPoint.L x) (match Try.f159.body with | some c => c | none => .skip) 1 (initSt c_laws_toPoint Try.f159.ntmps i x) (bodyK tab c_laws_toPoint Try.f159.results.toList [119] i x) = laws_toPoint.F x := by kernel_rfl
theorem laws_toPoint.ok : ConOk Try.prog 159 c_laws_toPoint :=
  conOk_of_eq (con := c_laws_toPoint) (tab := tab) (Γ := (gam [] [] eqs)) (fn := Try.f159) (c := (match Try.f159.body with | some c => c | none => .skip)) (fun i x => laws_toPoint.L x) (fun i x => laws_toPoint.F x) rfl tabOk (gam_nil _ [] eqsOk) Try.func159 rfl [119] (by kernel_rfl) laws_toPoint.eq fun i x h hi hw => laws_toPoint.pure x h hw

def pTo_PointS (x : List (Int × Int)) : Prop := List.length x ≤ 1048576
def fTo_PointS (x : List (Int × Int)) : List (Int × Int) := x
def c_laws_toPointS : Con := { io := false, I := .unit, ownI := [], A := (.list (.pair (.int .i64) (.int .i64))), shA := [.one], ownA := [], backA := [], B := .unit, R := (.list (.pair (.int .i64) (.int .i64))), shR := [(false, 1)], fresh := [(0, 119)], newR := false, pre := fun _ a => (pTo_PointS a), f := some fun _ a => ((fTo_PointS a), ((), ())) }
def laws_toPointS.F  (a0 : (List (Int × Int))) : Prop := (0 ≤ ((List.length a0 : Nat) : Int) ∧ (((List.length a0 : Nat) : Int) ≤ ((List.length a0 : Nat) : Int) ∧ (((List.length a0 : Nat) : Int) ≤ 9223372036854775807 ∧ (((16 : Nat) : Int) * ((List.length a0 : Nat) : Int) ≤ 140737488355328 ∧ (([(0, .val false [.lst (.pair (.int .i64) (.int .i64)) a0 none]), (3, .val false [.own (.pair (.int .i64) (.int .i64)) 1000387])] : List (Nat × Sv)) = [(0, .val false [.lst (.pair (.int .i64) (.int .i64)) a0 none]), (3, .val false [.own (.pair (.int .i64) (.int .i64)) 1000387])] ∧ ((cpI ((0 : Int), (0 : Int)) a0 0 (List.replicate (Int.toNat ((List.length a0 : Nat) : Int)) ((0 : Int), (0 : Int)))) ∧ ∀ (y1 : (Int × (List (Int × Int)))), (cpI ((0 : Int), (0 : Int)) a0 y1.1 y1.2) → (caseB (decide (y1.1 < ((List.length a0 : Nat) : Int))) (0 ≤ y1.1 ∧ (y1.1 < ((List.length a0 : Nat) : Int) ∧ ((pTo_Point ((List.getD a0 (Int.toNat y1.1) ((0 : Int), (0 : Int))).1, (List.getD a0 (Int.toNat y1.1) ((0 : Int), (0 : Int))).2)) ∧ ∀ (r2 : (Int × Int) × (Unit × Unit)), ((r2 : (Int × Int) × (Unit × Unit)) = ((fTo_Point ((List.getD a0 (Int.toNat y1.1) ((0 : Int), (0 : Int))).1, (List.getD a0 (Int.toNat y1.1) ((0 : Int), (0 : Int))).2)), ((), ()))) → (0 ≤ y1.1 ∧ (y1.1 < ((List.length y1.2 : Nat) : Int) ∧ (([(0, .val false [.lst (.pair (.int .i64) (.int .i64)) a0 none]), (3, .val false [.own (.pair (.int .i64) (.int .i64)) 1000387])] : List (Nat × Sv)) = [(0, .val false [.lst (.pair (.int .i64) (.int .i64)) a0 none]), (3, .val false [.own (.pair (.int .i64) (.int .i64)) 1000387])] ∧ (cpI ((0 : Int), (0 : Int)) a0 (IntKind.wrap .i64 (y1.1 + (1 : Int))) (List.set y1.2 (Int.toNat y1.1) (r2.1.1, r2.1.2))) ∧ (cpM a0 (IntKind.wrap .i64 (y1.1 + (1 : Int))) (List.set y1.2 (Int.toNat y1.1) (r2.1.1, r2.1.2))) < (cpM a0 y1.1 y1.2))))))) (((y1.2, ((), ())) : (List (Int × Int)) × (Unit × Unit)) = ((fTo_PointS a0), ((), ()))))))))))
def laws_toPointS.L  (a0 : (List (Int × Int))) : Nat → Option LoopAnn := fun p => Go.Proofs.Ythjlommbnfooaaa.Bv.look p [(58, { kp := { hold := [0, 3], slots := [4], boxes := [], rows := [{ bx := false, s := 3, i := 0, k := 1000387, e := 119, hot := true }] }, T := (.pair (.int .i64) (.list (.pair (.int .i64) (.int .i64)))), I := fun st y => cpI ((0 : Int), (0 : Int)) a0 y.1 y.2, μ := fun st y => cpM a0 y.1 y.2 })]

theorem laws_toPointS.pure  (a0 : (List (Int × Int))) (h : (pTo_PointS a0)) (hw : Wf c_laws_toPointS.A a0) : laws_toPointS.F a0 := by
  unfold laws_toPointS.F
  have hb : a0.length ≤ 1048576 := by have h1 : List.length a0 ≤ 1048576 := h; exact h1
  simp only [forall_eq, true_and, and_true, caseB_iff, Prod.mk.injEq, decide_eq_true_eq, decide_eq_false_iff_not, Bool.not_eq_true', Bool.not_eq_false', bne_iff_ne, ne_eq, beq_iff_eq, Bool.not_true, Bool.not_false, beq_eq_false_iff_ne, bne_eq_false_iff_eq, List.length_append, List.length_cons, List.length_nil, List.append_nil, Nat.zero_add, decide_true, decide_false, eq_self_iff_true, fTo_PointS]
  refine ⟨by omega, by omega, by omega, by omega, ⟨by omega, by omega, by simp⟩, ?_⟩
  rintro ⟨i, out⟩ hI
  simp only at hI ⊢
  refine ⟨fun hi => ?_, fun hi => cp_end hI hi⟩
  have hl := cp_len hI
  have h3 := hI.2.1
  have h2 := hI.1
  have hp : pTo_Point (a0.getD i.toNat ((0 : Int), (0 : Int))) := by
    have h1 : List.length a0 ≤ 1048576 := h
    have hm : a0.getD i.toNat ((0 : Int), (0 : Int)) ∈ a0 := getD_mem (by omega)
    show n_Point _ ≤ 1048576
    simp [n_Point]
  rw [w64 (x := i + 1) (by omega) (by omega)]
  simp only [fTo_Point, hl]
  exact ⟨h2, hi, hp, h2, hi, cp_step hI hi, by unfold cpM; omega⟩

set_option maxRecDepth 100000 in
theorem laws_toPointS.eq (i : El c_laws_toPointS.I) (x : El c_laws_toPointS.A) : vc tab (gam [(159, c_laws_toPoint)] [] eqs) (laws_toPointS.L x) (match Try.f141.body with | some c => c | none => .skip) 1 (initSt c_laws_toPointS Try.f141.ntmps i x) (bodyK tab c_laws_toPointS Try.f141.results.toList [53] i x) = laws_toPointS.F x := by kernel_rfl
theorem laws_toPointS.ok : ConOk Try.prog 141 c_laws_toPointS :=
  conOk_of_eq (con := c_laws_toPointS) (tab := tab) (Γ := (gam [(159, c_laws_toPoint)] [] eqs)) (fn := Try.f141) (c := (match Try.f141.body with | some c => c | none => .skip)) (fun i x => laws_toPointS.L x) (fun i x => laws_toPointS.F x) rfl tabOk (gam_cons ⟨_, Try.func159, rfl, rfl⟩ laws_toPoint.ok (gam_nil _ [] eqsOk)) Try.func141 rfl [53] (by kernel_rfl) laws_toPointS.eq fun i x h hi hw => laws_toPointS.pure x h hw

instance dec_Point : DecidableEq (Int × Int) := by (iterate 20 (all_goals (first | infer_instance | refine @instDecidableEqProd _ _ ?_ ?_)))
def fEq_Point (a b : (Int × Int)) : Bool := decide (a = b)
def c_laws_eqPoint : Con := { io := false, I := .unit, ownI := [], A := (.pair (.pair (.int .i64) (.int .i64)) (.pair (.int .i64) (.int .i64))), shA := [.agg 2, .agg 2], ownA := [], backA := [], B := .unit, R := .bool, shR := [(false, 1)], fresh := [], newR := false, pre := fun _ a => True, f := some fun _ a => ((fEq_Point a.1 a.2), ((), ())) }
def laws_eqPoint.F  (a0 : (Int × Int)) (a1 : (Int × Int)) : Prop := (caseB (a0.1 != a1.1) (((false, ((), ())) : Bool × (Unit × Unit)) = ((fEq_Point a0 a1), ((), ()))) (caseB (a0.2 != a1.2) (((false, ((), ())) : Bool × (Unit × Unit)) = ((fEq_Point a0 a1), ((), ()))) (((true, ((), ())) : Bool × (Unit × Unit)) = ((fEq_Point a0 a1), ((), ())))))
def laws_eqPoint.L  (a0 : (Int × Int)) (a1 : (Int × Int)) : Nat → Option LoopAnn := fun p => Go.Proofs.Ythjlommbnfooaaa.Bv.look p []

theorem laws_eqPoint.pure  (a0 : (Int × Int)) (a1 : (Int × Int)) (h : True) (hw : Wf c_laws_eqPoint.A (a0, a1)) : laws_eqPoint.F a0 a1 := by
  unfold laws_eqPoint.F
  obtain ⟨x1, x2⟩ := a0
  obtain ⟨y1, y2⟩ := a1
  simp only [forall_eq, true_and, and_true, caseB_iff, Prod.mk.injEq, decide_eq_true_eq, decide_eq_false_iff_not, Bool.not_eq_true', Bool.not_eq_false', bne_iff_ne, ne_eq, beq_iff_eq, Bool.not_true, Bool.not_false, beq_eq_false_iff_ne, bne_eq_false_iff_eq, List.length_append, List.length_cons, List.length_nil, List.append_nil, Nat.zero_add, decide_true, decide_false, eq_self_iff_true, fEq_Point]
  repeat' (first | (refine And.intro ?_ ?_) | intro _)
  all_goals simp_all

set_option maxRecDepth 100000 in
theorem laws_eqPoint.eq (i : El c_laws_eqPoint.I) (x : El c_laws_eqPoint.A) : vc tab (gam [] [] eqs) (laws_eqPoint.L x.1 x.2) (match Try.f107.body with | some c => c | none => .skip) 1 (initSt c_laws_eqPoint Try.f107.ntmps i x) (bodyK tab c_laws_eqPoint Try.f107.results.toList [4] i x) = laws_eqPoint.F x.1 x.2 := by kernel_rfl
theorem laws_eqPoint.ok : ConOk Try.prog 107 c_laws_eqPoint :=
  conOk_of_eq (con := c_laws_eqPoint) (tab := tab) (Γ := (gam [] [] eqs)) (fn := Try.f107) (c := (match Try.f107.body with | some c => c | none => .skip)) (fun i x => laws_eqPoint.L x.1 x.2) (fun i x => laws_eqPoint.F x.1 x.2) rfl tabOk (gam_nil _ [] eqsOk) Try.func107 rfl [4] (by kernel_rfl) laws_eqPoint.eq fun i x h hi hw => laws_eqPoint.pure x.1 x.2 h hw

def fEq_PointS (a b : List (Int × Int)) : Bool := decide (a = b)
def c_laws_eqPointS : Con := { io := false, I := .unit, ownI := [], A := (.pair (.list (.pair (.int .i64) (.int .i64))) (.list (.pair (.int .i64) (.int .i64)))), shA := [.one, .one], ownA := [], backA := [], B := .unit, R := .bool, shR := [(false, 1)], fresh := [], newR := false, pre := fun _ a => True, f := some fun _ a => ((fEq_PointS a.1 a.2), ((), ())) }
def laws_eqPointS.F  (a0 : (List (Int × Int))) (a1 : (List (Int × Int))) : Prop := (caseB (((List.length a0 : Nat) : Int) != ((List.length a1 : Nat) : Int)) (((false, ((), ())) : Bool × (Unit × Unit)) = ((fEq_PointS a0 a1), ((), ()))) (([(0, .val false [.lst (.pair (.int .i64) (.int .i64)) a0 none]), (1, .val false [.lst (.pair (.int .i64) (.int .i64)) a1 none])] : List (Nat × Sv)) = [(0, .val false [.lst (.pair (.int .i64) (.int .i64)) a0 none]), (1, .val false [.lst (.pair (.int .i64) (.int .i64)) a1 none])] ∧ ((eqLI a0 a1 0) ∧ ∀ (y1 : Int), (eqLI a0 a1 y1) → (caseB (decide (y1 < ((List.length a0 : Nat) : Int))) (0 ≤ y1 ∧ (y1 < ((List.length a0 : Nat) : Int) ∧ (0 ≤ y1 ∧ (y1 < ((List.length a1 : Nat) : Int) ∧ (True ∧ ∀ (r2 : Bool × (Unit × Unit)), ((r2 : Bool × (Unit × Unit)) = ((fEq_Point ((List.getD a0 (Int.toNat y1) ((0 : Int), (0 : Int))).1, (List.getD a0 (Int.toNat y1) ((0 : Int), (0 : Int))).2) ((List.getD a1 (Int.toNat y1) ((0 : Int), (0 : Int))).1, (List.getD a1 (Int.toNat y1) ((0 : Int), (0 : Int))).2)), ((), ()))) → (caseB (!r2.1) (((false, ((), ())) : Bool × (Unit × Unit)) = ((fEq_PointS a0 a1), ((), ()))) (([(0, .val false [.lst (.pair (.int .i64) (.int .i64)) a0 none]), (1, .val false [.lst (.pair (.int .i64) (.int .i64)) a1 none])] : List (Nat × Sv)) = [(0, .val false [.lst (.pair (.int .i64) (.int .i64)) a0 none]), (1, .val false [.lst (.pair (.int .i64) (.int .i64)) a1 none])] ∧ (eqLI a0 a1 (IntKind.wrap .i64 (y1 + (1 : Int)))) ∧ (eqLM a0 a1 (IntKind.wrap .i64 (y1 + (1 : Int)))) < (eqLM a0 a1 y1)))))))) (((true, ((), ())) : Bool × (Unit × Unit)) = ((fEq_PointS a0 a1), ((), ())))))))
def laws_eqPointS.L  (a0 : (List (Int × Int))) (a1 : (List (Int × Int))) : Nat → Option LoopAnn := fun p => Go.Proofs.Ythjlommbnfooaaa.Bv.look p [(58, { kp := { hold := [0, 1], slots := [5], boxes := [], rows := [] }, T := (.int .i64), I := fun st y => eqLI a0 a1 y, μ := fun st y => eqLM a0 a1 y })]

theorem laws_eqPointS.pure  (a0 : (List (Int × Int))) (a1 : (List (Int × Int))) (h : True) (hw : Wf c_laws_eqPointS.A (a0, a1)) : laws_eqPointS.F a0 a1 := by
  unfold laws_eqPointS.F
  have hw1 : a0.length ≤ 9223372036854775807 := hw.1.1
  simp only [forall_eq, true_and, and_true, caseB_iff, Prod.mk.injEq, decide_eq_true_eq, decide_eq_false_iff_not, Bool.not_eq_true', Bool.not_eq_false', bne_iff_ne, ne_eq, beq_iff_eq, Bool.not_true, Bool.not_false, beq_eq_false_iff_ne, bne_eq_false_iff_eq, List.length_append, List.length_cons, List.length_nil, List.append_nil, Nat.zero_add, decide_true, decide_false, eq_self_iff_true]
  refine ⟨fun h1 => ?_, fun h1 => ?_⟩
  · have : a0 ≠ a1 := fun e => by subst e; simp at h1
    simp [fEq_PointS, this]
  have hl : a0.length = a1.length := by omega
  refine ⟨⟨by omega, by omega, hl, by simp⟩, ?_⟩
  rintro i hI
  have h2 := hI.1
  have h3 := hI.2.1
  refine ⟨fun hi => ⟨h2, hi, h2, by omega, fun hne => ?_, fun he => ?_⟩, fun hi => ?_⟩
  · have : a0 ≠ a1 := fun e => by subst e; simp [fEq_Point] at hne
    simp [fEq_PointS, this]
  · have hg : a0.getD i.toNat ((0 : Int), (0 : Int)) = a1.getD i.toNat ((0 : Int), (0 : Int)) := by simpa only [fEq_Point, decide_eq_true_eq] using he
    rw [w64 (x := i + 1) (by omega) (by omega)]
    exact ⟨eqL_step hI hi hg, by unfold eqLM; omega⟩
  · have h6 := eqL_end hI hi
    simp [fEq_PointS, h6]

set_option maxRecDepth 100000 in
theorem laws_eqPointS.eq (i : El c_laws_eqPointS.I) (x : El c_laws_eqPointS.A) : vc tab (gam [(107, c_laws_eqPoint)] [] eqs) (laws_eqPointS.L x.1 x.2) (match Try.f32.body with | some c => c | none => .skip) 1 (initSt c_laws_eqPointS Try.f32.ntmps i x) (bodyK tab c_laws_eqPointS Try.f32.results.toList [4] i x) = laws_eqPointS.F x.1 x.2 := by kernel_rfl
theorem laws_eqPointS.ok : ConOk Try.prog 32 c_laws_eqPointS :=
  conOk_of_eq (con := c_laws_eqPointS) (tab := tab) (Γ := (gam [(107, c_laws_eqPoint)] [] eqs)) (fn := Try.f32) (c := (match Try.f32.body with | some c => c | none => .skip)) (fun i x => laws_eqPointS.L x.1 x.2) (fun i x => laws_eqPointS.F x.1 x.2) rfl tabOk (gam_cons ⟨_, Try.func107, rfl, rfl⟩ laws_eqPoint.ok (gam_nil _ [] eqsOk)) Try.func32 rfl [4] (by kernel_rfl) laws_eqPointS.eq fun i x h hi hw => laws_eqPointS.pure x.1 x.2 h hw

def c_mPoint (x : (Int × Int)) : Int := 1 + 1
def m_Point (x : (Int × Int)) (k : Int) : (Int × Int) := (k, (k + 1))
def o_Point (x : (Int × Int)) (k : Int) : Bool := (decide (x.1 = k)) && (decide (x.2 = (k + 1)))
theorem ok_Point : ∀ (x : (Int × Int)) (k : Int), o_Point (m_Point x k) k = true ∧ c_mPoint (m_Point x k) = c_mPoint x := fun x k => by
  simp [o_Point, m_Point, c_mPoint]
theorem pos_Point : ∀ x : (Int × Int), 0 ≤ c_mPoint x := fun x => by
  unfold c_mPoint; omega
def pMk_PointS (l : List (Int × Int)) (k : Int) : Prop := 0 ≤ k ∧ k + cL c_mPoint l ≤ 4611686018427387904
def fMk_PointS (l : List (Int × Int)) (k : Int) : Int × List (Int × Int) := (k + cL c_mPoint l, mL c_mPoint m_Point l k)
def c_laws_markPointS : Con := { io := false, I := .unit, ownI := [], A := (.pair (.list (.pair (.int .i64) (.int .i64))) (.int .i64)), shA := [.one, .one], ownA := [], backA := [(0, 119)], B := (.list (.pair (.int .i64) (.int .i64))), R := (.int .i64), shR := [(false, 1)], fresh := [], newR := false, pre := fun _ a => (pMk_PointS a.1 a.2), f := some fun _ a => ((fMk_PointS a.1 a.2).1, ((), (fMk_PointS a.1 a.2).2)) }
def laws_markPointS.F  (a0 : (List (Int × Int))) (a1 : Int) : Prop := (([(0, .val false [.own (.pair (.int .i64) (.int .i64)) 2])] : List (Nat × Sv)) = [(0, .val false [.own (.pair (.int .i64) (.int .i64)) 2])] ∧ ((mkI c_mPoint m_Point a0 a1 a1 0 a0) ∧ ∀ (y1 : (Int × (Int × (List (Int × Int))))), (mkI c_mPoint m_Point a0 a1 y1.1 y1.2.1 y1.2.2) → (caseB (decide (y1.2.1 < ((List.length y1.2.2 : Nat) : Int))) (0 ≤ y1.2.1 ∧ (y1.2.1 < ((List.length y1.2.2 : Nat) : Int) ∧ (0 ≤ y1.2.1 ∧ (y1.2.1 < ((List.length (List.set y1.2.2 (Int.toNat y1.2.1) (y1.1, (List.getD y1.2.2 (Int.toNat y1.2.1) ((0 : Int), (0 : Int))).2)) : Nat) : Int) ∧ (let l2 : List (Int × Int) := (List.set (List.set y1.2.2 (Int.toNat y1.2.1) (y1.1, (List.getD y1.2.2 (Int.toNat y1.2.1) ((0 : Int), (0 : Int))).2)) (Int.toNat y1.2.1) ((List.getD (List.set y1.2.2 (Int.toNat y1.2.1) (y1.1, (List.getD y1.2.2 (Int.toNat y1.2.1) ((0 : Int), (0 : Int))).2)) (Int.toNat y1.2.1) ((0 : Int), (0 : Int))).1, (IntKind.wrap .i64 (y1.1 + (1 : Int))))); (([(0, .val false [.own (.pair (.int .i64) (.int .i64)) 2])] : List (Nat × Sv)) = [(0, .val false [.own (.pair (.int .i64) (.int .i64)) 2])] ∧ (mkI c_mPoint m_Point a0 a1 (IntKind.wrap .i64 ((IntKind.wrap .i64 (y1.1 + (1 : Int))) + (1 : Int))) (IntKind.wrap .i64 (y1.2.1 + (1 : Int))) l2) ∧ (mkM a0 a1 (IntKind.wrap .i64 ((IntKind.wrap .i64 (y1.1 + (1 : Int))) + (1 : Int))) (IntKind.wrap .i64 (y1.2.1 + (1 : Int))) l2) < (mkM a0 a1 y1.1 y1.2.1 y1.2.2))))))) (((y1.1, ((), y1.2.2)) : Int × (Unit × (List (Int × Int)))) = ((fMk_PointS a0 a1).1, ((), (fMk_PointS a0 a1).2))))))
def laws_markPointS.L  (a0 : (List (Int × Int))) (a1 : Int) : Nat → Option LoopAnn := fun p => Go.Proofs.Ythjlommbnfooaaa.Bv.look p [(26, { kp := { hold := [0], slots := [1, 5], boxes := [], rows := [{ bx := false, s := 0, i := 0, k := 2, e := 119, hot := true }] }, T := (.pair (.int .i64) (.pair (.int .i64) (.list (.pair (.int .i64) (.int .i64))))), I := fun st y => mkI c_mPoint m_Point a0 a1 y.1 y.2.1 y.2.2, μ := fun st y => mkM a0 a1 y.1 y.2.1 y.2.2 })]

theorem laws_markPointS.pure  (a0 : (List (Int × Int))) (a1 : Int) (h : (pMk_PointS a0 a1)) (hw : Wf c_laws_markPointS.A (a0, a1)) : laws_markPointS.F a0 a1 := by
  unfold laws_markPointS.F
  obtain ⟨p1, p2⟩ := h
  have hw1 : a0.length ≤ 9223372036854775807 := hw.1.1
  simp only [forall_eq, true_and, and_true, caseB_iff, Prod.mk.injEq, decide_eq_true_eq, decide_eq_false_iff_not, Bool.not_eq_true', Bool.not_eq_false', bne_iff_ne, ne_eq, beq_iff_eq, Bool.not_true, Bool.not_false, beq_eq_false_iff_ne, bne_eq_false_iff_eq, List.length_append, List.length_cons, List.length_nil, List.append_nil, Nat.zero_add, decide_true, decide_false, eq_self_iff_true]
  refine ⟨⟨by omega, by omega, by simp [cL], by simp [mL]⟩, ?_⟩
  rintro ⟨k, i, l⟩ hI
  simp only at hI ⊢
  have hl := mk_len hI
  have h2 := hI.1
  have h3 := hI.2
  refine ⟨fun hi0 => ?_, fun hi0 => ?_⟩
  · have hi : i < (a0.length : Int) := by omega
    have hi' : i.toNat < l.length := by omega
    have hg := mk_at (d := ((0 : Int), (0 : Int))) hI hi
    have hs := cL_split c_mPoint ((0 : Int), (0 : Int)) (l := a0) (i := i.toNat) (by omega)
    have hk := hI.3
    have c1 := cL_pos pos_Point (a0.take i.toNat)
    have c2 := cL_pos pos_Point (a0.drop (i.toNat + 1))
    have c3 := pos_Point (a0.getD i.toNat ((0 : Int), (0 : Int)))
    have hmod : Int.tmod k 3 = k % 3 := Int.tmod_eq_emod_of_nonneg (by omega)
    have hc : c_mPoint (a0.getD i.toNat ((0 : Int), (0 : Int))) = c_mPoint (a0.getD i.toNat ((0 : Int), (0 : Int))) := rfl
    conv at hc => rhs; unfold c_mPoint
    try simp only [hg, getD_set_self hi', List.set_set, List.length_set]
    try simp (disch := first | omega | simp_all) only [getD_set_self, List.set_set, List.length_set, hg, w64, pMT]
    repeat' (with_reducible (first | (refine And.intro ?_ ?_) | intro _))
    all_goals (try simp +zetaDelta (disch := first | omega | simp_all) only [hg, getD_set_self, List.set_set, List.length_set, w64, pMT])
    all_goals (first | omega | exact mk_step (d := ((0 : Int), (0 : Int))) hI hi (by simp [m_Point, hmod]) (by omega) | (unfold mkM; omega) | skip)
  · obtain ⟨e1, e2⟩ := mk_end hI (by omega)
    exact ⟨e1, e2⟩

set_option maxRecDepth 100000 in
theorem laws_markPointS.eq (i : El c_laws_markPointS.I) (x : El c_laws_markPointS.A) : vc tab (gam [] [] eqs) (laws_markPointS.L x.1 x.2) (match Try.f33.body with | some c => c | none => .skip) 1 (initSt c_laws_markPointS Try.f33.ntmps i x) (bodyK tab c_laws_markPointS Try.f33.results.toList [3] i x) = laws_markPointS.F x.1 x.2 := by kernel_rfl
theorem laws_markPointS.ok : ConOk Try.prog 33 c_laws_markPointS :=
  conOk_of_eq (con := c_laws_markPointS) (tab := tab) (Γ := (gam [] [] eqs)) (fn := Try.f33) (c := (match Try.f33.body with | some c => c | none => .skip)) (fun i x => laws_markPointS.L x.1 x.2) (fun i x => laws_markPointS.F x.1 x.2) rfl tabOk (gam_nil _ [] eqsOk) Try.func33 rfl [3] (by kernel_rfl) laws_markPointS.eq fun i x h hi hw => laws_markPointS.pure x.1 x.2 h hw

def fHd_PointS (l : List (Int × Int)) (k : Int) : Int := fHd (cL c_mPoint l) (oL c_mPoint o_Point l k) k
def c_laws_heldPointS : Con := { io := false, I := .unit, ownI := [], A := (.pair (.list (.pair (.int .i64) (.int .i64))) (.int .i64)), shA := [.one, .one], ownA := [], backA := [], B := .unit, R := (.int .i64), shR := [(false, 1)], fresh := [], newR := false, pre := fun _ a => (pMk_PointS a.1 a.2), f := some fun _ a => ((fHd_PointS a.1 a.2), ((), ())) }
def laws_heldPointS.F  (a0 : (List (Int × Int))) (a1 : Int) : Prop := (([(0, .val false [.lst (.pair (.int .i64) (.int .i64)) a0 none])] : List (Nat × Sv)) = [(0, .val false [.lst (.pair (.int .i64) (.int .i64)) a0 none])] ∧ ((hdI c_mPoint o_Point a0 a1 a1 0) ∧ ∀ (y1 : (Int × Int)), (hdI c_mPoint o_Point a0 a1 y1.1 y1.2) → (caseB (decide (y1.2 < ((List.length a0 : Nat) : Int))) (0 ≤ y1.2 ∧ (y1.2 < ((List.length a0 : Nat) : Int) ∧ (caseB (((List.getD a0 (Int.toNat y1.2) ((0 : Int), (0 : Int))).1) != y1.1) ((((-1), ((), ())) : Int × (Unit × Unit)) = ((fHd_PointS a0 a1), ((), ()))) (0 ≤ y1.2 ∧ (y1.2 < ((List.length a0 : Nat) : Int) ∧ (caseB (((List.getD a0 (Int.toNat y1.2) ((0 : Int), (0 : Int))).2) != (IntKind.wrap .i64 (y1.1 + (1 : Int)))) ((((-1), ((), ())) : Int × (Unit × Unit)) = ((fHd_PointS a0 a1), ((), ()))) (([(0, .val false [.lst (.pair (.int .i64) (.int .i64)) a0 none])] : List (Nat × Sv)) = [(0, .val false [.lst (.pair (.int .i64) (.int .i64)) a0 none])] ∧ (hdI c_mPoint o_Point a0 a1 (IntKind.wrap .i64 ((IntKind.wrap .i64 (y1.1 + (1 : Int))) + (1 : Int))) (IntKind.wrap .i64 (y1.2 + (1 : Int)))) ∧ (hdM a0 a1 (IntKind.wrap .i64 ((IntKind.wrap .i64 (y1.1 + (1 : Int))) + (1 : Int))) (IntKind.wrap .i64 (y1.2 + (1 : Int)))) < (hdM a0 a1 y1.1 y1.2)))))))) (((y1.1, ((), ())) : Int × (Unit × Unit)) = ((fHd_PointS a0 a1), ((), ()))))))
def laws_heldPointS.L  (a0 : (List (Int × Int))) (a1 : Int) : Nat → Option LoopAnn := fun p => Go.Proofs.Ythjlommbnfooaaa.Bv.look p [(26, { kp := { hold := [0], slots := [1, 5], boxes := [], rows := [] }, T := (.pair (.int .i64) (.int .i64)), I := fun st y => hdI c_mPoint o_Point a0 a1 y.1 y.2, μ := fun st y => hdM a0 a1 y.1 y.2 })]

theorem laws_heldPointS.pure  (a0 : (List (Int × Int))) (a1 : Int) (h : (pMk_PointS a0 a1)) (hw : Wf c_laws_heldPointS.A (a0, a1)) : laws_heldPointS.F a0 a1 := by
  unfold laws_heldPointS.F
  obtain ⟨p1, p2⟩ := h
  have hw1 : a0.length ≤ 9223372036854775807 := hw.1.1
  simp only [forall_eq, true_and, and_true, caseB_iff, Prod.mk.injEq, decide_eq_true_eq, decide_eq_false_iff_not, Bool.not_eq_true', Bool.not_eq_false', bne_iff_ne, ne_eq, beq_iff_eq, Bool.not_true, Bool.not_false, beq_eq_false_iff_ne, bne_eq_false_iff_eq, List.length_append, List.length_cons, List.length_nil, List.append_nil, Nat.zero_add, decide_true, decide_false, eq_self_iff_true]
  refine ⟨⟨by omega, by omega, by simp [cL], by simp⟩, ?_⟩
  rintro ⟨k, i⟩ hI
  simp only at hI ⊢
  have h2 := hI.1
  have h3 := hI.2
  refine ⟨fun hi => ?_, fun hi => hd_end hI hi⟩
  · have hs := cL_split c_mPoint ((0 : Int), (0 : Int)) (l := a0) (i := i.toNat) (by omega)
    have hk := hI.3
    have c1 := cL_pos pos_Point (a0.take i.toNat)
    have c2 := cL_pos pos_Point (a0.drop (i.toNat + 1))
    have c3 := pos_Point (a0.getD i.toNat ((0 : Int), (0 : Int)))
    have hmod : Int.tmod k 3 = k % 3 := Int.tmod_eq_emod_of_nonneg (by omega)
    have no : o_Point (a0.getD i.toNat ((0 : Int), (0 : Int))) k = false → -1 = fHd_PointS a0 a1 := fun ho => hd_no ((0 : Int), (0 : Int)) hI hi ho
    have yes : o_Point (a0.getD i.toNat ((0 : Int), (0 : Int))) k = true → hdI c_mPoint o_Point a0 a1 (k + c_mPoint (a0.getD i.toNat ((0 : Int), (0 : Int)))) (i + 1) := fun ho => hd_step ((0 : Int), (0 : Int)) hI hi ho rfl
    generalize a0.getD i.toNat ((0 : Int), (0 : Int)) = x at *
    have hc : c_mPoint x = c_mPoint x := rfl
    conv at hc => rhs; unfold c_mPoint
    simp only [o_Point] at no yes
    simp (disch := omega) only [w64, pMT]
    repeat' (with_reducible (first | (refine And.intro ?_ ?_) | intro _))
    all_goals (first | omega | (unfold hdM; omega) | skip)
    all_goals (try simp (disch := first | omega | assumption) only [fHd_neg, fHd_yes, w64, Bool.not_eq_false] at *)
    all_goals (try simp (disch := first | omega | assumption) only [fHd_neg, fHd_yes, w64, Bool.not_eq_false] at *)
    all_goals (first | omega | grind)

set_option maxRecDepth 100000 in
theorem laws_heldPointS.eq (i : El c_laws_heldPointS.I) (x : El c_laws_heldPointS.A) : vc tab (gam [] [] eqs) (laws_heldPointS.L x.1 x.2) (match Try.f34.body with | some c => c | none => .skip) 1 (initSt c_laws_heldPointS Try.f34.ntmps i x) (bodyK tab c_laws_heldPointS Try.f34.results.toList [3] i x) = laws_heldPointS.F x.1 x.2 := by kernel_rfl
theorem laws_heldPointS.ok : ConOk Try.prog 34 c_laws_heldPointS :=
  conOk_of_eq (con := c_laws_heldPointS) (tab := tab) (Γ := (gam [] [] eqs)) (fn := Try.f34) (c := (match Try.f34.body with | some c => c | none => .skip)) (fun i x => laws_heldPointS.L x.1 x.2) (fun i x => laws_heldPointS.F x.1 x.2) rfl tabOk (gam_nil _ [] eqsOk) Try.func34 rfl [3] (by kernel_rfl) laws_heldPointS.eq fun i x h hi hw => laws_heldPointS.pure x.1 x.2 h hw

end Go.Proofs.Ythjlommbnfooaaa.B
