/- Values of the type Session: how large, the same, marked. -/
import Derived.Test.YthkghdmpkdpnkaaCTypes
import Derived.Test.YthkghdmpkdpnkaaCTAnswer
namespace Go.Proofs.Ythkghdmpkdpnkaa.B
set_option linter.unusedVariables false
set_option linter.unusedSimpArgs false
open Go Go.Proofs.Ythkghdmpkdpnkaa.Bv

def n_Session (x : (Int × (Int × (Int × (Int × (Int × (List UInt8))))))) : Nat := (n_Answer x.2.2)
instance dec_Session : DecidableEq (Int × (Int × (Int × (Int × (Int × (List UInt8)))))) := by (iterate 20 (all_goals (first | infer_instance | refine @instDecidableEqProd _ _ ?_ ?_)))
def fEq_Session (a b : (Int × (Int × (Int × (Int × (Int × (List UInt8))))))) : Bool := decide (a = b)
def c_laws_eqSession : Con := { A := (.pair (.pair (.int .i64) (.pair (.int .i64) (.pair (.int .i64) (.pair (.int .i64) (.pair (.int .i64) .str))))) (.pair (.int .i64) (.pair (.int .i64) (.pair (.int .i64) (.pair (.int .i64) (.pair (.int .i64) .str)))))), shA := [.agg 6, .agg 6], R := .bool, shR := [(false, 1)], pre := fun _ _ => True, f := some fun _ a => ((fEq_Session a.1 a.2), ((), ())) }
def laws_eqSession.F  (a0 : (Int × (Int × (Int × (Int × (Int × (List UInt8))))))) (a1 : (Int × (Int × (Int × (Int × (Int × (List UInt8))))))) : Prop := (caseB (a0.1 != a1.1) (Eq (false, ((), ())) ((fEq_Session a0 a1), ((), ()))) (caseB (a0.2.1 != a1.2.1) (Eq (false, ((), ())) ((fEq_Session a0 a1), ((), ()))) (True ∧ ∀ r1, (Eq r1 ((fEq_Answer (a0.2.2.1, (a0.2.2.2.1, (a0.2.2.2.2.1, a0.2.2.2.2.2))) (a1.2.2.1, (a1.2.2.2.1, (a1.2.2.2.2.1, a1.2.2.2.2.2)))), ((), ()))) → (caseB (!r1.1) (Eq (false, ((), ())) ((fEq_Session a0 a1), ((), ()))) (Eq (true, ((), ())) ((fEq_Session a0 a1), ((), ())))))))

theorem laws_eqSession.pure  (a0 : (Int × (Int × (Int × (Int × (Int × (List UInt8))))))) (a1 : (Int × (Int × (Int × (Int × (Int × (List UInt8))))))) (h : True) (hw : Wf c_laws_eqSession.A (a0, a1)) : laws_eqSession.F a0 a1 := by
  unfold laws_eqSession.F
  obtain ⟨x1, x2, ⟨x3, x4, x5, x6⟩⟩ := a0
  obtain ⟨y1, y2, ⟨y3, y4, y5, y6⟩⟩ := a1
  simp only [forall_eq, true_and, and_true, caseB_iff, Prod.mk.injEq, decide_eq_true_eq, decide_eq_false_iff_not, Bool.not_eq_true', Bool.not_eq_false', bne_iff_ne, ne_eq, beq_iff_eq, Bool.not_true, Bool.not_false, beq_eq_false_iff_ne, bne_eq_false_iff_eq, List.length_append, List.length_cons, List.length_nil, List.append_nil, Nat.zero_add, decide_true, decide_false, eq_self_iff_true, fEq_Session, fEq_Answer]
  repeat' (first | (refine And.intro ?_ ?_) | intro _)
  all_goals simp_all

set_option maxRecDepth 100000 in
theorem laws_eqSession.eq : EqS c_laws_eqSession Try.f103 [4] [laws_eqAnswer.e] [] noL (fun i x => laws_eqSession.F x.1 x.2) := by intro i x; kernel_rfl
theorem laws_eqSession.ok : ConOk Try.prog 103 c_laws_eqSession := okOf laws_eqSession.eq Try.func103 rfl (by kernel_rfl) fun i x h hi hw => laws_eqSession.pure x.1 x.2 h hw
def laws_eqSession.e : GE := ⟨103, c_laws_eqSession, ⟨_, Try.func103, rfl, rfl⟩, laws_eqSession.ok⟩

def fEq_SessionS (a b : List (Int × (Int × (Int × (Int × (Int × (List UInt8))))))) : Bool := decide (a = b)
def c_laws_eqSessionS : Con := { A := (.pair (.list (.pair (.int .i64) (.pair (.int .i64) (.pair (.int .i64) (.pair (.int .i64) (.pair (.int .i64) .str)))))) (.list (.pair (.int .i64) (.pair (.int .i64) (.pair (.int .i64) (.pair (.int .i64) (.pair (.int .i64) .str))))))), shA := [.one, .one], R := .bool, shR := [(false, 1)], pre := fun _ _ => True, f := some fun _ a => ((fEq_SessionS a.1 a.2), ((), ())) }
def laws_eqSessionS.F  (a0 : (List (Int × (Int × (Int × (Int × (Int × (List UInt8)))))))) (a1 : (List (Int × (Int × (Int × (Int × (Int × (List UInt8)))))))) : Prop := (caseB ((ln a0) != (ln a1)) (Eq (false, ((), ())) ((fEq_SessionS a0 a1), ((), ()))) (eS [(0, .val false [.lst (.pair (.int .i64) (.pair (.int .i64) (.pair (.int .i64) (.pair (.int .i64) (.pair (.int .i64) .str))))) a0 none]), (1, .val false [.lst (.pair (.int .i64) (.pair (.int .i64) (.pair (.int .i64) (.pair (.int .i64) (.pair (.int .i64) .str))))) a1 none])] [(0, .val false [.lst (.pair (.int .i64) (.pair (.int .i64) (.pair (.int .i64) (.pair (.int .i64) (.pair (.int .i64) .str))))) a0 none]), (1, .val false [.lst (.pair (.int .i64) (.pair (.int .i64) (.pair (.int .i64) (.pair (.int .i64) (.pair (.int .i64) .str))))) a1 none])] ∧ ((eqLI a0 a1 0) ∧ ∀ (y1 : Int), (eqLI a0 a1 y1) → (caseB (decide (y1 < (ln a0))) (0 ≤ y1 ∧ (y1 < (ln a0) ∧ (0 ≤ y1 ∧ (y1 < (ln a1) ∧ (True ∧ ∀ r2, (Eq r2 ((fEq_Session ((List.getD a0 (tN y1) (0, (0, (0, (0, (0, [])))))).1, ((List.getD a0 (tN y1) (0, (0, (0, (0, (0, [])))))).2.1, ((List.getD a0 (tN y1) (0, (0, (0, (0, (0, [])))))).2.2.1, ((List.getD a0 (tN y1) (0, (0, (0, (0, (0, [])))))).2.2.2.1, ((List.getD a0 (tN y1) (0, (0, (0, (0, (0, [])))))).2.2.2.2.1, (List.getD a0 (tN y1) (0, (0, (0, (0, (0, [])))))).2.2.2.2.2))))) ((List.getD a1 (tN y1) (0, (0, (0, (0, (0, [])))))).1, ((List.getD a1 (tN y1) (0, (0, (0, (0, (0, [])))))).2.1, ((List.getD a1 (tN y1) (0, (0, (0, (0, (0, [])))))).2.2.1, ((List.getD a1 (tN y1) (0, (0, (0, (0, (0, [])))))).2.2.2.1, ((List.getD a1 (tN y1) (0, (0, (0, (0, (0, [])))))).2.2.2.2.1, (List.getD a1 (tN y1) (0, (0, (0, (0, (0, [])))))).2.2.2.2.2)))))), ((), ()))) → (caseB (!r2.1) (Eq (false, ((), ())) ((fEq_SessionS a0 a1), ((), ()))) (eS [(0, .val false [.lst (.pair (.int .i64) (.pair (.int .i64) (.pair (.int .i64) (.pair (.int .i64) (.pair (.int .i64) .str))))) a0 none]), (1, .val false [.lst (.pair (.int .i64) (.pair (.int .i64) (.pair (.int .i64) (.pair (.int .i64) (.pair (.int .i64) .str))))) a1 none])] [(0, .val false [.lst (.pair (.int .i64) (.pair (.int .i64) (.pair (.int .i64) (.pair (.int .i64) (.pair (.int .i64) .str))))) a0 none]), (1, .val false [.lst (.pair (.int .i64) (.pair (.int .i64) (.pair (.int .i64) (.pair (.int .i64) (.pair (.int .i64) .str))))) a1 none])] ∧ (eqLI a0 a1 (wI (y1 + (1 : Int)))) ∧ (eqLM a0 a1 (wI (y1 + (1 : Int)))) < (eqLM a0 a1 y1)))))))) (Eq (true, ((), ())) ((fEq_SessionS a0 a1), ((), ())))))))
def laws_eqSessionS.L  (a0 : (List (Int × (Int × (Int × (Int × (Int × (List UInt8)))))))) (a1 : (List (Int × (Int × (Int × (Int × (Int × (List UInt8)))))))) : Nat → Option LoopAnn := fun p => Go.Proofs.Ythkghdmpkdpnkaa.Bv.look p [(58, { kp := { hold := [0, 1], slots := [5], boxes := [], rows := [] }, T := (.int .i64), I := fun st y => eqLI a0 a1 y, μ := fun st y => eqLM a0 a1 y })]

theorem laws_eqSessionS.pure  (a0 : (List (Int × (Int × (Int × (Int × (Int × (List UInt8)))))))) (a1 : (List (Int × (Int × (Int × (Int × (Int × (List UInt8)))))))) (h : True) (hw : Wf c_laws_eqSessionS.A (a0, a1)) : laws_eqSessionS.F a0 a1 := by
  delta laws_eqSessionS.F ln tN wI eS
  have hw1 : a0.length ≤ 9223372036854775807 := hw.1.1
  simp only [forall_eq, true_and, and_true, caseB_iff, Prod.mk.injEq, decide_eq_true_eq, decide_eq_false_iff_not, Bool.not_eq_true', Bool.not_eq_false', bne_iff_ne, ne_eq, beq_iff_eq, Bool.not_true, Bool.not_false, beq_eq_false_iff_ne, bne_eq_false_iff_eq, List.length_append, List.length_cons, List.length_nil, List.append_nil, Nat.zero_add, decide_true, decide_false, eq_self_iff_true]
  refine ⟨fun h1 => ?_, fun h1 => ?_⟩
  · have : a0 ≠ a1 := fun e => by subst e; simp at h1
    simp [fEq_SessionS, this]
  have hl : a0.length = a1.length := by omega
  refine ⟨⟨by omega, by omega, hl, by simp⟩, ?_⟩
  rintro i hI
  have h2 := hI.1
  have h3 := hI.2.1
  refine ⟨fun hi => ⟨h2, hi, h2, by omega, fun hne => ?_, fun he => ?_⟩, fun hi => ?_⟩
  · have : a0 ≠ a1 := fun e => by subst e; simp [fEq_Session] at hne
    simp [fEq_SessionS, this]
  · have hg : a0.getD i.toNat ((0 : Int), ((0 : Int), ((0 : Int), ((0 : Int), ((0 : Int), ([] : (List UInt8))))))) = a1.getD i.toNat ((0 : Int), ((0 : Int), ((0 : Int), ((0 : Int), ((0 : Int), ([] : (List UInt8))))))) := by simpa only [fEq_Session, decide_eq_true_eq] using he
    rw [w64 (x := i + 1) (by omega) (by omega)]
    exact ⟨eqL_step hI hi hg, by unfold eqLM; omega⟩
  · have h6 := eqL_end hI hi
    simp [fEq_SessionS, h6]

set_option maxRecDepth 100000 in
theorem laws_eqSessionS.eq : EqS c_laws_eqSessionS Try.f68 [4] [laws_eqSession.e] [] (fun i x => laws_eqSessionS.L x.1 x.2) (fun i x => laws_eqSessionS.F x.1 x.2) := by intro i x; kernel_rfl
theorem laws_eqSessionS.ok : ConOk Try.prog 68 c_laws_eqSessionS := okOf laws_eqSessionS.eq Try.func68 rfl (by kernel_rfl) fun i x h hi hw => laws_eqSessionS.pure x.1 x.2 h hw
def laws_eqSessionS.e : GE := ⟨68, c_laws_eqSessionS, ⟨_, Try.func68, rfl, rfl⟩, laws_eqSessionS.ok⟩

def c_mSession (x : (Int × (Int × (Int × (Int × (Int × (List UInt8))))))) : Int := 1 + 1 + 1 + 1 + 1 + 1
def m_Session (x : (Int × (Int × (Int × (Int × (Int × (List UInt8))))))) (k : Int) : (Int × (Int × (Int × (Int × (Int × (List UInt8)))))) := (k, (k + 1), (((k + 1) + 1), (((k + 1) + 1) + 1), ((((k + 1) + 1) + 1) + 1), (fMT (((((k + 1) + 1) + 1) + 1) + 1))))
def o_Session (x : (Int × (Int × (Int × (Int × (Int × (List UInt8))))))) (k : Int) : Bool := (decide (x.1 = k)) && (decide (x.2.1 = (k + 1))) && (decide (x.2.2.1 = ((k + 1) + 1))) && (decide (x.2.2.2.1 = (((k + 1) + 1) + 1))) && (decide (x.2.2.2.2.1 = ((((k + 1) + 1) + 1) + 1))) && (decide (x.2.2.2.2.2 = fMT (((((k + 1) + 1) + 1) + 1) + 1)))
theorem ok_Session : ∀ (x : (Int × (Int × (Int × (Int × (Int × (List UInt8))))))) (k : Int), o_Session (m_Session x k) k = true ∧ c_mSession (m_Session x k) = c_mSession x := fun x k => by
  simp [o_Session, m_Session, c_mSession]
theorem pos_Session : ∀ x : (Int × (Int × (Int × (Int × (Int × (List UInt8)))))), 0 ≤ c_mSession x := fun x => by
  unfold c_mSession; omega
def pMk_SessionS (l : List (Int × (Int × (Int × (Int × (Int × (List UInt8))))))) (k : Int) : Prop := 0 ≤ k ∧ k + cL c_mSession l ≤ 4611686018427387904
def fMk_SessionS (l : List (Int × (Int × (Int × (Int × (Int × (List UInt8))))))) (k : Int) : Int × List (Int × (Int × (Int × (Int × (Int × (List UInt8)))))) := (k + cL c_mSession l, mL c_mSession m_Session l k)
def c_laws_markSessionS : Con := { A := (.pair (.list (.pair (.int .i64) (.pair (.int .i64) (.pair (.int .i64) (.pair (.int .i64) (.pair (.int .i64) .str)))))) (.int .i64)), shA := [.one, .one], backA := [(0, 130)], B := (.list (.pair (.int .i64) (.pair (.int .i64) (.pair (.int .i64) (.pair (.int .i64) (.pair (.int .i64) .str)))))), R := (.int .i64), shR := [(false, 1)], pre := fun _ a => (pMk_SessionS a.1 a.2), f := some fun _ a => ((fMk_SessionS a.1 a.2).1, ((), (fMk_SessionS a.1 a.2).2)) }
def laws_markSessionS.F  (a0 : (List (Int × (Int × (Int × (Int × (Int × (List UInt8)))))))) (a1 : Int) : Prop := (eS [(0, .val false [.own (.pair (.int .i64) (.pair (.int .i64) (.pair (.int .i64) (.pair (.int .i64) (.pair (.int .i64) .str))))) 2])] [(0, .val false [.own (.pair (.int .i64) (.pair (.int .i64) (.pair (.int .i64) (.pair (.int .i64) (.pair (.int .i64) .str))))) 2])] ∧ ((mkI c_mSession m_Session a0 a1 a1 0 a0) ∧ ∀ (y1 : (Int × (Int × (List (Int × (Int × (Int × (Int × (Int × (List UInt8)))))))))), (mkI c_mSession m_Session a0 a1 y1.1 y1.2.1 y1.2.2) → (caseB (decide (y1.2.1 < (ln y1.2.2))) (0 ≤ y1.2.1 ∧ (y1.2.1 < (ln y1.2.2) ∧ (let l2 : List (Int × (Int × (Int × (Int × (Int × (List UInt8)))))) := (List.set y1.2.2 (tN y1.2.1) (y1.1, ((List.getD y1.2.2 (tN y1.2.1) (0, (0, (0, (0, (0, [])))))).2.1, ((List.getD y1.2.2 (tN y1.2.1) (0, (0, (0, (0, (0, [])))))).2.2.1, ((List.getD y1.2.2 (tN y1.2.1) (0, (0, (0, (0, (0, [])))))).2.2.2.1, ((List.getD y1.2.2 (tN y1.2.1) (0, (0, (0, (0, (0, [])))))).2.2.2.2.1, (List.getD y1.2.2 (tN y1.2.1) (0, (0, (0, (0, (0, [])))))).2.2.2.2.2)))))); (0 ≤ y1.2.1 ∧ (y1.2.1 < (ln l2) ∧ (let l3 : List (Int × (Int × (Int × (Int × (Int × (List UInt8)))))) := (List.set l2 (tN y1.2.1) ((List.getD l2 (tN y1.2.1) (0, (0, (0, (0, (0, [])))))).1, ((wI (y1.1 + (1 : Int))), ((List.getD l2 (tN y1.2.1) (0, (0, (0, (0, (0, [])))))).2.2.1, ((List.getD l2 (tN y1.2.1) (0, (0, (0, (0, (0, [])))))).2.2.2.1, ((List.getD l2 (tN y1.2.1) (0, (0, (0, (0, (0, [])))))).2.2.2.2.1, (List.getD l2 (tN y1.2.1) (0, (0, (0, (0, (0, [])))))).2.2.2.2.2)))))); (0 ≤ y1.2.1 ∧ (y1.2.1 < (ln l3) ∧ (let l4 : List (Int × (Int × (Int × (Int × (Int × (List UInt8)))))) := (List.set l3 (tN y1.2.1) ((List.getD l3 (tN y1.2.1) (0, (0, (0, (0, (0, [])))))).1, ((List.getD l3 (tN y1.2.1) (0, (0, (0, (0, (0, [])))))).2.1, ((wI ((wI (y1.1 + (1 : Int))) + (1 : Int))), ((List.getD l3 (tN y1.2.1) (0, (0, (0, (0, (0, [])))))).2.2.2.1, ((List.getD l3 (tN y1.2.1) (0, (0, (0, (0, (0, [])))))).2.2.2.2.1, (List.getD l3 (tN y1.2.1) (0, (0, (0, (0, (0, [])))))).2.2.2.2.2)))))); (0 ≤ y1.2.1 ∧ (y1.2.1 < (ln l4) ∧ (let l5 : List (Int × (Int × (Int × (Int × (Int × (List UInt8)))))) := (List.set l4 (tN y1.2.1) ((List.getD l4 (tN y1.2.1) (0, (0, (0, (0, (0, [])))))).1, ((List.getD l4 (tN y1.2.1) (0, (0, (0, (0, (0, [])))))).2.1, ((List.getD l4 (tN y1.2.1) (0, (0, (0, (0, (0, [])))))).2.2.1, ((wI ((wI ((wI (y1.1 + (1 : Int))) + (1 : Int))) + (1 : Int))), ((List.getD l4 (tN y1.2.1) (0, (0, (0, (0, (0, [])))))).2.2.2.2.1, (List.getD l4 (tN y1.2.1) (0, (0, (0, (0, (0, [])))))).2.2.2.2.2)))))); (0 ≤ y1.2.1 ∧ (y1.2.1 < (ln l5) ∧ (let l6 : List (Int × (Int × (Int × (Int × (Int × (List UInt8)))))) := (List.set l5 (tN y1.2.1) ((List.getD l5 (tN y1.2.1) (0, (0, (0, (0, (0, [])))))).1, ((List.getD l5 (tN y1.2.1) (0, (0, (0, (0, (0, [])))))).2.1, ((List.getD l5 (tN y1.2.1) (0, (0, (0, (0, (0, [])))))).2.2.1, ((List.getD l5 (tN y1.2.1) (0, (0, (0, (0, (0, [])))))).2.2.2.1, ((wI ((wI ((wI ((wI (y1.1 + (1 : Int))) + (1 : Int))) + (1 : Int))) + (1 : Int))), (List.getD l5 (tN y1.2.1) (0, (0, (0, (0, (0, [])))))).2.2.2.2.2)))))); ((pMT (wI ((wI ((wI ((wI ((wI (y1.1 + (1 : Int))) + (1 : Int))) + (1 : Int))) + (1 : Int))) + (1 : Int)))) ∧ ∀ r7, (Eq r7 ((fMT (wI ((wI ((wI ((wI ((wI (y1.1 + (1 : Int))) + (1 : Int))) + (1 : Int))) + (1 : Int))) + (1 : Int)))), ((), ()))) → (0 ≤ y1.2.1 ∧ (y1.2.1 < (ln l6) ∧ (let l8 : List (Int × (Int × (Int × (Int × (Int × (List UInt8)))))) := (List.set l6 (tN y1.2.1) ((List.getD l6 (tN y1.2.1) (0, (0, (0, (0, (0, [])))))).1, ((List.getD l6 (tN y1.2.1) (0, (0, (0, (0, (0, [])))))).2.1, ((List.getD l6 (tN y1.2.1) (0, (0, (0, (0, (0, [])))))).2.2.1, ((List.getD l6 (tN y1.2.1) (0, (0, (0, (0, (0, [])))))).2.2.2.1, ((List.getD l6 (tN y1.2.1) (0, (0, (0, (0, (0, [])))))).2.2.2.2.1, r7.1)))))); (eS [(0, .val false [.own (.pair (.int .i64) (.pair (.int .i64) (.pair (.int .i64) (.pair (.int .i64) (.pair (.int .i64) .str))))) 2])] [(0, .val false [.own (.pair (.int .i64) (.pair (.int .i64) (.pair (.int .i64) (.pair (.int .i64) (.pair (.int .i64) .str))))) 2])] ∧ (mkI c_mSession m_Session a0 a1 (wI ((wI ((wI ((wI ((wI ((wI (y1.1 + (1 : Int))) + (1 : Int))) + (1 : Int))) + (1 : Int))) + (1 : Int))) + (1 : Int))) (wI (y1.2.1 + (1 : Int))) l8) ∧ (mkM a0 a1 (wI ((wI ((wI ((wI ((wI ((wI (y1.1 + (1 : Int))) + (1 : Int))) + (1 : Int))) + (1 : Int))) + (1 : Int))) + (1 : Int))) (wI (y1.2.1 + (1 : Int))) l8) < (mkM a0 a1 y1.1 y1.2.1 y1.2.2))))))))))))))))))))) (Eq (y1.1, ((), y1.2.2)) ((fMk_SessionS a0 a1).1, ((), (fMk_SessionS a0 a1).2))))))
def laws_markSessionS.L  (a0 : (List (Int × (Int × (Int × (Int × (Int × (List UInt8)))))))) (a1 : Int) : Nat → Option LoopAnn := fun p => Go.Proofs.Ythkghdmpkdpnkaa.Bv.look p [(26, { kp := { hold := [0], slots := [1, 5], boxes := [], rows := [{ bx := false, s := 0, i := 0, k := 2, e := 130, hot := true }] }, T := (.pair (.int .i64) (.pair (.int .i64) (.list (.pair (.int .i64) (.pair (.int .i64) (.pair (.int .i64) (.pair (.int .i64) (.pair (.int .i64) .str)))))))), I := fun st y => mkI c_mSession m_Session a0 a1 y.1 y.2.1 y.2.2, μ := fun st y => mkM a0 a1 y.1 y.2.1 y.2.2 })]

theorem laws_markSessionS.pure  (a0 : (List (Int × (Int × (Int × (Int × (Int × (List UInt8)))))))) (a1 : Int) (h : (pMk_SessionS a0 a1)) (hw : Wf c_laws_markSessionS.A (a0, a1)) : laws_markSessionS.F a0 a1 := by
  delta laws_markSessionS.F ln tN wI eS
  obtain ⟨p1, p2⟩ := h
  have hw1 : a0.length ≤ 9223372036854775807 := hw.1.1
  simp only [forall_eq, true_and, and_true, caseB_iff, Prod.mk.injEq, decide_eq_true_eq, decide_eq_false_iff_not, Bool.not_eq_true', Bool.not_eq_false', bne_iff_ne, ne_eq, beq_iff_eq, Bool.not_true, Bool.not_false, beq_eq_false_iff_ne, bne_eq_false_iff_eq, List.length_append, List.length_cons, List.length_nil, List.append_nil, Nat.zero_add, decide_true, decide_false, eq_self_iff_true]
  refine ⟨⟨by omega, by omega, by simp [cL], by simp [mL]⟩, ?_⟩
  rintro ⟨k, i, l⟩ hI
  simp only at hI ⊢
  have hl := mk_len hI
  have h2 := hI.1
  have h3 := hI.2
  refine ⟨fun hi0 => ?_, fun hi0 => ?_⟩
  · have hi : i < (a0.length : Int) := by omega
    have hi' : i.toNat < l.length := by omega
    have hg := mk_at (d := ((0 : Int), ((0 : Int), ((0 : Int), ((0 : Int), ((0 : Int), ([] : (List UInt8)))))))) hI hi
    have hs := cL_split c_mSession ((0 : Int), ((0 : Int), ((0 : Int), ((0 : Int), ((0 : Int), ([] : (List UInt8))))))) (l := a0) (i := i.toNat) (by omega)
    have hk := hI.3
    have c1 := cL_pos pos_Session (a0.take i.toNat)
    have c2 := cL_pos pos_Session (a0.drop (i.toNat + 1))
    have c3 := pos_Session (a0.getD i.toNat ((0 : Int), ((0 : Int), ((0 : Int), ((0 : Int), ((0 : Int), ([] : (List UInt8))))))))
    have hmod : Int.tmod k 3 = k % 3 := Int.tmod_eq_emod_of_nonneg (by omega)
    have hc : c_mSession (a0.getD i.toNat ((0 : Int), ((0 : Int), ((0 : Int), ((0 : Int), ((0 : Int), ([] : (List UInt8)))))))) = c_mSession (a0.getD i.toNat ((0 : Int), ((0 : Int), ((0 : Int), ((0 : Int), ((0 : Int), ([] : (List UInt8)))))))) := rfl
    conv at hc => rhs; unfold c_mSession
    try simp only [hg, getD_set_self hi', List.set_set, List.length_set]
    try simp (disch := first | omega | simp_all) only [getD_set_self, List.set_set, List.length_set, hg, w64, pMT]
    repeat' (with_reducible (first | (refine And.intro ?_ ?_) | intro _))
    all_goals (try simp +zetaDelta (disch := first | omega | simp_all) only [hg, getD_set_self, List.set_set, List.length_set, w64, pMT])
    all_goals (first | omega | exact mk_step (d := ((0 : Int), ((0 : Int), ((0 : Int), ((0 : Int), ((0 : Int), ([] : (List UInt8)))))))) hI hi (by simp [m_Session, hmod]) (by omega) | (unfold mkM; omega) | skip)
  · obtain ⟨e1, e2⟩ := mk_end hI (by omega)
    exact ⟨e1, e2⟩

set_option maxRecDepth 100000 in
theorem laws_markSessionS.eq : EqS c_laws_markSessionS Try.f71 [3] [laws_markText.e] [] (fun i x => laws_markSessionS.L x.1 x.2) (fun i x => laws_markSessionS.F x.1 x.2) := by intro i x; kernel_rfl
theorem laws_markSessionS.ok : ConOk Try.prog 71 c_laws_markSessionS := okOf laws_markSessionS.eq Try.func71 rfl (by kernel_rfl) fun i x h hi hw => laws_markSessionS.pure x.1 x.2 h hw
def laws_markSessionS.e : GE := ⟨71, c_laws_markSessionS, ⟨_, Try.func71, rfl, rfl⟩, laws_markSessionS.ok⟩

def fHd_SessionS (l : List (Int × (Int × (Int × (Int × (Int × (List UInt8))))))) (k : Int) : Int := fHd (cL c_mSession l) (oL c_mSession o_Session l k) k
def c_laws_heldSessionS : Con := { A := (.pair (.list (.pair (.int .i64) (.pair (.int .i64) (.pair (.int .i64) (.pair (.int .i64) (.pair (.int .i64) .str)))))) (.int .i64)), shA := [.one, .one], R := (.int .i64), shR := [(false, 1)], pre := fun _ a => (pMk_SessionS a.1 a.2), f := some fun _ a => ((fHd_SessionS a.1 a.2), ((), ())) }
def laws_heldSessionS.F  (a0 : (List (Int × (Int × (Int × (Int × (Int × (List UInt8)))))))) (a1 : Int) : Prop := (eS [(0, .val false [.lst (.pair (.int .i64) (.pair (.int .i64) (.pair (.int .i64) (.pair (.int .i64) (.pair (.int .i64) .str))))) a0 none])] [(0, .val false [.lst (.pair (.int .i64) (.pair (.int .i64) (.pair (.int .i64) (.pair (.int .i64) (.pair (.int .i64) .str))))) a0 none])] ∧ ((hdI c_mSession o_Session a0 a1 a1 0) ∧ ∀ (y1 : (Int × Int)), (hdI c_mSession o_Session a0 a1 y1.1 y1.2) → (caseB (decide (y1.2 < (ln a0))) (0 ≤ y1.2 ∧ (y1.2 < (ln a0) ∧ (caseB (((List.getD a0 (tN y1.2) (0, (0, (0, (0, (0, [])))))).1) != y1.1) (Eq ((-1), ((), ())) ((fHd_SessionS a0 a1), ((), ()))) (0 ≤ y1.2 ∧ (y1.2 < (ln a0) ∧ (caseB (((List.getD a0 (tN y1.2) (0, (0, (0, (0, (0, [])))))).2.1) != (wI (y1.1 + (1 : Int)))) (Eq ((-1), ((), ())) ((fHd_SessionS a0 a1), ((), ()))) (0 ≤ y1.2 ∧ (y1.2 < (ln a0) ∧ (caseB (((List.getD a0 (tN y1.2) (0, (0, (0, (0, (0, [])))))).2.2.1) != (wI ((wI (y1.1 + (1 : Int))) + (1 : Int)))) (Eq ((-1), ((), ())) ((fHd_SessionS a0 a1), ((), ()))) (0 ≤ y1.2 ∧ (y1.2 < (ln a0) ∧ (caseB (((List.getD a0 (tN y1.2) (0, (0, (0, (0, (0, [])))))).2.2.2.1) != (wI ((wI ((wI (y1.1 + (1 : Int))) + (1 : Int))) + (1 : Int)))) (Eq ((-1), ((), ())) ((fHd_SessionS a0 a1), ((), ()))) (0 ≤ y1.2 ∧ (y1.2 < (ln a0) ∧ (caseB (((List.getD a0 (tN y1.2) (0, (0, (0, (0, (0, [])))))).2.2.2.2.1) != (wI ((wI ((wI ((wI (y1.1 + (1 : Int))) + (1 : Int))) + (1 : Int))) + (1 : Int)))) (Eq ((-1), ((), ())) ((fHd_SessionS a0 a1), ((), ()))) (0 ≤ y1.2 ∧ (y1.2 < (ln a0) ∧ ((pMT (wI ((wI ((wI ((wI ((wI (y1.1 + (1 : Int))) + (1 : Int))) + (1 : Int))) + (1 : Int))) + (1 : Int)))) ∧ ∀ r2, (Eq r2 ((fMT (wI ((wI ((wI ((wI ((wI (y1.1 + (1 : Int))) + (1 : Int))) + (1 : Int))) + (1 : Int))) + (1 : Int)))), ((), ()))) → (caseB (!(((List.getD a0 (tN y1.2) (0, (0, (0, (0, (0, [])))))).2.2.2.2.2) == r2.1)) (Eq ((-1), ((), ())) ((fHd_SessionS a0 a1), ((), ()))) (eS [(0, .val false [.lst (.pair (.int .i64) (.pair (.int .i64) (.pair (.int .i64) (.pair (.int .i64) (.pair (.int .i64) .str))))) a0 none])] [(0, .val false [.lst (.pair (.int .i64) (.pair (.int .i64) (.pair (.int .i64) (.pair (.int .i64) (.pair (.int .i64) .str))))) a0 none])] ∧ (hdI c_mSession o_Session a0 a1 (wI ((wI ((wI ((wI ((wI ((wI (y1.1 + (1 : Int))) + (1 : Int))) + (1 : Int))) + (1 : Int))) + (1 : Int))) + (1 : Int))) (wI (y1.2 + (1 : Int)))) ∧ (hdM a0 a1 (wI ((wI ((wI ((wI ((wI ((wI (y1.1 + (1 : Int))) + (1 : Int))) + (1 : Int))) + (1 : Int))) + (1 : Int))) + (1 : Int))) (wI (y1.2 + (1 : Int)))) < (hdM a0 a1 y1.1 y1.2))))))))))))))))))))) (Eq (y1.1, ((), ())) ((fHd_SessionS a0 a1), ((), ()))))))
def laws_heldSessionS.L  (a0 : (List (Int × (Int × (Int × (Int × (Int × (List UInt8)))))))) (a1 : Int) : Nat → Option LoopAnn := fun p => Go.Proofs.Ythkghdmpkdpnkaa.Bv.look p [(26, { kp := { hold := [0], slots := [1, 5], boxes := [], rows := [] }, T := (.pair (.int .i64) (.int .i64)), I := fun st y => hdI c_mSession o_Session a0 a1 y.1 y.2, μ := fun st y => hdM a0 a1 y.1 y.2 })]

theorem laws_heldSessionS.pure  (a0 : (List (Int × (Int × (Int × (Int × (Int × (List UInt8)))))))) (a1 : Int) (h : (pMk_SessionS a0 a1)) (hw : Wf c_laws_heldSessionS.A (a0, a1)) : laws_heldSessionS.F a0 a1 := by
  delta laws_heldSessionS.F ln tN wI eS
  obtain ⟨p1, p2⟩ := h
  have hw1 : a0.length ≤ 9223372036854775807 := hw.1.1
  simp only [forall_eq, true_and, and_true, caseB_iff, Prod.mk.injEq, decide_eq_true_eq, decide_eq_false_iff_not, Bool.not_eq_true', Bool.not_eq_false', bne_iff_ne, ne_eq, beq_iff_eq, Bool.not_true, Bool.not_false, beq_eq_false_iff_ne, bne_eq_false_iff_eq, List.length_append, List.length_cons, List.length_nil, List.append_nil, Nat.zero_add, decide_true, decide_false, eq_self_iff_true]
  refine ⟨⟨by omega, by omega, by simp [cL], by simp⟩, ?_⟩
  rintro ⟨k, i⟩ hI
  simp only at hI ⊢
  have h2 := hI.1
  have h3 := hI.2
  refine ⟨fun hi => ?_, fun hi => hd_end hI hi⟩
  · have hs := cL_split c_mSession ((0 : Int), ((0 : Int), ((0 : Int), ((0 : Int), ((0 : Int), ([] : (List UInt8))))))) (l := a0) (i := i.toNat) (by omega)
    have hk := hI.3
    have c1 := cL_pos pos_Session (a0.take i.toNat)
    have c2 := cL_pos pos_Session (a0.drop (i.toNat + 1))
    have c3 := pos_Session (a0.getD i.toNat ((0 : Int), ((0 : Int), ((0 : Int), ((0 : Int), ((0 : Int), ([] : (List UInt8))))))))
    have hmod : Int.tmod k 3 = k % 3 := Int.tmod_eq_emod_of_nonneg (by omega)
    have no : o_Session (a0.getD i.toNat ((0 : Int), ((0 : Int), ((0 : Int), ((0 : Int), ((0 : Int), ([] : (List UInt8)))))))) k = false → -1 = fHd_SessionS a0 a1 := fun ho => hd_no ((0 : Int), ((0 : Int), ((0 : Int), ((0 : Int), ((0 : Int), ([] : (List UInt8))))))) hI hi ho
    have yes : o_Session (a0.getD i.toNat ((0 : Int), ((0 : Int), ((0 : Int), ((0 : Int), ((0 : Int), ([] : (List UInt8)))))))) k = true → hdI c_mSession o_Session a0 a1 (k + c_mSession (a0.getD i.toNat ((0 : Int), ((0 : Int), ((0 : Int), ((0 : Int), ((0 : Int), ([] : (List UInt8))))))))) (i + 1) := fun ho => hd_step ((0 : Int), ((0 : Int), ((0 : Int), ((0 : Int), ((0 : Int), ([] : (List UInt8))))))) hI hi ho rfl
    generalize a0.getD i.toNat ((0 : Int), ((0 : Int), ((0 : Int), ((0 : Int), ((0 : Int), ([] : (List UInt8))))))) = x at *
    have hc : c_mSession x = c_mSession x := rfl
    conv at hc => rhs; unfold c_mSession
    simp only [o_Session] at no yes
    simp (disch := omega) only [w64, pMT]
    repeat' (with_reducible (first | (refine And.intro ?_ ?_) | intro _))
    all_goals (first | omega | (unfold hdM; omega) | skip)
    all_goals (try simp (disch := first | omega | assumption) only [fHd_neg, fHd_yes, w64, Bool.not_eq_false] at *)
    all_goals (try simp (disch := first | omega | assumption) only [fHd_neg, fHd_yes, w64, Bool.not_eq_false] at *)
    all_goals (first | omega | grind)

set_option maxRecDepth 100000 in
theorem laws_heldSessionS.eq : EqS c_laws_heldSessionS Try.f74 [3] [laws_markText.e] [] (fun i x => laws_heldSessionS.L x.1 x.2) (fun i x => laws_heldSessionS.F x.1 x.2) := by intro i x; kernel_rfl
theorem laws_heldSessionS.ok : ConOk Try.prog 74 c_laws_heldSessionS := okOf laws_heldSessionS.eq Try.func74 rfl (by kernel_rfl) fun i x h hi hw => laws_heldSessionS.pure x.1 x.2 h hw
def laws_heldSessionS.e : GE := ⟨74, c_laws_heldSessionS, ⟨_, Try.func74, rfl, rfl⟩, laws_heldSessionS.ok⟩

end Go.Proofs.Ythkghdmpkdpnkaa.B
