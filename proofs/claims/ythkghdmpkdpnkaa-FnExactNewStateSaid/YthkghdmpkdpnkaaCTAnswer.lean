/- Values of the type Answer: how large, the same, marked. -/
import Derived.Test.YthkghdmpkdpnkaaCTypes
namespace Go.Proofs.Ythkghdmpkdpnkaa.B
set_option linter.unusedVariables false
set_option linter.unusedSimpArgs false
open Go Go.Proofs.Ythkghdmpkdpnkaa.Bv

def n_Answer (x : (Int × (Int × (Int × (List UInt8))))) : Nat := (x.2.2.2.length)
instance dec_Answer : DecidableEq (Int × (Int × (Int × (List UInt8)))) := by (iterate 20 (all_goals (first | infer_instance | refine @instDecidableEqProd _ _ ?_ ?_)))
def fEq_Answer (a b : (Int × (Int × (Int × (List UInt8))))) : Bool := decide (a = b)
def c_laws_eqAnswer : Con := { A := (.pair (.pair (.int .i64) (.pair (.int .i64) (.pair (.int .i64) .str))) (.pair (.int .i64) (.pair (.int .i64) (.pair (.int .i64) .str)))), shA := [.agg 4, .agg 4], R := .bool, shR := [(false, 1)], pre := fun _ _ => True, f := some fun _ a => ((fEq_Answer a.1 a.2), ((), ())) }
def laws_eqAnswer.F  (a0 : (Int × (Int × (Int × (List UInt8))))) (a1 : (Int × (Int × (Int × (List UInt8))))) : Prop := (caseB (a0.1 != a1.1) (Eq (false, ((), ())) ((fEq_Answer a0 a1), ((), ()))) (caseB (a0.2.1 != a1.2.1) (Eq (false, ((), ())) ((fEq_Answer a0 a1), ((), ()))) (caseB (a0.2.2.1 != a1.2.2.1) (Eq (false, ((), ())) ((fEq_Answer a0 a1), ((), ()))) (caseB (!(a0.2.2.2 == a1.2.2.2)) (Eq (false, ((), ())) ((fEq_Answer a0 a1), ((), ()))) (Eq (true, ((), ())) ((fEq_Answer a0 a1), ((), ())))))))

theorem laws_eqAnswer.pure  (a0 : (Int × (Int × (Int × (List UInt8))))) (a1 : (Int × (Int × (Int × (List UInt8))))) (h : True) (hw : Wf c_laws_eqAnswer.A (a0, a1)) : laws_eqAnswer.F a0 a1 := by
  unfold laws_eqAnswer.F
  obtain ⟨x1, x2, x3, x4⟩ := a0
  obtain ⟨y1, y2, y3, y4⟩ := a1
  simp only [forall_eq, true_and, and_true, caseB_iff, Prod.mk.injEq, decide_eq_true_eq, decide_eq_false_iff_not, Bool.not_eq_true', Bool.not_eq_false', bne_iff_ne, ne_eq, beq_iff_eq, Bool.not_true, Bool.not_false, beq_eq_false_iff_ne, bne_eq_false_iff_eq, List.length_append, List.length_cons, List.length_nil, List.append_nil, Nat.zero_add, decide_true, decide_false, eq_self_iff_true, fEq_Answer]
  repeat' (first | (refine And.intro ?_ ?_) | intro _)
  all_goals simp_all

set_option maxRecDepth 100000 in
theorem laws_eqAnswer.eq : EqS c_laws_eqAnswer Try.f122 [4] [] [] noL (fun i x => laws_eqAnswer.F x.1 x.2) := by intro i x; kernel_rfl
theorem laws_eqAnswer.ok : ConOk Try.prog 122 c_laws_eqAnswer := okOf laws_eqAnswer.eq Try.func122 rfl (by kernel_rfl) fun i x h hi hw => laws_eqAnswer.pure x.1 x.2 h hw
def laws_eqAnswer.e : GE := ⟨122, c_laws_eqAnswer, ⟨_, Try.func122, rfl, rfl⟩, laws_eqAnswer.ok⟩

def c_mAnswer (x : (Int × (Int × (Int × (List UInt8))))) : Int := 1 + 1 + 1 + 1
def m_Answer (x : (Int × (Int × (Int × (List UInt8))))) (k : Int) : (Int × (Int × (Int × (List UInt8)))) := (k, (k + 1), ((k + 1) + 1), (fMT (((k + 1) + 1) + 1)))
def o_Answer (x : (Int × (Int × (Int × (List UInt8))))) (k : Int) : Bool := (decide (x.1 = k)) && (decide (x.2.1 = (k + 1))) && (decide (x.2.2.1 = ((k + 1) + 1))) && (decide (x.2.2.2 = fMT (((k + 1) + 1) + 1)))
theorem ok_Answer : ∀ (x : (Int × (Int × (Int × (List UInt8))))) (k : Int), o_Answer (m_Answer x k) k = true ∧ c_mAnswer (m_Answer x k) = c_mAnswer x := fun x k => by
  simp [o_Answer, m_Answer, c_mAnswer]
theorem pos_Answer : ∀ x : (Int × (Int × (Int × (List UInt8)))), 0 ≤ c_mAnswer x := fun x => by
  unfold c_mAnswer; omega
end Go.Proofs.Ythkghdmpkdpnkaa.B
