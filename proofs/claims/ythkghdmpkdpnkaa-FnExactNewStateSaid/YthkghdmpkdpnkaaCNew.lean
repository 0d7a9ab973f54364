/- A new state. -/
import Derived.Test.YthkghdmpkdpnkaaCLib
namespace Go.Proofs.Ythkghdmpkdpnkaa.B
set_option linter.unusedVariables false
set_option linter.unusedSimpArgs false
open Go Go.Proofs.Ythkghdmpkdpnkaa.Bv

def stZero (k : Int) : (Int × (Int × (Int × ((List (Int × Int)) × ((Int × ((List ((List UInt8) × (List (Int × Int)))) × (List (List UInt8)))) × (List (Int × (Int × (Int × (Int × (Int × (List UInt8)))))))))))) := (k, (0, (0, ([], ((0, ([], [])), [])))))
def fNewState (k : Int) : (Int × (Int × (Int × ((List (Int × Int)) × ((Int × ((List ((List UInt8) × (List (Int × Int)))) × (List (List UInt8)))) × (List (Int × (Int × (Int × (Int × (Int × (List UInt8)))))))))))) × Bool := if k = 1 ∨ k = 2 then (stZero k, true) else (stZero 0, false)
def c_spec_NewState : Con := { A := (.int .i64), shA := [.one], R := (.pair (.pair (.int .i64) (.pair (.int .i64) (.pair (.int .i64) (.pair (.list (.pair (.int .i64) (.int .i64))) (.pair (.pair (.int .i64) (.pair (.list (.pair .str (.list (.pair (.int .i64) (.int .i64))))) (.list .str))) (.list (.pair (.int .i64) (.pair (.int .i64) (.pair (.int .i64) (.pair (.int .i64) (.pair (.int .i64) .str))))))))))) .bool), shR := [(true, 8), (false, 1)], fresh := [(3, 123), (5, 107), (6, 9), (7, 130)], pre := fun _ _ => True, f := some fun _ a => ((fNewState a), ((), ())) }
def spec_NewState.F  (a0 : Int) : Prop := (caseB (a0 != (1 : Int)) (caseB (a0 != (2 : Int)) (Eq (((0, (0, (0, (([] : (List (Int × Int))), ((0, (([] : (List ((List UInt8) × (List (Int × Int))))), ([] : (List (List UInt8))))), ([] : (List (Int × (Int × (Int × (Int × (Int × (List UInt8))))))))))))), false), ((), ())) ((fNewState a0), ((), ()))) (Eq (((a0, (0, (0, (([] : (List (Int × Int))), ((0, (([] : (List ((List UInt8) × (List (Int × Int))))), ([] : (List (List UInt8))))), ([] : (List (Int × (Int × (Int × (Int × (Int × (List UInt8))))))))))))), true), ((), ())) ((fNewState a0), ((), ())))) (Eq (((a0, (0, (0, (([] : (List (Int × Int))), ((0, (([] : (List ((List UInt8) × (List (Int × Int))))), ([] : (List (List UInt8))))), ([] : (List (Int × (Int × (Int × (Int × (Int × (List UInt8))))))))))))), true), ((), ())) ((fNewState a0), ((), ()))))

theorem spec_NewState.pure  (a0 : Int) (h : True) (hw : Wf c_spec_NewState.A a0) : spec_NewState.F a0 := by
  unfold spec_NewState.F
  simp only [forall_eq, true_and, and_true, caseB_iff, Prod.mk.injEq, decide_eq_true_eq, decide_eq_false_iff_not, Bool.not_eq_true', Bool.not_eq_false', bne_iff_ne, ne_eq, beq_iff_eq, Bool.not_true, Bool.not_false, beq_eq_false_iff_ne, bne_eq_false_iff_eq, List.length_append, List.length_cons, List.length_nil, List.append_nil, Nat.zero_add, decide_true, decide_false, eq_self_iff_true]
  repeat' (with_reducible (first | (refine And.intro ?_ ?_) | intro _))
  all_goals (try simp (disch := omega) only [w64, wu8, tn0, tn1, tm1, tm2, List.length_append, List.length_cons, List.length_nil] at *)
  all_goals (try simp (disch := omega) only [w64, wu8, tn0, tn1, tm1, tm2, List.length_append, List.length_cons, List.length_nil] at *)
  all_goals (try omega)
  all_goals (try grind [fNewState, stZero])

set_option maxRecDepth 100000 in
theorem spec_NewState.eq : EqS c_spec_NewState Try.f22 [50, 4] [] [] noL (fun i x => spec_NewState.F x) := by intro i x; kernel_rfl
theorem spec_NewState.ok : ConOk Try.prog 22 c_spec_NewState := okOf spec_NewState.eq Try.func22 rfl (by kernel_rfl) fun i x h hi hw => spec_NewState.pure x h hw
def spec_NewState.e : GE := ⟨22, c_spec_NewState, ⟨_, Try.func22, rfl, rfl⟩, spec_NewState.ok⟩

def c_impl_NewState : Con := { A := (.int .i64), shA := [.one], R := (.pair (.pair (.int .i64) (.pair (.int .i64) (.pair (.int .i64) (.pair (.list (.pair (.int .i64) (.int .i64))) (.pair (.pair (.int .i64) (.pair (.list (.pair .str (.list (.pair (.int .i64) (.int .i64))))) (.list .str))) (.list (.pair (.int .i64) (.pair (.int .i64) (.pair (.int .i64) (.pair (.int .i64) (.pair (.int .i64) .str))))))))))) .bool), shR := [(true, 8), (false, 1)], fresh := [(3, 123), (5, 107), (6, 9), (7, 130)], pre := fun _ _ => True, f := some fun _ a => ((fNewState a), ((), ())) }
def impl_NewState.F  (a0 : Int) : Prop := (caseB (a0 != (1 : Int)) (caseB (a0 != (2 : Int)) (Eq (((0, (0, (0, (([] : (List (Int × Int))), ((0, (([] : (List ((List UInt8) × (List (Int × Int))))), ([] : (List (List UInt8))))), ([] : (List (Int × (Int × (Int × (Int × (Int × (List UInt8))))))))))))), false), ((), ())) ((fNewState a0), ((), ()))) (Eq (((a0, (0, (0, (([] : (List (Int × Int))), ((0, (([] : (List ((List UInt8) × (List (Int × Int))))), ([] : (List (List UInt8))))), ([] : (List (Int × (Int × (Int × (Int × (Int × (List UInt8))))))))))))), true), ((), ())) ((fNewState a0), ((), ())))) (Eq (((a0, (0, (0, (([] : (List (Int × Int))), ((0, (([] : (List ((List UInt8) × (List (Int × Int))))), ([] : (List (List UInt8))))), ([] : (List (Int × (Int × (Int × (Int × (Int × (List UInt8))))))))))))), true), ((), ())) ((fNewState a0), ((), ()))))

theorem impl_NewState.pure  (a0 : Int) (h : True) (hw : Wf c_impl_NewState.A a0) : impl_NewState.F a0 := by
  unfold impl_NewState.F
  simp only [forall_eq, true_and, and_true, caseB_iff, Prod.mk.injEq, decide_eq_true_eq, decide_eq_false_iff_not, Bool.not_eq_true', Bool.not_eq_false', bne_iff_ne, ne_eq, beq_iff_eq, Bool.not_true, Bool.not_false, beq_eq_false_iff_ne, bne_eq_false_iff_eq, List.length_append, List.length_cons, List.length_nil, List.append_nil, Nat.zero_add, decide_true, decide_false, eq_self_iff_true]
  repeat' (with_reducible (first | (refine And.intro ?_ ?_) | intro _))
  all_goals (try simp (disch := omega) only [w64, wu8, tn0, tn1, tm1, tm2, List.length_append, List.length_cons, List.length_nil] at *)
  all_goals (try simp (disch := omega) only [w64, wu8, tn0, tn1, tm1, tm2, List.length_append, List.length_cons, List.length_nil] at *)
  all_goals (try omega)
  all_goals (try grind [fNewState, stZero])

set_option maxRecDepth 100000 in
theorem impl_NewState.eq : EqS c_impl_NewState Try.f23 [50, 4] [] [] noL (fun i x => impl_NewState.F x) := by intro i x; kernel_rfl
theorem impl_NewState.ok : ConOk Try.prog 23 c_impl_NewState := okOf impl_NewState.eq Try.func23 rfl (by kernel_rfl) fun i x h hi hw => impl_NewState.pure x h hw
def impl_NewState.e : GE := ⟨23, c_impl_NewState, ⟨_, Try.func23, rfl, rfl⟩, impl_NewState.ok⟩

end Go.Proofs.Ythkghdmpkdpnkaa.B
