/- Cores: copied, made, cut. -/
import Derived.Test.YthkghdmpkdpnkaaCCoreB
namespace Go.Proofs.Ythkghdmpkdpnkaa.B
set_option linter.unusedVariables false
set_option linter.unusedSimpArgs false
open Go Go.Proofs.Ythkghdmpkdpnkaa.Bv

def fCopyC (c : Core) : Core := c
def fTermAt (c : Core) (n : Int) : Int := if n = c.2.2.2.2.2.2.1 then c.2.2.2.2.2.2.2.1 else (c.2.2.2.2.2.2.2.2.1.getD (n - c.2.2.2.2.2.2.1 - 1).toNat (0, [])).1
def pTermAt (c : Core) (n : Int) : Prop := -1000000 ≤ c.2.2.2.2.2.2.1 ∧ c.2.2.2.2.2.2.1 ≤ 1000000 ∧ c.2.2.2.2.2.2.1 ≤ n ∧ n ≤ c.2.2.2.2.2.2.1 + c.2.2.2.2.2.2.2.2.1.length ∧ c.2.2.2.2.2.2.2.2.1.length ≤ 1000000
def wal0 : Wal := (0, (0, (0, (0, []))))
def core0 : Core := (0, (0, (0, (0, (0, (0, (0, (0, ([], (0, ([], ([], []))))))))))))
def fCoreWal (c : Core) : Wal := if fCoreOk c = true then fWalOf c else wal0
def coreOf (id peers : Int) (w : Wal) : Core := (id, (peers, (w.1, (w.2.1, (1, (-1, (w.2.2.1, (w.2.2.2.1, (w.2.2.2.2, (w.2.2.1, ([], ([], []))))))))))))
def pCoreOf (id peers : Int) (w : Wal) : Prop := w.2.2.2.2.length ≤ 1099511627776
def fCoreOf (id peers : Int) (w : Wal) : Core × Bool := if fCoreOk (coreOf id peers w) = true then (coreOf id peers w, true) else (core0, false)
def cutC (c : Core) (n : Int) : Core := (c.1, (c.2.1, (c.2.2.1, (c.2.2.2.1, (c.2.2.2.2.1, (c.2.2.2.2.2.1, (n, (fTermAt c n, (c.2.2.2.2.2.2.2.2.1.drop (n - c.2.2.2.2.2.2.1).toNat, (c.2.2.2.2.2.2.2.2.2.1, (c.2.2.2.2.2.2.2.2.2.2.1, (c.2.2.2.2.2.2.2.2.2.2.2.1, c.2.2.2.2.2.2.2.2.2.2.2.2))))))))))))
def fCompact (c : Core) (n : Int) : Core × Bool := if fCoreOk c = true then (if fIn n (c.2.2.2.2.2.2.1 + 1) c.2.2.2.2.2.2.2.2.2.1 = true then (cutC c n, true) else (c, false)) else (core0, false)
theorem coreOk_in {c : Core} (h : fCoreOk c = true) : 0 ≤ c.2.2.2.2.2.2.1 ∧ c.2.2.2.2.2.2.1 ≤ 100000 ∧ c.2.2.2.2.2.2.2.2.1.length ≤ 60 ∧ c.2.2.2.2.2.2.1 ≤ c.2.2.2.2.2.2.2.2.2.1 ∧ c.2.2.2.2.2.2.2.2.2.1 ≤ c.2.2.2.2.2.2.1 + c.2.2.2.2.2.2.2.2.1.length ∧ 1 ≤ c.2.1 ∧ c.2.1 ≤ 5 := by
  simp only [fCoreOk, fCoreHead, Bool.and_eq_true, fIn_iff, fWalOk, fWalOf, decide_eq_true_eq] at h
  obtain ⟨⟨h1, h2, ⟨h3, h4, h5, h6, h7, h8⟩, h9, h10⟩, h11⟩ := h
  have h12 := fPlace_in h5
  have h13 := of_decide_eq_true h7
  unfold fCoreLast at h10
  rw [w64 (by omega) (by omega)] at h10
  omega
def c_impl_copyCore : Con := { A := (.pair (.int .i64) (.pair (.int .i64) (.pair (.int .i64) (.pair (.int .i64) (.pair (.int .i64) (.pair (.int .i64) (.pair (.int .i64) (.pair (.int .i64) (.pair (.list (.pair (.int .i64) .str)) (.pair (.int .i64) (.pair (.list (.int .i64)) (.pair (.list (.int .i64)) (.list (.int .i64)))))))))))))), shA := [.agg 13], R := (.pair (.int .i64) (.pair (.int .i64) (.pair (.int .i64) (.pair (.int .i64) (.pair (.int .i64) (.pair (.int .i64) (.pair (.int .i64) (.pair (.int .i64) (.pair (.list (.pair (.int .i64) .str)) (.pair (.int .i64) (.pair (.list (.int .i64)) (.pair (.list (.int .i64)) (.list (.int .i64)))))))))))))), shR := [(true, 13)], fresh := [(8, 100), (10, 3), (11, 3), (12, 3)], pre := fun _ a => (pCore a), f := some fun _ a => ((fCopyC a), ((), ())) }
def impl_copyCore.F  (a0 : (Int × (Int × (Int × (Int × (Int × (Int × (Int × (Int × ((List (Int × (List UInt8))) × (Int × ((List Int) × ((List Int) × (List Int)))))))))))))) : Prop := ((pLen a0.2.2.2.2.2.2.2.2.1) ∧ ∀ r1, (Eq r1 ((fId a0.2.2.2.2.2.2.2.2.1), ((), ()))) → ((pLen a0.2.2.2.2.2.2.2.2.2.2.1) ∧ ∀ r2, (Eq r2 ((fId a0.2.2.2.2.2.2.2.2.2.2.1), ((), ()))) → ((pLen a0.2.2.2.2.2.2.2.2.2.2.2.1) ∧ ∀ r3, (Eq r3 ((fId a0.2.2.2.2.2.2.2.2.2.2.2.1), ((), ()))) → ((pLen a0.2.2.2.2.2.2.2.2.2.2.2.2) ∧ ∀ r4, (Eq r4 ((fId a0.2.2.2.2.2.2.2.2.2.2.2.2), ((), ()))) → (Eq ((a0.1, (a0.2.1, (a0.2.2.1, (a0.2.2.2.1, (a0.2.2.2.2.1, (a0.2.2.2.2.2.1, (a0.2.2.2.2.2.2.1, (a0.2.2.2.2.2.2.2.1, (r1.1, (a0.2.2.2.2.2.2.2.2.2.1, (r2.1, (r3.1, r4.1)))))))))))), ((), ())) ((fCopyC a0), ((), ())))))))

theorem impl_copyCore.pure  (a0 : (Int × (Int × (Int × (Int × (Int × (Int × (Int × (Int × ((List (Int × (List UInt8))) × (Int × ((List Int) × ((List Int) × (List Int)))))))))))))) (h : (pCore a0)) (hw : Wf c_impl_copyCore.A a0) : impl_copyCore.F a0 := by
  unfold impl_copyCore.F
  have hpc : pCore a0 := h
  obtain ⟨p0, p1, p2, p3⟩ := h
  simp only [forall_eq, true_and, and_true, caseB_iff, Prod.mk.injEq, decide_eq_true_eq, decide_eq_false_iff_not, Bool.not_eq_true', Bool.not_eq_false', bne_iff_ne, ne_eq, beq_iff_eq, Bool.not_true, Bool.not_false, beq_eq_false_iff_ne, bne_eq_false_iff_eq, List.length_append, List.length_cons, List.length_nil, List.append_nil, Nat.zero_add, decide_true, decide_false, eq_self_iff_true, fCopyC, fId, pLen, Prod.eta]
  repeat' (with_reducible (first | (refine And.intro ?_ ?_) | intro _))
  all_goals (try simp (disch := omega) only [w64, wu8, tn0, tn1, tm1, tm2, List.length_append, List.length_cons, List.length_nil] at *)
  all_goals (try simp (disch := omega) only [w64, wu8, tn0, tn1, tm1, tm2, List.length_append, List.length_cons, List.length_nil] at *)
  all_goals (try omega)
  all_goals (try grind [])

set_option maxRecDepth 100000 in
theorem impl_copyCore.eq : EqS c_impl_copyCore Try.f82 [39] [slices_Clone_impl_Entry_impl_Entry.e, slices_Clone_int_int.e] [] noL (fun i x => impl_copyCore.F x) := by intro i x; kernel_rfl
theorem impl_copyCore.ok : ConOk Try.prog 82 c_impl_copyCore := okOf impl_copyCore.eq Try.func82 rfl (by kernel_rfl) fun i x h hi hw => impl_copyCore.pure x h hw
def impl_copyCore.e : GE := ⟨82, c_impl_copyCore, ⟨_, Try.func82, rfl, rfl⟩, impl_copyCore.ok⟩

def c_spec_l16Copy : Con := { A := (.pair (.int .i64) (.pair (.int .i64) (.pair (.int .i64) (.pair (.int .i64) (.pair (.int .i64) (.pair (.int .i64) (.pair (.int .i64) (.pair (.int .i64) (.pair (.list (.pair (.int .i64) .str)) (.pair (.int .i64) (.pair (.list (.int .i64)) (.pair (.list (.int .i64)) (.list (.int .i64)))))))))))))), shA := [.agg 13], R := (.pair (.int .i64) (.pair (.int .i64) (.pair (.int .i64) (.pair (.int .i64) (.pair (.int .i64) (.pair (.int .i64) (.pair (.int .i64) (.pair (.int .i64) (.pair (.list (.pair (.int .i64) .str)) (.pair (.int .i64) (.pair (.list (.int .i64)) (.pair (.list (.int .i64)) (.list (.int .i64)))))))))))))), shR := [(true, 13)], fresh := [(8, 100), (10, 3), (11, 3), (12, 3)], pre := fun _ a => (pCore a), f := some fun _ a => ((fCopyC a), ((), ())) }
def spec_l16Copy.F  (a0 : (Int × (Int × (Int × (Int × (Int × (Int × (Int × (Int × ((List (Int × (List UInt8))) × (Int × ((List Int) × ((List Int) × (List Int)))))))))))))) : Prop := (List.length ([] : List (Int × (List UInt8))) + List.length a0.2.2.2.2.2.2.2.2.1 ≤ 9223372036854775807 ∧ ((List.length ([] : List (Int × (List UInt8))) + List.length a0.2.2.2.2.2.2.2.2.1) * 24 ≤ 140737488355328 ∧ (List.length ([] : List Int) + List.length a0.2.2.2.2.2.2.2.2.2.2.1 ≤ 9223372036854775807 ∧ ((List.length ([] : List Int) + List.length a0.2.2.2.2.2.2.2.2.2.2.1) * 8 ≤ 140737488355328 ∧ (List.length ([] : List Int) + List.length a0.2.2.2.2.2.2.2.2.2.2.2.1 ≤ 9223372036854775807 ∧ ((List.length ([] : List Int) + List.length a0.2.2.2.2.2.2.2.2.2.2.2.1) * 8 ≤ 140737488355328 ∧ (List.length ([] : List Int) + List.length a0.2.2.2.2.2.2.2.2.2.2.2.2 ≤ 9223372036854775807 ∧ ((List.length ([] : List Int) + List.length a0.2.2.2.2.2.2.2.2.2.2.2.2) * 8 ≤ 140737488355328 ∧ (Eq ((a0.1, (a0.2.1, (a0.2.2.1, (a0.2.2.2.1, (a0.2.2.2.2.1, (a0.2.2.2.2.2.1, (a0.2.2.2.2.2.2.1, (a0.2.2.2.2.2.2.2.1, ((([] : List (Int × (List UInt8))) ++ a0.2.2.2.2.2.2.2.2.1), (a0.2.2.2.2.2.2.2.2.2.1, ((([] : List Int) ++ a0.2.2.2.2.2.2.2.2.2.2.1), ((([] : List Int) ++ a0.2.2.2.2.2.2.2.2.2.2.2.1), (([] : List Int) ++ a0.2.2.2.2.2.2.2.2.2.2.2.2))))))))))))), ((), ())) ((fCopyC a0), ((), ())))))))))))

theorem spec_l16Copy.pure  (a0 : (Int × (Int × (Int × (Int × (Int × (Int × (Int × (Int × ((List (Int × (List UInt8))) × (Int × ((List Int) × ((List Int) × (List Int)))))))))))))) (h : (pCore a0)) (hw : Wf c_spec_l16Copy.A a0) : spec_l16Copy.F a0 := by
  unfold spec_l16Copy.F
  have hpc : pCore a0 := h
  obtain ⟨p0, p1, p2, p3⟩ := h
  simp only [forall_eq, true_and, and_true, caseB_iff, Prod.mk.injEq, decide_eq_true_eq, decide_eq_false_iff_not, Bool.not_eq_true', Bool.not_eq_false', bne_iff_ne, ne_eq, beq_iff_eq, Bool.not_true, Bool.not_false, beq_eq_false_iff_ne, bne_eq_false_iff_eq, List.length_append, List.length_cons, List.length_nil, List.append_nil, Nat.zero_add, decide_true, decide_false, eq_self_iff_true, fCopyC, fId, pLen, Prod.eta]
  repeat' (with_reducible (first | (refine And.intro ?_ ?_) | intro _))
  all_goals (try simp (disch := omega) only [w64, wu8, tn0, tn1, tm1, tm2, List.length_append, List.length_cons, List.length_nil] at *)
  all_goals (try simp (disch := omega) only [w64, wu8, tn0, tn1, tm1, tm2, List.length_append, List.length_cons, List.length_nil] at *)
  all_goals (try omega)
  all_goals (try grind [])

set_option maxRecDepth 100000 in
theorem spec_l16Copy.eq : EqS c_spec_l16Copy Try.f80 [39] [] [] noL (fun i x => spec_l16Copy.F x) := by intro i x; kernel_rfl
theorem spec_l16Copy.ok : ConOk Try.prog 80 c_spec_l16Copy := okOf spec_l16Copy.eq Try.func80 rfl (by kernel_rfl) fun i x h hi hw => spec_l16Copy.pure x h hw
def spec_l16Copy.e : GE := ⟨80, c_spec_l16Copy, ⟨_, Try.func80, rfl, rfl⟩, spec_l16Copy.ok⟩

def c_impl_co_termAt : Con := { A := (.pair (.pair (.int .i64) (.pair (.int .i64) (.pair (.int .i64) (.pair (.int .i64) (.pair (.int .i64) (.pair (.int .i64) (.pair (.int .i64) (.pair (.int .i64) (.pair (.list (.pair (.int .i64) .str)) (.pair (.int .i64) (.pair (.list (.int .i64)) (.pair (.list (.int .i64)) (.list (.int .i64)))))))))))))) (.int .i64)), shA := [.ptr 13, .one], R := (.int .i64), shR := [(false, 1)], pre := fun _ a => (pTermAt a.1 a.2), f := some fun _ a => ((fTermAt a.1 a.2), ((), ())) }
def impl_co_termAt.F  (a0 : (Int × (Int × (Int × (Int × (Int × (Int × (Int × (Int × ((List (Int × (List UInt8))) × (Int × ((List Int) × ((List Int) × (List Int)))))))))))))) (a1 : Int) : Prop := (caseB (a1 == a0.2.2.2.2.2.2.1) (Eq (a0.2.2.2.2.2.2.2.1, ((), ())) ((fTermAt a0 a1), ((), ()))) (0 ≤ (wI ((wI (a1 - a0.2.2.2.2.2.2.1)) - (1 : Int))) ∧ ((wI ((wI (a1 - a0.2.2.2.2.2.2.1)) - (1 : Int))) < (ln a0.2.2.2.2.2.2.2.2.1) ∧ (Eq ((List.getD a0.2.2.2.2.2.2.2.2.1 (tN (wI ((wI (a1 - a0.2.2.2.2.2.2.1)) - (1 : Int)))) (0, [])).1, ((), ())) ((fTermAt a0 a1), ((), ()))))))

theorem impl_co_termAt.pure  (a0 : (Int × (Int × (Int × (Int × (Int × (Int × (Int × (Int × ((List (Int × (List UInt8))) × (Int × ((List Int) × ((List Int) × (List Int)))))))))))))) (a1 : Int) (h : (pTermAt a0 a1)) (hw : Wf c_impl_co_termAt.A (a0, a1)) : impl_co_termAt.F a0 a1 := by
  delta impl_co_termAt.F ln tN wI
  simp only [forall_eq, true_and, and_true, caseB_iff, Prod.mk.injEq, decide_eq_true_eq, decide_eq_false_iff_not, Bool.not_eq_true', Bool.not_eq_false', bne_iff_ne, ne_eq, beq_iff_eq, Bool.not_true, Bool.not_false, beq_eq_false_iff_ne, bne_eq_false_iff_eq, List.length_append, List.length_cons, List.length_nil, List.append_nil, Nat.zero_add, decide_true, decide_false, eq_self_iff_true, Prod.eta]
  obtain ⟨p1, p2, p3, p4, p5⟩ := h
  rw [w64 (x := a1 - a0.2.2.2.2.2.2.1) (by omega) (by omega), w64 (x := a1 - a0.2.2.2.2.2.2.1 - 1) (by omega) (by omega)]
  unfold fTermAt
  refine ⟨fun h1 => (if_pos h1).symm, fun h1 => ⟨by omega, by omega, (if_neg h1).symm⟩⟩

set_option maxRecDepth 100000 in
theorem impl_co_termAt.eq : EqS c_impl_co_termAt Try.f83 [3] [] [] noL (fun i x => impl_co_termAt.F x.1 x.2) := by intro i x; kernel_rfl
theorem impl_co_termAt.ok : ConOk Try.prog 83 c_impl_co_termAt := okOf impl_co_termAt.eq Try.func83 rfl (by kernel_rfl) fun i x h hi hw => impl_co_termAt.pure x.1 x.2 h hw
def impl_co_termAt.e : GE := ⟨83, c_impl_co_termAt, ⟨_, Try.func83, rfl, rfl⟩, impl_co_termAt.ok⟩

def c_spec_l16TermAt : Con := { A := (.pair (.pair (.int .i64) (.pair (.int .i64) (.pair (.int .i64) (.pair (.int .i64) (.pair (.int .i64) (.pair (.int .i64) (.pair (.int .i64) (.pair (.int .i64) (.pair (.list (.pair (.int .i64) .str)) (.pair (.int .i64) (.pair (.list (.int .i64)) (.pair (.list (.int .i64)) (.list (.int .i64)))))))))))))) (.int .i64)), shA := [.agg 13, .one], R := (.int .i64), shR := [(false, 1)], pre := fun _ a => (pTermAt a.1 a.2), f := some fun _ a => ((fTermAt a.1 a.2), ((), ())) }
def spec_l16TermAt.F  (a0 : (Int × (Int × (Int × (Int × (Int × (Int × (Int × (Int × ((List (Int × (List UInt8))) × (Int × ((List Int) × ((List Int) × (List Int)))))))))))))) (a1 : Int) : Prop := (caseB (a1 == a0.2.2.2.2.2.2.1) (Eq (a0.2.2.2.2.2.2.2.1, ((), ())) ((fTermAt a0 a1), ((), ()))) (0 ≤ (wI ((wI (a1 - a0.2.2.2.2.2.2.1)) - (1 : Int))) ∧ ((wI ((wI (a1 - a0.2.2.2.2.2.2.1)) - (1 : Int))) < (ln a0.2.2.2.2.2.2.2.2.1) ∧ (Eq ((List.getD a0.2.2.2.2.2.2.2.2.1 (tN (wI ((wI (a1 - a0.2.2.2.2.2.2.1)) - (1 : Int)))) (0, [])).1, ((), ())) ((fTermAt a0 a1), ((), ()))))))

theorem spec_l16TermAt.pure  (a0 : (Int × (Int × (Int × (Int × (Int × (Int × (Int × (Int × ((List (Int × (List UInt8))) × (Int × ((List Int) × ((List Int) × (List Int)))))))))))))) (a1 : Int) (h : (pTermAt a0 a1)) (hw : Wf c_spec_l16TermAt.A (a0, a1)) : spec_l16TermAt.F a0 a1 := by
  delta spec_l16TermAt.F ln tN wI
  simp only [forall_eq, true_and, and_true, caseB_iff, Prod.mk.injEq, decide_eq_true_eq, decide_eq_false_iff_not, Bool.not_eq_true', Bool.not_eq_false', bne_iff_ne, ne_eq, beq_iff_eq, Bool.not_true, Bool.not_false, beq_eq_false_iff_ne, bne_eq_false_iff_eq, List.length_append, List.length_cons, List.length_nil, List.append_nil, Nat.zero_add, decide_true, decide_false, eq_self_iff_true, Prod.eta]
  obtain ⟨p1, p2, p3, p4, p5⟩ := h
  rw [w64 (x := a1 - a0.2.2.2.2.2.2.1) (by omega) (by omega), w64 (x := a1 - a0.2.2.2.2.2.2.1 - 1) (by omega) (by omega)]
  unfold fTermAt
  refine ⟨fun h1 => (if_pos h1).symm, fun h1 => ⟨by omega, by omega, (if_neg h1).symm⟩⟩

set_option maxRecDepth 100000 in
theorem spec_l16TermAt.eq : EqS c_spec_l16TermAt Try.f81 [3] [] [] noL (fun i x => spec_l16TermAt.F x.1 x.2) := by intro i x; kernel_rfl
theorem spec_l16TermAt.ok : ConOk Try.prog 81 c_spec_l16TermAt := okOf spec_l16TermAt.eq Try.func81 rfl (by kernel_rfl) fun i x h hi hw => spec_l16TermAt.pure x.1 x.2 h hw
def spec_l16TermAt.e : GE := ⟨81, c_spec_l16TermAt, ⟨_, Try.func81, rfl, rfl⟩, spec_l16TermAt.ok⟩

def c_impl_CoreWal : Con := { A := (.pair (.int .i64) (.pair (.int .i64) (.pair (.int .i64) (.pair (.int .i64) (.pair (.int .i64) (.pair (.int .i64) (.pair (.int .i64) (.pair (.int .i64) (.pair (.list (.pair (.int .i64) .str)) (.pair (.int .i64) (.pair (.list (.int .i64)) (.pair (.list (.int .i64)) (.list (.int .i64)))))))))))))), shA := [.agg 13], R := (.pair (.int .i64) (.pair (.int .i64) (.pair (.int .i64) (.pair (.int .i64) (.list (.pair (.int .i64) .str)))))), shR := [(true, 5)], fresh := [(4, 100)], pre := fun _ a => (pCore a), f := some fun _ a => ((fCoreWal a), ((), ())) }
def impl_CoreWal.F  (a0 : (Int × (Int × (Int × (Int × (Int × (Int × (Int × (Int × ((List (Int × (List UInt8))) × (Int × ((List Int) × ((List Int) × (List Int)))))))))))))) : Prop := ((pCore (a0.1, (a0.2.1, (a0.2.2.1, (a0.2.2.2.1, (a0.2.2.2.2.1, (a0.2.2.2.2.2.1, (a0.2.2.2.2.2.2.1, (a0.2.2.2.2.2.2.2.1, (a0.2.2.2.2.2.2.2.2.1, (a0.2.2.2.2.2.2.2.2.2.1, (a0.2.2.2.2.2.2.2.2.2.2.1, (a0.2.2.2.2.2.2.2.2.2.2.2.1, a0.2.2.2.2.2.2.2.2.2.2.2.2))))))))))))) ∧ ∀ r1, (Eq r1 ((fCoreOk (a0.1, (a0.2.1, (a0.2.2.1, (a0.2.2.2.1, (a0.2.2.2.2.1, (a0.2.2.2.2.2.1, (a0.2.2.2.2.2.2.1, (a0.2.2.2.2.2.2.2.1, (a0.2.2.2.2.2.2.2.2.1, (a0.2.2.2.2.2.2.2.2.2.1, (a0.2.2.2.2.2.2.2.2.2.2.1, (a0.2.2.2.2.2.2.2.2.2.2.2.1, a0.2.2.2.2.2.2.2.2.2.2.2.2))))))))))))), ((), ()))) → (caseB (!r1.1) (Eq ((0, (0, (0, (0, ([] : (List (Int × (List UInt8)))))))), ((), ())) ((fCoreWal a0), ((), ()))) ((pCore (a0.1, (a0.2.1, (a0.2.2.1, (a0.2.2.2.1, (a0.2.2.2.2.1, (a0.2.2.2.2.2.1, (a0.2.2.2.2.2.2.1, (a0.2.2.2.2.2.2.2.1, (a0.2.2.2.2.2.2.2.2.1, (a0.2.2.2.2.2.2.2.2.2.1, (a0.2.2.2.2.2.2.2.2.2.2.1, (a0.2.2.2.2.2.2.2.2.2.2.2.1, a0.2.2.2.2.2.2.2.2.2.2.2.2))))))))))))) ∧ ∀ r2, (Eq r2 ((fWalOf (a0.1, (a0.2.1, (a0.2.2.1, (a0.2.2.2.1, (a0.2.2.2.2.1, (a0.2.2.2.2.2.1, (a0.2.2.2.2.2.2.1, (a0.2.2.2.2.2.2.2.1, (a0.2.2.2.2.2.2.2.2.1, (a0.2.2.2.2.2.2.2.2.2.1, (a0.2.2.2.2.2.2.2.2.2.2.1, (a0.2.2.2.2.2.2.2.2.2.2.2.1, a0.2.2.2.2.2.2.2.2.2.2.2.2))))))))))))), ((), ()))) → (Eq ((r2.1.1, (r2.1.2.1, (r2.1.2.2.1, (r2.1.2.2.2.1, r2.1.2.2.2.2)))), ((), ())) ((fCoreWal a0), ((), ()))))))

theorem impl_CoreWal.pure  (a0 : (Int × (Int × (Int × (Int × (Int × (Int × (Int × (Int × ((List (Int × (List UInt8))) × (Int × ((List Int) × ((List Int) × (List Int)))))))))))))) (h : (pCore a0)) (hw : Wf c_impl_CoreWal.A a0) : impl_CoreWal.F a0 := by
  unfold impl_CoreWal.F
  have hpc : pCore a0 := h
  obtain ⟨p0, p1, p2, p3⟩ := h
  simp only [forall_eq, true_and, and_true, caseB_iff, Prod.mk.injEq, decide_eq_true_eq, decide_eq_false_iff_not, Bool.not_eq_true', Bool.not_eq_false', bne_iff_ne, ne_eq, beq_iff_eq, Bool.not_true, Bool.not_false, beq_eq_false_iff_ne, bne_eq_false_iff_eq, List.length_append, List.length_cons, List.length_nil, List.append_nil, Nat.zero_add, decide_true, decide_false, eq_self_iff_true, Prod.eta]
  repeat' (with_reducible (first | (refine And.intro ?_ ?_) | intro _))
  all_goals (try simp (disch := omega) only [w64, wu8, tn0, tn1, tm1, tm2, List.length_append, List.length_cons, List.length_nil] at *)
  all_goals (try simp (disch := omega) only [w64, wu8, tn0, tn1, tm1, tm2, List.length_append, List.length_cons, List.length_nil] at *)
  all_goals (try omega)
  all_goals (try grind [fCoreWal, wal0])

set_option maxRecDepth 100000 in
theorem impl_CoreWal.eq : EqS c_impl_CoreWal Try.f36 [62] [impl_CoreOk.e, impl_wal.e] [] noL (fun i x => impl_CoreWal.F x) := by intro i x; kernel_rfl
theorem impl_CoreWal.ok : ConOk Try.prog 36 c_impl_CoreWal := okOf impl_CoreWal.eq Try.func36 rfl (by kernel_rfl) fun i x h hi hw => impl_CoreWal.pure x h hw
def impl_CoreWal.e : GE := ⟨36, c_impl_CoreWal, ⟨_, Try.func36, rfl, rfl⟩, impl_CoreWal.ok⟩

def c_spec_CoreWal : Con := { A := (.pair (.int .i64) (.pair (.int .i64) (.pair (.int .i64) (.pair (.int .i64) (.pair (.int .i64) (.pair (.int .i64) (.pair (.int .i64) (.pair (.int .i64) (.pair (.list (.pair (.int .i64) .str)) (.pair (.int .i64) (.pair (.list (.int .i64)) (.pair (.list (.int .i64)) (.list (.int .i64)))))))))))))), shA := [.agg 13], R := (.pair (.int .i64) (.pair (.int .i64) (.pair (.int .i64) (.pair (.int .i64) (.list (.pair (.int .i64) .str)))))), shR := [(true, 5)], fresh := [(4, 100)], pre := fun _ a => (pCore a), f := some fun _ a => ((fCoreWal a), ((), ())) }
def spec_CoreWal.F  (a0 : (Int × (Int × (Int × (Int × (Int × (Int × (Int × (Int × ((List (Int × (List UInt8))) × (Int × ((List Int) × ((List Int) × (List Int)))))))))))))) : Prop := ((pCore (a0.1, (a0.2.1, (a0.2.2.1, (a0.2.2.2.1, (a0.2.2.2.2.1, (a0.2.2.2.2.2.1, (a0.2.2.2.2.2.2.1, (a0.2.2.2.2.2.2.2.1, (a0.2.2.2.2.2.2.2.2.1, (a0.2.2.2.2.2.2.2.2.2.1, (a0.2.2.2.2.2.2.2.2.2.2.1, (a0.2.2.2.2.2.2.2.2.2.2.2.1, a0.2.2.2.2.2.2.2.2.2.2.2.2))))))))))))) ∧ ∀ r1, (Eq r1 ((fCoreOk (a0.1, (a0.2.1, (a0.2.2.1, (a0.2.2.2.1, (a0.2.2.2.2.1, (a0.2.2.2.2.2.1, (a0.2.2.2.2.2.2.1, (a0.2.2.2.2.2.2.2.1, (a0.2.2.2.2.2.2.2.2.1, (a0.2.2.2.2.2.2.2.2.2.1, (a0.2.2.2.2.2.2.2.2.2.2.1, (a0.2.2.2.2.2.2.2.2.2.2.2.1, a0.2.2.2.2.2.2.2.2.2.2.2.2))))))))))))), ((), ()))) → (caseB (!r1.1) (Eq ((0, (0, (0, (0, ([] : (List (Int × (List UInt8)))))))), ((), ())) ((fCoreWal a0), ((), ()))) ((pCore (a0.1, (a0.2.1, (a0.2.2.1, (a0.2.2.2.1, (a0.2.2.2.2.1, (a0.2.2.2.2.2.1, (a0.2.2.2.2.2.2.1, (a0.2.2.2.2.2.2.2.1, (a0.2.2.2.2.2.2.2.2.1, (a0.2.2.2.2.2.2.2.2.2.1, (a0.2.2.2.2.2.2.2.2.2.2.1, (a0.2.2.2.2.2.2.2.2.2.2.2.1, a0.2.2.2.2.2.2.2.2.2.2.2.2))))))))))))) ∧ ∀ r2, (Eq r2 ((fWalOf (a0.1, (a0.2.1, (a0.2.2.1, (a0.2.2.2.1, (a0.2.2.2.2.1, (a0.2.2.2.2.2.1, (a0.2.2.2.2.2.2.1, (a0.2.2.2.2.2.2.2.1, (a0.2.2.2.2.2.2.2.2.1, (a0.2.2.2.2.2.2.2.2.2.1, (a0.2.2.2.2.2.2.2.2.2.2.1, (a0.2.2.2.2.2.2.2.2.2.2.2.1, a0.2.2.2.2.2.2.2.2.2.2.2.2))))))))))))), ((), ()))) → (Eq ((r2.1.1, (r2.1.2.1, (r2.1.2.2.1, (r2.1.2.2.2.1, r2.1.2.2.2.2)))), ((), ())) ((fCoreWal a0), ((), ()))))))

theorem spec_CoreWal.pure  (a0 : (Int × (Int × (Int × (Int × (Int × (Int × (Int × (Int × ((List (Int × (List UInt8))) × (Int × ((List Int) × ((List Int) × (List Int)))))))))))))) (h : (pCore a0)) (hw : Wf c_spec_CoreWal.A a0) : spec_CoreWal.F a0 := by
  unfold spec_CoreWal.F
  have hpc : pCore a0 := h
  obtain ⟨p0, p1, p2, p3⟩ := h
  simp only [forall_eq, true_and, and_true, caseB_iff, Prod.mk.injEq, decide_eq_true_eq, decide_eq_false_iff_not, Bool.not_eq_true', Bool.not_eq_false', bne_iff_ne, ne_eq, beq_iff_eq, Bool.not_true, Bool.not_false, beq_eq_false_iff_ne, bne_eq_false_iff_eq, List.length_append, List.length_cons, List.length_nil, List.append_nil, Nat.zero_add, decide_true, decide_false, eq_self_iff_true, Prod.eta]
  repeat' (with_reducible (first | (refine And.intro ?_ ?_) | intro _))
  all_goals (try simp (disch := omega) only [w64, wu8, tn0, tn1, tm1, tm2, List.length_append, List.length_cons, List.length_nil] at *)
  all_goals (try simp (disch := omega) only [w64, wu8, tn0, tn1, tm1, tm2, List.length_append, List.length_cons, List.length_nil] at *)
  all_goals (try omega)
  all_goals (try grind [fCoreWal, wal0])

set_option maxRecDepth 100000 in
theorem spec_CoreWal.eq : EqS c_spec_CoreWal Try.f35 [62] [spec_CoreOk.e, spec_l16Wal.e] [] noL (fun i x => spec_CoreWal.F x) := by intro i x; kernel_rfl
theorem spec_CoreWal.ok : ConOk Try.prog 35 c_spec_CoreWal := okOf spec_CoreWal.eq Try.func35 rfl (by kernel_rfl) fun i x h hi hw => spec_CoreWal.pure x h hw
def spec_CoreWal.e : GE := ⟨35, c_spec_CoreWal, ⟨_, Try.func35, rfl, rfl⟩, spec_CoreWal.ok⟩

def c_impl_CoreOf : Con := { A := (.pair (.int .i64) (.pair (.int .i64) (.pair (.int .i64) (.pair (.int .i64) (.pair (.int .i64) (.pair (.int .i64) (.list (.pair (.int .i64) .str)))))))), shA := [.one, .one, .agg 5], R := (.pair (.pair (.int .i64) (.pair (.int .i64) (.pair (.int .i64) (.pair (.int .i64) (.pair (.int .i64) (.pair (.int .i64) (.pair (.int .i64) (.pair (.int .i64) (.pair (.list (.pair (.int .i64) .str)) (.pair (.int .i64) (.pair (.list (.int .i64)) (.pair (.list (.int .i64)) (.list (.int .i64)))))))))))))) .bool), shR := [(true, 13), (false, 1)], fresh := [(8, 100), (10, 3), (11, 3), (12, 3)], pre := fun _ a => (pCoreOf a.1 a.2.1 a.2.2), f := some fun _ a => ((fCoreOf a.1 a.2.1 a.2.2), ((), ())) }
def impl_CoreOf.F  (a0 : Int) (a1 : Int) (a2 : (Int × (Int × (Int × (Int × (List (Int × (List UInt8)))))))) : Prop := ((pLen a2.2.2.2.2) ∧ ∀ r1, (Eq r1 ((fId a2.2.2.2.2), ((), ()))) → ((pCore (a0, (a1, (a2.1, (a2.2.1, (1, ((-1), (a2.2.2.1, (a2.2.2.2.1, (r1.1, (a2.2.2.1, (([] : (List Int)), (([] : (List Int)), ([] : (List Int))))))))))))))) ∧ ∀ r2, (Eq r2 ((fCoreOk (a0, (a1, (a2.1, (a2.2.1, (1, ((-1), (a2.2.2.1, (a2.2.2.2.1, (r1.1, (a2.2.2.1, (([] : (List Int)), (([] : (List Int)), ([] : (List Int))))))))))))))), ((), ()))) → (caseB (!r2.1) (Eq (((0, (0, (0, (0, (0, (0, (0, (0, (([] : (List (Int × (List UInt8)))), (0, (([] : (List Int)), (([] : (List Int)), ([] : (List Int)))))))))))))), false), ((), ())) ((fCoreOf a0 a1 a2), ((), ()))) (Eq (((a0, (a1, (a2.1, (a2.2.1, (1, ((-1), (a2.2.2.1, (a2.2.2.2.1, (r1.1, (a2.2.2.1, (([] : (List Int)), (([] : (List Int)), ([] : (List Int)))))))))))))), true), ((), ())) ((fCoreOf a0 a1 a2), ((), ()))))))

theorem impl_CoreOf.pure  (a0 : Int) (a1 : Int) (a2 : (Int × (Int × (Int × (Int × (List (Int × (List UInt8)))))))) (h : (pCoreOf a0 a1 a2)) (hw : Wf c_impl_CoreOf.A (a0, a1, a2)) : impl_CoreOf.F a0 a1 a2 := by
  unfold impl_CoreOf.F
  have hp : a2.2.2.2.2.length ≤ 1099511627776 := h
  have hq : pCore (coreOf a0 a1 a2) := ⟨hp, by simp [coreOf], by simp [coreOf], by simp [coreOf]⟩
  simp only [forall_eq, true_and, and_true, caseB_iff, Prod.mk.injEq, decide_eq_true_eq, decide_eq_false_iff_not, Bool.not_eq_true', Bool.not_eq_false', bne_iff_ne, ne_eq, beq_iff_eq, Bool.not_true, Bool.not_false, beq_eq_false_iff_ne, bne_eq_false_iff_eq, List.length_append, List.length_cons, List.length_nil, List.append_nil, Nat.zero_add, decide_true, decide_false, eq_self_iff_true, Prod.eta, pLen, fId]
  repeat' (with_reducible (first | (refine And.intro ?_ ?_) | intro _))
  all_goals (try simp (disch := omega) only [w64, wu8, tn0, tn1, tm1, tm2, List.length_append, List.length_cons, List.length_nil] at *)
  all_goals (try simp (disch := omega) only [w64, wu8, tn0, tn1, tm1, tm2, List.length_append, List.length_cons, List.length_nil] at *)
  all_goals (try omega)
  all_goals (try grind [fCoreOf, core0, coreOf])

set_option maxRecDepth 100000 in
theorem impl_CoreOf.eq : EqS c_impl_CoreOf Try.f30 [39, 4] [impl_CoreOk.e, slices_Clone_impl_Entry_impl_Entry.e] [] noL (fun i x => impl_CoreOf.F x.1 x.2.1 x.2.2) := by intro i x; kernel_rfl
theorem impl_CoreOf.ok : ConOk Try.prog 30 c_impl_CoreOf := okOf impl_CoreOf.eq Try.func30 rfl (by kernel_rfl) fun i x h hi hw => impl_CoreOf.pure x.1 x.2.1 x.2.2 h hw
def impl_CoreOf.e : GE := ⟨30, c_impl_CoreOf, ⟨_, Try.func30, rfl, rfl⟩, impl_CoreOf.ok⟩

def c_spec_CoreOf : Con := { A := (.pair (.int .i64) (.pair (.int .i64) (.pair (.int .i64) (.pair (.int .i64) (.pair (.int .i64) (.pair (.int .i64) (.list (.pair (.int .i64) .str)))))))), shA := [.one, .one, .agg 5], R := (.pair (.pair (.int .i64) (.pair (.int .i64) (.pair (.int .i64) (.pair (.int .i64) (.pair (.int .i64) (.pair (.int .i64) (.pair (.int .i64) (.pair (.int .i64) (.pair (.list (.pair (.int .i64) .str)) (.pair (.int .i64) (.pair (.list (.int .i64)) (.pair (.list (.int .i64)) (.list (.int .i64)))))))))))))) .bool), shR := [(true, 13), (false, 1)], fresh := [(8, 100), (10, 3), (11, 3), (12, 3)], pre := fun _ a => (pCoreOf a.1 a.2.1 a.2.2), f := some fun _ a => ((fCoreOf a.1 a.2.1 a.2.2), ((), ())) }
def spec_CoreOf.F  (a0 : Int) (a1 : Int) (a2 : (Int × (Int × (Int × (Int × (List (Int × (List UInt8)))))))) : Prop := (List.length ([] : List (Int × (List UInt8))) + List.length a2.2.2.2.2 ≤ 9223372036854775807 ∧ ((List.length ([] : List (Int × (List UInt8))) + List.length a2.2.2.2.2) * 24 ≤ 140737488355328 ∧ ((pCore (a0, (a1, (a2.1, (a2.2.1, (1, ((-1), (a2.2.2.1, (a2.2.2.2.1, ((([] : List (Int × (List UInt8))) ++ a2.2.2.2.2), (a2.2.2.1, (([] : (List Int)), (([] : (List Int)), ([] : (List Int))))))))))))))) ∧ ∀ r1, (Eq r1 ((fCoreOk (a0, (a1, (a2.1, (a2.2.1, (1, ((-1), (a2.2.2.1, (a2.2.2.2.1, ((([] : List (Int × (List UInt8))) ++ a2.2.2.2.2), (a2.2.2.1, (([] : (List Int)), (([] : (List Int)), ([] : (List Int))))))))))))))), ((), ()))) → (caseB (!r1.1) (Eq (((0, (0, (0, (0, (0, (0, (0, (0, (([] : (List (Int × (List UInt8)))), (0, (([] : (List Int)), (([] : (List Int)), ([] : (List Int)))))))))))))), false), ((), ())) ((fCoreOf a0 a1 a2), ((), ()))) (Eq (((a0, (a1, (a2.1, (a2.2.1, (1, ((-1), (a2.2.2.1, (a2.2.2.2.1, ((([] : List (Int × (List UInt8))) ++ a2.2.2.2.2), (a2.2.2.1, (([] : (List Int)), (([] : (List Int)), ([] : (List Int)))))))))))))), true), ((), ())) ((fCoreOf a0 a1 a2), ((), ())))))))

theorem spec_CoreOf.pure  (a0 : Int) (a1 : Int) (a2 : (Int × (Int × (Int × (Int × (List (Int × (List UInt8)))))))) (h : (pCoreOf a0 a1 a2)) (hw : Wf c_spec_CoreOf.A (a0, a1, a2)) : spec_CoreOf.F a0 a1 a2 := by
  unfold spec_CoreOf.F
  have hp : a2.2.2.2.2.length ≤ 1099511627776 := h
  have hq : pCore (coreOf a0 a1 a2) := ⟨hp, by simp [coreOf], by simp [coreOf], by simp [coreOf]⟩
  simp only [forall_eq, true_and, and_true, caseB_iff, Prod.mk.injEq, decide_eq_true_eq, decide_eq_false_iff_not, Bool.not_eq_true', Bool.not_eq_false', bne_iff_ne, ne_eq, beq_iff_eq, Bool.not_true, Bool.not_false, beq_eq_false_iff_ne, bne_eq_false_iff_eq, List.length_append, List.length_cons, List.length_nil, List.append_nil, Nat.zero_add, decide_true, decide_false, eq_self_iff_true, Prod.eta, pLen, fId]
  repeat' (with_reducible (first | (refine And.intro ?_ ?_) | intro _))
  all_goals (try simp (disch := omega) only [w64, wu8, tn0, tn1, tm1, tm2, List.length_append, List.length_cons, List.length_nil] at *)
  all_goals (try simp (disch := omega) only [w64, wu8, tn0, tn1, tm1, tm2, List.length_append, List.length_cons, List.length_nil] at *)
  all_goals (try omega)
  all_goals (try grind [fCoreOf, core0, coreOf])

set_option maxRecDepth 100000 in
theorem spec_CoreOf.eq : EqS c_spec_CoreOf Try.f28 [39, 4] [spec_CoreOk.e] [] noL (fun i x => spec_CoreOf.F x.1 x.2.1 x.2.2) := by intro i x; kernel_rfl
theorem spec_CoreOf.ok : ConOk Try.prog 28 c_spec_CoreOf := okOf spec_CoreOf.eq Try.func28 rfl (by kernel_rfl) fun i x h hi hw => spec_CoreOf.pure x.1 x.2.1 x.2.2 h hw
def spec_CoreOf.e : GE := ⟨28, c_spec_CoreOf, ⟨_, Try.func28, rfl, rfl⟩, spec_CoreOf.ok⟩

def pCore1 (c : Core) (n : Int) : Prop := pCore c
def c_impl_Compact : Con := { A := (.pair (.pair (.int .i64) (.pair (.int .i64) (.pair (.int .i64) (.pair (.int .i64) (.pair (.int .i64) (.pair (.int .i64) (.pair (.int .i64) (.pair (.int .i64) (.pair (.list (.pair (.int .i64) .str)) (.pair (.int .i64) (.pair (.list (.int .i64)) (.pair (.list (.int .i64)) (.list (.int .i64)))))))))))))) (.int .i64)), shA := [.agg 13, .one], R := (.pair (.pair (.int .i64) (.pair (.int .i64) (.pair (.int .i64) (.pair (.int .i64) (.pair (.int .i64) (.pair (.int .i64) (.pair (.int .i64) (.pair (.int .i64) (.pair (.list (.pair (.int .i64) .str)) (.pair (.int .i64) (.pair (.list (.int .i64)) (.pair (.list (.int .i64)) (.list (.int .i64)))))))))))))) .bool), shR := [(true, 13), (false, 1)], fresh := [(8, 100), (10, 3), (11, 3), (12, 3)], pre := fun _ a => (pCore1 a.1 a.2), f := some fun _ a => ((fCompact a.1 a.2), ((), ())) }
def impl_Compact.F  (a0 : (Int × (Int × (Int × (Int × (Int × (Int × (Int × (Int × ((List (Int × (List UInt8))) × (Int × ((List Int) × ((List Int) × (List Int)))))))))))))) (a1 : Int) : Prop := ((pCore (a0.1, (a0.2.1, (a0.2.2.1, (a0.2.2.2.1, (a0.2.2.2.2.1, (a0.2.2.2.2.2.1, (a0.2.2.2.2.2.2.1, (a0.2.2.2.2.2.2.2.1, (a0.2.2.2.2.2.2.2.2.1, (a0.2.2.2.2.2.2.2.2.2.1, (a0.2.2.2.2.2.2.2.2.2.2.1, (a0.2.2.2.2.2.2.2.2.2.2.2.1, a0.2.2.2.2.2.2.2.2.2.2.2.2))))))))))))) ∧ ∀ r1, (Eq r1 ((fCoreOk (a0.1, (a0.2.1, (a0.2.2.1, (a0.2.2.2.1, (a0.2.2.2.2.1, (a0.2.2.2.2.2.1, (a0.2.2.2.2.2.2.1, (a0.2.2.2.2.2.2.2.1, (a0.2.2.2.2.2.2.2.2.1, (a0.2.2.2.2.2.2.2.2.2.1, (a0.2.2.2.2.2.2.2.2.2.2.1, (a0.2.2.2.2.2.2.2.2.2.2.2.1, a0.2.2.2.2.2.2.2.2.2.2.2.2))))))))))))), ((), ()))) → (caseB (!r1.1) (Eq (((0, (0, (0, (0, (0, (0, (0, (0, (([] : (List (Int × (List UInt8)))), (0, (([] : (List Int)), (([] : (List Int)), ([] : (List Int)))))))))))))), false), ((), ())) ((fCompact a0 a1), ((), ()))) ((pCore (a0.1, (a0.2.1, (a0.2.2.1, (a0.2.2.2.1, (a0.2.2.2.2.1, (a0.2.2.2.2.2.1, (a0.2.2.2.2.2.2.1, (a0.2.2.2.2.2.2.2.1, (a0.2.2.2.2.2.2.2.2.1, (a0.2.2.2.2.2.2.2.2.2.1, (a0.2.2.2.2.2.2.2.2.2.2.1, (a0.2.2.2.2.2.2.2.2.2.2.2.1, a0.2.2.2.2.2.2.2.2.2.2.2.2))))))))))))) ∧ ∀ r2, (Eq r2 ((fCopyC (a0.1, (a0.2.1, (a0.2.2.1, (a0.2.2.2.1, (a0.2.2.2.2.1, (a0.2.2.2.2.2.1, (a0.2.2.2.2.2.2.1, (a0.2.2.2.2.2.2.2.1, (a0.2.2.2.2.2.2.2.2.1, (a0.2.2.2.2.2.2.2.2.2.1, (a0.2.2.2.2.2.2.2.2.2.2.1, (a0.2.2.2.2.2.2.2.2.2.2.2.1, a0.2.2.2.2.2.2.2.2.2.2.2.2))))))))))))), ((), ()))) → (True ∧ ∀ r3, (Eq r3 ((fIn a1 (wI (r2.1.2.2.2.2.2.2.1 + (1 : Int))) r2.1.2.2.2.2.2.2.2.2.2.1), ((), ()))) → (caseB (!r3.1) (Eq (((r2.1.1, (r2.1.2.1, (r2.1.2.2.1, (r2.1.2.2.2.1, (r2.1.2.2.2.2.1, (r2.1.2.2.2.2.2.1, (r2.1.2.2.2.2.2.2.1, (r2.1.2.2.2.2.2.2.2.1, (r2.1.2.2.2.2.2.2.2.2.1, (r2.1.2.2.2.2.2.2.2.2.2.1, (r2.1.2.2.2.2.2.2.2.2.2.2.1, (r2.1.2.2.2.2.2.2.2.2.2.2.2.1, r2.1.2.2.2.2.2.2.2.2.2.2.2.2)))))))))))), false), ((), ())) ((fCompact a0 a1), ((), ()))) ((pTermAt (r2.1.1, (r2.1.2.1, (r2.1.2.2.1, (r2.1.2.2.2.1, (r2.1.2.2.2.2.1, (r2.1.2.2.2.2.2.1, (r2.1.2.2.2.2.2.2.1, (r2.1.2.2.2.2.2.2.2.1, (r2.1.2.2.2.2.2.2.2.2.1, (r2.1.2.2.2.2.2.2.2.2.2.1, (r2.1.2.2.2.2.2.2.2.2.2.2.1, (r2.1.2.2.2.2.2.2.2.2.2.2.2.1, r2.1.2.2.2.2.2.2.2.2.2.2.2.2)))))))))))) a1) ∧ ∀ r4, (Eq r4 ((fTermAt (r2.1.1, (r2.1.2.1, (r2.1.2.2.1, (r2.1.2.2.2.1, (r2.1.2.2.2.2.1, (r2.1.2.2.2.2.2.1, (r2.1.2.2.2.2.2.2.1, (r2.1.2.2.2.2.2.2.2.1, (r2.1.2.2.2.2.2.2.2.2.1, (r2.1.2.2.2.2.2.2.2.2.2.1, (r2.1.2.2.2.2.2.2.2.2.2.2.1, (r2.1.2.2.2.2.2.2.2.2.2.2.2.1, r2.1.2.2.2.2.2.2.2.2.2.2.2.2)))))))))))) a1), ((), ()))) → (0 ≤ (wI (a1 - r2.1.2.2.2.2.2.2.1)) ∧ ((wI (a1 - r2.1.2.2.2.2.2.2.1)) ≤ (ln r2.1.2.2.2.2.2.2.2.2.1) ∧ (Eq (((r2.1.1, (r2.1.2.1, (r2.1.2.2.1, (r2.1.2.2.2.1, (r2.1.2.2.2.2.1, (r2.1.2.2.2.2.2.1, (a1, (r4.1, ((List.drop (tN (wI (a1 - r2.1.2.2.2.2.2.2.1))) r2.1.2.2.2.2.2.2.2.2.1), (r2.1.2.2.2.2.2.2.2.2.2.1, (r2.1.2.2.2.2.2.2.2.2.2.2.1, (r2.1.2.2.2.2.2.2.2.2.2.2.2.1, r2.1.2.2.2.2.2.2.2.2.2.2.2.2)))))))))))), true), ((), ())) ((fCompact a0 a1), ((), ())))))))))))

theorem impl_Compact.pure  (a0 : (Int × (Int × (Int × (Int × (Int × (Int × (Int × (Int × ((List (Int × (List UInt8))) × (Int × ((List Int) × ((List Int) × (List Int)))))))))))))) (a1 : Int) (h : (pCore1 a0 a1)) (hw : Wf c_impl_Compact.A (a0, a1)) : impl_Compact.F a0 a1 := by
  delta impl_Compact.F ln tN wI
  have hpc : pCore a0 := h
  obtain ⟨p0, p1, p2, p3⟩ := h
  have hin := fun h : fCoreOk a0 = true => coreOk_in h
  simp only [forall_eq, true_and, and_true, caseB_iff, Prod.mk.injEq, decide_eq_true_eq, decide_eq_false_iff_not, Bool.not_eq_true', Bool.not_eq_false', bne_iff_ne, ne_eq, beq_iff_eq, Bool.not_true, Bool.not_false, beq_eq_false_iff_ne, bne_eq_false_iff_eq, List.length_append, List.length_cons, List.length_nil, List.append_nil, Nat.zero_add, decide_true, decide_false, eq_self_iff_true, Prod.eta, fCopyC, pTermAt]
  repeat' (with_reducible (first | (refine And.intro ?_ ?_) | intro _))
  all_goals (try simp (disch := omega) only [w64, wu8, tn0, tn1, tm1, tm2, List.length_append, List.length_cons, List.length_nil] at *)
  all_goals (try simp (disch := omega) only [w64, wu8, tn0, tn1, tm1, tm2, List.length_append, List.length_cons, List.length_nil] at *)
  all_goals (try omega)
  all_goals (try grind [fCompact, core0, cutC, fIn_iff])
  all_goals (have hh := hin (by assumption))
  all_goals (try simp (disch := omega) only [w64, fIn_iff, fIn_no] at *)
  all_goals (try omega)
  all_goals (try simp (disch := omega) only [w64, fIn_iff, fIn_no] at *)
  all_goals (try omega)
  all_goals (try grind [fCompact, core0, cutC, fIn_iff])

set_option maxRecDepth 100000 in
theorem impl_Compact.eq : EqS c_impl_Compact Try.f39 [39, 4] [impl_CoreOk.e, impl_from.e, impl_copyCore.e, impl_co_termAt.e] [30] noL (fun i x => impl_Compact.F x.1 x.2) := by intro i x; kernel_rfl
theorem impl_Compact.ok : ConOk Try.prog 39 c_impl_Compact := okOf impl_Compact.eq Try.func39 rfl (by kernel_rfl) fun i x h hi hw => impl_Compact.pure x.1 x.2 h hw
def impl_Compact.e : GE := ⟨39, c_impl_Compact, ⟨_, Try.func39, rfl, rfl⟩, impl_Compact.ok⟩

def c_spec_Compact : Con := { A := (.pair (.pair (.int .i64) (.pair (.int .i64) (.pair (.int .i64) (.pair (.int .i64) (.pair (.int .i64) (.pair (.int .i64) (.pair (.int .i64) (.pair (.int .i64) (.pair (.list (.pair (.int .i64) .str)) (.pair (.int .i64) (.pair (.list (.int .i64)) (.pair (.list (.int .i64)) (.list (.int .i64)))))))))))))) (.int .i64)), shA := [.agg 13, .one], R := (.pair (.pair (.int .i64) (.pair (.int .i64) (.pair (.int .i64) (.pair (.int .i64) (.pair (.int .i64) (.pair (.int .i64) (.pair (.int .i64) (.pair (.int .i64) (.pair (.list (.pair (.int .i64) .str)) (.pair (.int .i64) (.pair (.list (.int .i64)) (.pair (.list (.int .i64)) (.list (.int .i64)))))))))))))) .bool), shR := [(true, 13), (false, 1)], pre := fun _ a => (pCore1 a.1 a.2), f := some fun _ a => ((fCompact a.1 a.2), ((), ())) }
def spec_Compact.F  (a0 : (Int × (Int × (Int × (Int × (Int × (Int × (Int × (Int × ((List (Int × (List UInt8))) × (Int × ((List Int) × ((List Int) × (List Int)))))))))))))) (a1 : Int) : Prop := ((pCore (a0.1, (a0.2.1, (a0.2.2.1, (a0.2.2.2.1, (a0.2.2.2.2.1, (a0.2.2.2.2.2.1, (a0.2.2.2.2.2.2.1, (a0.2.2.2.2.2.2.2.1, (a0.2.2.2.2.2.2.2.2.1, (a0.2.2.2.2.2.2.2.2.2.1, (a0.2.2.2.2.2.2.2.2.2.2.1, (a0.2.2.2.2.2.2.2.2.2.2.2.1, a0.2.2.2.2.2.2.2.2.2.2.2.2))))))))))))) ∧ ∀ r1, (Eq r1 ((fCoreOk (a0.1, (a0.2.1, (a0.2.2.1, (a0.2.2.2.1, (a0.2.2.2.2.1, (a0.2.2.2.2.2.1, (a0.2.2.2.2.2.2.1, (a0.2.2.2.2.2.2.2.1, (a0.2.2.2.2.2.2.2.2.1, (a0.2.2.2.2.2.2.2.2.2.1, (a0.2.2.2.2.2.2.2.2.2.2.1, (a0.2.2.2.2.2.2.2.2.2.2.2.1, a0.2.2.2.2.2.2.2.2.2.2.2.2))))))))))))), ((), ()))) → (caseB (!r1.1) (Eq (((0, (0, (0, (0, (0, (0, (0, (0, (([] : (List (Int × (List UInt8)))), (0, (([] : (List Int)), (([] : (List Int)), ([] : (List Int)))))))))))))), false), ((), ())) ((fCompact a0 a1), ((), ()))) ((pCore (a0.1, (a0.2.1, (a0.2.2.1, (a0.2.2.2.1, (a0.2.2.2.2.1, (a0.2.2.2.2.2.1, (a0.2.2.2.2.2.2.1, (a0.2.2.2.2.2.2.2.1, (a0.2.2.2.2.2.2.2.2.1, (a0.2.2.2.2.2.2.2.2.2.1, (a0.2.2.2.2.2.2.2.2.2.2.1, (a0.2.2.2.2.2.2.2.2.2.2.2.1, a0.2.2.2.2.2.2.2.2.2.2.2.2))))))))))))) ∧ ∀ r2, (Eq r2 ((fCopyC (a0.1, (a0.2.1, (a0.2.2.1, (a0.2.2.2.1, (a0.2.2.2.2.1, (a0.2.2.2.2.2.1, (a0.2.2.2.2.2.2.1, (a0.2.2.2.2.2.2.2.1, (a0.2.2.2.2.2.2.2.2.1, (a0.2.2.2.2.2.2.2.2.2.1, (a0.2.2.2.2.2.2.2.2.2.2.1, (a0.2.2.2.2.2.2.2.2.2.2.2.1, a0.2.2.2.2.2.2.2.2.2.2.2.2))))))))))))), ((), ()))) → (caseB (decide (a1 ≤ r2.1.2.2.2.2.2.2.1)) (Eq (((r2.1.1, (r2.1.2.1, (r2.1.2.2.1, (r2.1.2.2.2.1, (r2.1.2.2.2.2.1, (r2.1.2.2.2.2.2.1, (r2.1.2.2.2.2.2.2.1, (r2.1.2.2.2.2.2.2.2.1, (r2.1.2.2.2.2.2.2.2.2.1, (r2.1.2.2.2.2.2.2.2.2.2.1, (r2.1.2.2.2.2.2.2.2.2.2.2.1, (r2.1.2.2.2.2.2.2.2.2.2.2.2.1, r2.1.2.2.2.2.2.2.2.2.2.2.2.2)))))))))))), false), ((), ())) ((fCompact a0 a1), ((), ()))) (caseB (decide (a1 > r2.1.2.2.2.2.2.2.2.2.2.1)) (Eq (((r2.1.1, (r2.1.2.1, (r2.1.2.2.1, (r2.1.2.2.2.1, (r2.1.2.2.2.2.1, (r2.1.2.2.2.2.2.1, (r2.1.2.2.2.2.2.2.1, (r2.1.2.2.2.2.2.2.2.1, (r2.1.2.2.2.2.2.2.2.2.1, (r2.1.2.2.2.2.2.2.2.2.2.1, (r2.1.2.2.2.2.2.2.2.2.2.2.1, (r2.1.2.2.2.2.2.2.2.2.2.2.2.1, r2.1.2.2.2.2.2.2.2.2.2.2.2.2)))))))))))), false), ((), ())) ((fCompact a0 a1), ((), ()))) ((pTermAt (r2.1.1, (r2.1.2.1, (r2.1.2.2.1, (r2.1.2.2.2.1, (r2.1.2.2.2.2.1, (r2.1.2.2.2.2.2.1, (r2.1.2.2.2.2.2.2.1, (r2.1.2.2.2.2.2.2.2.1, (r2.1.2.2.2.2.2.2.2.2.1, (r2.1.2.2.2.2.2.2.2.2.2.1, (r2.1.2.2.2.2.2.2.2.2.2.2.1, (r2.1.2.2.2.2.2.2.2.2.2.2.2.1, r2.1.2.2.2.2.2.2.2.2.2.2.2.2)))))))))))) a1) ∧ ∀ r3, (Eq r3 ((fTermAt (r2.1.1, (r2.1.2.1, (r2.1.2.2.1, (r2.1.2.2.2.1, (r2.1.2.2.2.2.1, (r2.1.2.2.2.2.2.1, (r2.1.2.2.2.2.2.2.1, (r2.1.2.2.2.2.2.2.2.1, (r2.1.2.2.2.2.2.2.2.2.1, (r2.1.2.2.2.2.2.2.2.2.2.1, (r2.1.2.2.2.2.2.2.2.2.2.2.1, (r2.1.2.2.2.2.2.2.2.2.2.2.2.1, r2.1.2.2.2.2.2.2.2.2.2.2.2.2)))))))))))) a1), ((), ()))) → (0 ≤ (wI (a1 - r2.1.2.2.2.2.2.2.1)) ∧ ((wI (a1 - r2.1.2.2.2.2.2.2.1)) ≤ (ln r2.1.2.2.2.2.2.2.2.2.1) ∧ (Eq (((r2.1.1, (r2.1.2.1, (r2.1.2.2.1, (r2.1.2.2.2.1, (r2.1.2.2.2.2.1, (r2.1.2.2.2.2.2.1, (a1, (r3.1, ((List.drop (tN (wI (a1 - r2.1.2.2.2.2.2.2.1))) (List.take (List.length r2.1.2.2.2.2.2.2.2.2.1) r2.1.2.2.2.2.2.2.2.2.1)), (r2.1.2.2.2.2.2.2.2.2.2.1, (r2.1.2.2.2.2.2.2.2.2.2.2.1, (r2.1.2.2.2.2.2.2.2.2.2.2.2.1, r2.1.2.2.2.2.2.2.2.2.2.2.2.2)))))))))))), true), ((), ())) ((fCompact a0 a1), ((), ())))))))))))

theorem spec_Compact.pure  (a0 : (Int × (Int × (Int × (Int × (Int × (Int × (Int × (Int × ((List (Int × (List UInt8))) × (Int × ((List Int) × ((List Int) × (List Int)))))))))))))) (a1 : Int) (h : (pCore1 a0 a1)) (hw : Wf c_spec_Compact.A (a0, a1)) : spec_Compact.F a0 a1 := by
  delta spec_Compact.F ln tN wI
  have hpc : pCore a0 := h
  obtain ⟨p0, p1, p2, p3⟩ := h
  have hin := fun h : fCoreOk a0 = true => coreOk_in h
  simp only [forall_eq, true_and, and_true, caseB_iff, Prod.mk.injEq, decide_eq_true_eq, decide_eq_false_iff_not, Bool.not_eq_true', Bool.not_eq_false', bne_iff_ne, ne_eq, beq_iff_eq, Bool.not_true, Bool.not_false, beq_eq_false_iff_ne, bne_eq_false_iff_eq, List.length_append, List.length_cons, List.length_nil, List.append_nil, Nat.zero_add, decide_true, decide_false, eq_self_iff_true, Prod.eta, fCopyC, pTermAt]
  repeat' (with_reducible (first | (refine And.intro ?_ ?_) | intro _))
  all_goals (try simp (disch := omega) only [w64, wu8, tn0, tn1, tm1, tm2, List.length_append, List.length_cons, List.length_nil] at *)
  all_goals (try simp (disch := omega) only [w64, wu8, tn0, tn1, tm1, tm2, List.length_append, List.length_cons, List.length_nil] at *)
  all_goals (try omega)
  all_goals (try grind [fCompact, core0, cutC, fIn_iff])
  all_goals (have hh := hin (by assumption))
  all_goals (try simp (disch := omega) only [w64, fIn_iff, fIn_no] at *)
  all_goals (try omega)
  all_goals (try simp (disch := omega) only [w64, fIn_iff, fIn_no] at *)
  all_goals (try omega)
  all_goals (try grind [fCompact, core0, cutC, fIn_iff])

set_option maxRecDepth 100000 in
theorem spec_Compact.eq : EqS c_spec_Compact Try.f38 [39, 4] [spec_CoreOk.e, spec_l16Copy.e, spec_l16TermAt.e] [] noL (fun i x => spec_Compact.F x.1 x.2) := by intro i x; kernel_rfl
theorem spec_Compact.ok : ConOk Try.prog 38 c_spec_Compact := okOf spec_Compact.eq Try.func38 rfl (by kernel_rfl) fun i x h hi hw => spec_Compact.pure x.1 x.2 h hw
def spec_Compact.e : GE := ⟨38, c_spec_Compact, ⟨_, Try.func38, rfl, rfl⟩, spec_Compact.ok⟩

end Go.Proofs.Ythkghdmpkdpnkaa.B
