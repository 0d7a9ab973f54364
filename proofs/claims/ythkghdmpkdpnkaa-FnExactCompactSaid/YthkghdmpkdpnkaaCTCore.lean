/- Values of the type Core: how large, the same, marked. -/
import Derived.Test.YthkghdmpkdpnkaaCTypes
import Derived.Test.YthkghdmpkdpnkaaCTEntry
namespace Go.Proofs.Ythkghdmpkdpnkaa.B
set_option linter.unusedVariables false
set_option linter.unusedSimpArgs false
open Go Go.Proofs.Ythkghdmpkdpnkaa.Bv

def n_Core (x : (Int × (Int × (Int × (Int × (Int × (Int × (Int × (Int × ((List (Int × (List UInt8))) × (Int × ((List Int) × ((List Int) × (List Int)))))))))))))) : Nat := (nL n_Entry x.2.2.2.2.2.2.2.2.1) + (List.length x.2.2.2.2.2.2.2.2.2.2.1) + (List.length x.2.2.2.2.2.2.2.2.2.2.2.1) + (List.length x.2.2.2.2.2.2.2.2.2.2.2.2)
def pSz_Core (x : (Int × (Int × (Int × (Int × (Int × (Int × (Int × (Int × ((List (Int × (List UInt8))) × (Int × ((List Int) × ((List Int) × (List Int)))))))))))))) (left : Int) : Prop := WfD (.pair (.int .i64) (.pair (.int .i64) (.pair (.int .i64) (.pair (.int .i64) (.pair (.int .i64) (.pair (.int .i64) (.pair (.int .i64) (.pair (.int .i64) (.pair (.list (.pair (.int .i64) .str)) (.pair (.int .i64) (.pair (.list (.int .i64)) (.pair (.list (.int .i64)) (.list (.int .i64)))))))))))))) x ∧ 0 ≤ left ∧ left ≤ 1048576
def fSz_Core (x : (Int × (Int × (Int × (Int × (Int × (Int × (Int × (Int × ((List (Int × (List UInt8))) × (Int × ((List Int) × ((List Int) × (List Int)))))))))))))) (left : Int) : Int := fSz (n_Core x) left
def c_laws_szCore : Con := { A := (.pair (.pair (.int .i64) (.pair (.int .i64) (.pair (.int .i64) (.pair (.int .i64) (.pair (.int .i64) (.pair (.int .i64) (.pair (.int .i64) (.pair (.int .i64) (.pair (.list (.pair (.int .i64) .str)) (.pair (.int .i64) (.pair (.list (.int .i64)) (.pair (.list (.int .i64)) (.list (.int .i64)))))))))))))) (.int .i64)), shA := [.agg 13, .one], R := (.int .i64), shR := [(false, 1)], pre := fun _ a => (pSz_Core a.1 a.2), f := some fun _ a => ((fSz_Core a.1 a.2), ((), ())) }
def laws_szCore.F  (a0 : (Int × (Int × (Int × (Int × (Int × (Int × (Int × (Int × ((List (Int × (List UInt8))) × (Int × ((List Int) × ((List Int) × (List Int)))))))))))))) (a1 : Int) : Prop := ((pSz_EntryS a0.2.2.2.2.2.2.2.2.1 a1) ∧ ∀ r1, (Eq r1 ((fSz_EntryS a0.2.2.2.2.2.2.2.2.1 a1), ((), ()))) → (caseB (decide (r1.1 < (0 : Int))) (Eq ((-1), ((), ())) ((fSz_Core a0 a1), ((), ()))) ((pSz_IntS a0.2.2.2.2.2.2.2.2.2.2.1 r1.1) ∧ ∀ r2, (Eq r2 ((fSz_IntS a0.2.2.2.2.2.2.2.2.2.2.1 r1.1), ((), ()))) → (caseB (decide (r2.1 < (0 : Int))) (Eq ((-1), ((), ())) ((fSz_Core a0 a1), ((), ()))) ((pSz_IntS a0.2.2.2.2.2.2.2.2.2.2.2.1 r2.1) ∧ ∀ r3, (Eq r3 ((fSz_IntS a0.2.2.2.2.2.2.2.2.2.2.2.1 r2.1), ((), ()))) → (caseB (decide (r3.1 < (0 : Int))) (Eq ((-1), ((), ())) ((fSz_Core a0 a1), ((), ()))) ((pSz_IntS a0.2.2.2.2.2.2.2.2.2.2.2.2 r3.1) ∧ ∀ r4, (Eq r4 ((fSz_IntS a0.2.2.2.2.2.2.2.2.2.2.2.2 r3.1), ((), ()))) → (caseB (decide (r4.1 < (0 : Int))) (Eq ((-1), ((), ())) ((fSz_Core a0 a1), ((), ()))) (Eq (r4.1, ((), ())) ((fSz_Core a0 a1), ((), ())))))))))))

theorem laws_szCore.pure  (a0 : (Int × (Int × (Int × (Int × (Int × (Int × (Int × (Int × ((List (Int × (List UInt8))) × (Int × ((List Int) × ((List Int) × (List Int)))))))))))))) (a1 : Int) (h : (pSz_Core a0 a1)) (hw : Wf c_laws_szCore.A (a0, a1)) : laws_szCore.F a0 a1 := by
  unfold laws_szCore.F
  obtain ⟨hwf, p1, p2⟩ := h
  have w8 : WfD (.list (.pair (.int .i64) .str)) a0.2.2.2.2.2.2.2.2.1 := hwf.2.2.2.2.2.2.2.2.1
  have w10 : WfD (.list (.int .i64)) a0.2.2.2.2.2.2.2.2.2.2.1 := hwf.2.2.2.2.2.2.2.2.2.2.1
  have w11 : WfD (.list (.int .i64)) a0.2.2.2.2.2.2.2.2.2.2.2.1 := hwf.2.2.2.2.2.2.2.2.2.2.2.1
  have w12 : WfD (.list (.int .i64)) a0.2.2.2.2.2.2.2.2.2.2.2.2 := hwf.2.2.2.2.2.2.2.2.2.2.2.2
  simp only [forall_eq, true_and, and_true, caseB_iff, Prod.mk.injEq, decide_eq_true_eq, decide_eq_false_iff_not, Bool.not_eq_true', Bool.not_eq_false', bne_iff_ne, ne_eq, beq_iff_eq, Bool.not_true, Bool.not_false, beq_eq_false_iff_ne, bne_eq_false_iff_eq, List.length_append, List.length_cons, List.length_nil, List.append_nil, Nat.zero_add, decide_true, decide_false, eq_self_iff_true, n_Core, fSz_Core, pSz_EntryS, fSz_EntryS, pSz_IntS, fSz_IntS]
  repeat' (with_reducible (first | (refine And.intro ?_ ?_) | intro _))
  all_goals (try simp (disch := omega) only [w64, wu8, tn0, tn1, tm1, tm2, List.length_append, List.length_cons, List.length_nil] at *)
  all_goals (try simp (disch := omega) only [w64, wu8, tn0, tn1, tm1, tm2, List.length_append, List.length_cons, List.length_nil] at *)
  all_goals (try omega)
  all_goals (try grind [fSz])

set_option maxRecDepth 100000 in
theorem laws_szCore.eq : EqS c_laws_szCore Try.f17 [3] [laws_szEntryS.e, laws_szIntS.e] [] noL (fun i x => laws_szCore.F x.1 x.2) := by intro i x; kernel_rfl
theorem laws_szCore.ok : ConOk Try.prog 17 c_laws_szCore := okOf laws_szCore.eq Try.func17 rfl (by kernel_rfl) fun i x h hi hw => laws_szCore.pure x.1 x.2 h hw
def laws_szCore.e : GE := ⟨17, c_laws_szCore, ⟨_, Try.func17, rfl, rfl⟩, laws_szCore.ok⟩

def pTo_Core (x : (Int × (Int × (Int × (Int × (Int × (Int × (Int × (Int × ((List (Int × (List UInt8))) × (Int × ((List Int) × ((List Int) × (List Int)))))))))))))) : Prop := n_Core x ≤ 1048576
def fTo_Core (x : (Int × (Int × (Int × (Int × (Int × (Int × (Int × (Int × ((List (Int × (List UInt8))) × (Int × ((List Int) × ((List Int) × (List Int)))))))))))))) : (Int × (Int × (Int × (Int × (Int × (Int × (Int × (Int × ((List (Int × (List UInt8))) × (Int × ((List Int) × ((List Int) × (List Int))))))))))))) := x
def c_laws_toCore : Con := { A := (.pair (.int .i64) (.pair (.int .i64) (.pair (.int .i64) (.pair (.int .i64) (.pair (.int .i64) (.pair (.int .i64) (.pair (.int .i64) (.pair (.int .i64) (.pair (.list (.pair (.int .i64) .str)) (.pair (.int .i64) (.pair (.list (.int .i64)) (.pair (.list (.int .i64)) (.list (.int .i64)))))))))))))), shA := [.agg 13], R := (.pair (.int .i64) (.pair (.int .i64) (.pair (.int .i64) (.pair (.int .i64) (.pair (.int .i64) (.pair (.int .i64) (.pair (.int .i64) (.pair (.int .i64) (.pair (.list (.pair (.int .i64) .str)) (.pair (.int .i64) (.pair (.list (.int .i64)) (.pair (.list (.int .i64)) (.list (.int .i64)))))))))))))), shR := [(true, 13)], fresh := [(8, 100), (10, 3), (11, 3), (12, 3)], pre := fun _ a => (pTo_Core a), f := some fun _ a => ((fTo_Core a), ((), ())) }
def laws_toCore.F  (a0 : (Int × (Int × (Int × (Int × (Int × (Int × (Int × (Int × ((List (Int × (List UInt8))) × (Int × ((List Int) × ((List Int) × (List Int)))))))))))))) : Prop := ((pTo_EntryS a0.2.2.2.2.2.2.2.2.1) ∧ ∀ r1, (Eq r1 ((fTo_EntryS a0.2.2.2.2.2.2.2.2.1), ((), ()))) → ((pTo_IntS a0.2.2.2.2.2.2.2.2.2.2.1) ∧ ∀ r2, (Eq r2 ((fTo_IntS a0.2.2.2.2.2.2.2.2.2.2.1), ((), ()))) → ((pTo_IntS a0.2.2.2.2.2.2.2.2.2.2.2.1) ∧ ∀ r3, (Eq r3 ((fTo_IntS a0.2.2.2.2.2.2.2.2.2.2.2.1), ((), ()))) → ((pTo_IntS a0.2.2.2.2.2.2.2.2.2.2.2.2) ∧ ∀ r4, (Eq r4 ((fTo_IntS a0.2.2.2.2.2.2.2.2.2.2.2.2), ((), ()))) → (Eq ((a0.1, (a0.2.1, (a0.2.2.1, (a0.2.2.2.1, (a0.2.2.2.2.1, (a0.2.2.2.2.2.1, (a0.2.2.2.2.2.2.1, (a0.2.2.2.2.2.2.2.1, (r1.1, (a0.2.2.2.2.2.2.2.2.2.1, (r2.1, (r3.1, r4.1)))))))))))), ((), ())) ((fTo_Core a0), ((), ())))))))

theorem laws_toCore.pure  (a0 : (Int × (Int × (Int × (Int × (Int × (Int × (Int × (Int × ((List (Int × (List UInt8))) × (Int × ((List Int) × ((List Int) × (List Int)))))))))))))) (h : (pTo_Core a0)) (hw : Wf c_laws_toCore.A a0) : laws_toCore.F a0 := by
  unfold laws_toCore.F
  have hp : n_Core a0 ≤ 1048576 := h
  simp only [n_Core] at hp
  simp only [forall_eq, true_and, and_true, caseB_iff, Prod.mk.injEq, decide_eq_true_eq, decide_eq_false_iff_not, Bool.not_eq_true', Bool.not_eq_false', bne_iff_ne, ne_eq, beq_iff_eq, Bool.not_true, Bool.not_false, beq_eq_false_iff_ne, bne_eq_false_iff_eq, List.length_append, List.length_cons, List.length_nil, List.append_nil, Nat.zero_add, decide_true, decide_false, eq_self_iff_true, n_Core, fTo_Core, pTo_Core, pTo_EntryS, fTo_EntryS, pTo_IntS, fTo_IntS]
  repeat' (with_reducible (first | (refine And.intro ?_ ?_) | intro _))
  all_goals (try simp (disch := omega) only [w64, wu8, tn0, tn1, tm1, tm2, List.length_append, List.length_cons, List.length_nil] at *)
  all_goals (try simp (disch := omega) only [w64, wu8, tn0, tn1, tm1, tm2, List.length_append, List.length_cons, List.length_nil] at *)
  all_goals (try omega)
  all_goals (try grind [])

set_option maxRecDepth 100000 in
theorem laws_toCore.eq : EqS c_laws_toCore Try.f19 [39] [laws_toEntryS.e, laws_toIntS.e] [] noL (fun i x => laws_toCore.F x) := by intro i x; kernel_rfl
theorem laws_toCore.ok : ConOk Try.prog 19 c_laws_toCore := okOf laws_toCore.eq Try.func19 rfl (by kernel_rfl) fun i x h hi hw => laws_toCore.pure x h hw
def laws_toCore.e : GE := ⟨19, c_laws_toCore, ⟨_, Try.func19, rfl, rfl⟩, laws_toCore.ok⟩

instance dec_Core : DecidableEq (Int × (Int × (Int × (Int × (Int × (Int × (Int × (Int × ((List (Int × (List UInt8))) × (Int × ((List Int) × ((List Int) × (List Int))))))))))))) := by (iterate 20 (all_goals (first | infer_instance | refine @instDecidableEqProd _ _ ?_ ?_)))
def fEq_Core (a b : (Int × (Int × (Int × (Int × (Int × (Int × (Int × (Int × ((List (Int × (List UInt8))) × (Int × ((List Int) × ((List Int) × (List Int)))))))))))))) : Bool := decide (a = b)
def c_laws_eqCore : Con := { A := (.pair (.pair (.int .i64) (.pair (.int .i64) (.pair (.int .i64) (.pair (.int .i64) (.pair (.int .i64) (.pair (.int .i64) (.pair (.int .i64) (.pair (.int .i64) (.pair (.list (.pair (.int .i64) .str)) (.pair (.int .i64) (.pair (.list (.int .i64)) (.pair (.list (.int .i64)) (.list (.int .i64)))))))))))))) (.pair (.int .i64) (.pair (.int .i64) (.pair (.int .i64) (.pair (.int .i64) (.pair (.int .i64) (.pair (.int .i64) (.pair (.int .i64) (.pair (.int .i64) (.pair (.list (.pair (.int .i64) .str)) (.pair (.int .i64) (.pair (.list (.int .i64)) (.pair (.list (.int .i64)) (.list (.int .i64))))))))))))))), shA := [.agg 13, .agg 13], R := .bool, shR := [(false, 1)], pre := fun _ _ => True, f := some fun _ a => ((fEq_Core a.1 a.2), ((), ())) }
def laws_eqCore.F  (a0 : (Int × (Int × (Int × (Int × (Int × (Int × (Int × (Int × ((List (Int × (List UInt8))) × (Int × ((List Int) × ((List Int) × (List Int)))))))))))))) (a1 : (Int × (Int × (Int × (Int × (Int × (Int × (Int × (Int × ((List (Int × (List UInt8))) × (Int × ((List Int) × ((List Int) × (List Int)))))))))))))) : Prop := (caseB (a0.1 != a1.1) (Eq (false, ((), ())) ((fEq_Core a0 a1), ((), ()))) (caseB (a0.2.1 != a1.2.1) (Eq (false, ((), ())) ((fEq_Core a0 a1), ((), ()))) (caseB (a0.2.2.1 != a1.2.2.1) (Eq (false, ((), ())) ((fEq_Core a0 a1), ((), ()))) (caseB (a0.2.2.2.1 != a1.2.2.2.1) (Eq (false, ((), ())) ((fEq_Core a0 a1), ((), ()))) (caseB (a0.2.2.2.2.1 != a1.2.2.2.2.1) (Eq (false, ((), ())) ((fEq_Core a0 a1), ((), ()))) (caseB (a0.2.2.2.2.2.1 != a1.2.2.2.2.2.1) (Eq (false, ((), ())) ((fEq_Core a0 a1), ((), ()))) (caseB (a0.2.2.2.2.2.2.1 != a1.2.2.2.2.2.2.1) (Eq (false, ((), ())) ((fEq_Core a0 a1), ((), ()))) (caseB (a0.2.2.2.2.2.2.2.1 != a1.2.2.2.2.2.2.2.1) (Eq (false, ((), ())) ((fEq_Core a0 a1), ((), ()))) (True ∧ ∀ r1, (Eq r1 ((fEq_EntryS a0.2.2.2.2.2.2.2.2.1 a1.2.2.2.2.2.2.2.2.1), ((), ()))) → (caseB (!r1.1) (Eq (false, ((), ())) ((fEq_Core a0 a1), ((), ()))) (caseB (a0.2.2.2.2.2.2.2.2.2.1 != a1.2.2.2.2.2.2.2.2.2.1) (Eq (false, ((), ())) ((fEq_Core a0 a1), ((), ()))) (True ∧ ∀ r2, (Eq r2 ((fEq_IntS a0.2.2.2.2.2.2.2.2.2.2.1 a1.2.2.2.2.2.2.2.2.2.2.1), ((), ()))) → (caseB (!r2.1) (Eq (false, ((), ())) ((fEq_Core a0 a1), ((), ()))) (True ∧ ∀ r3, (Eq r3 ((fEq_IntS a0.2.2.2.2.2.2.2.2.2.2.2.1 a1.2.2.2.2.2.2.2.2.2.2.2.1), ((), ()))) → (caseB (!r3.1) (Eq (false, ((), ())) ((fEq_Core a0 a1), ((), ()))) (True ∧ ∀ r4, (Eq r4 ((fEq_IntS a0.2.2.2.2.2.2.2.2.2.2.2.2 a1.2.2.2.2.2.2.2.2.2.2.2.2), ((), ()))) → (caseB (!r4.1) (Eq (false, ((), ())) ((fEq_Core a0 a1), ((), ()))) (Eq (true, ((), ())) ((fEq_Core a0 a1), ((), ()))))))))))))))))))))

theorem laws_eqCore.pure  (a0 : (Int × (Int × (Int × (Int × (Int × (Int × (Int × (Int × ((List (Int × (List UInt8))) × (Int × ((List Int) × ((List Int) × (List Int)))))))))))))) (a1 : (Int × (Int × (Int × (Int × (Int × (Int × (Int × (Int × ((List (Int × (List UInt8))) × (Int × ((List Int) × ((List Int) × (List Int)))))))))))))) (h : True) (hw : Wf c_laws_eqCore.A (a0, a1)) : laws_eqCore.F a0 a1 := by
  unfold laws_eqCore.F
  obtain ⟨x1, x2, x3, x4, x5, x6, x7, x8, x9, x10, x11, x12, x13⟩ := a0
  obtain ⟨y1, y2, y3, y4, y5, y6, y7, y8, y9, y10, y11, y12, y13⟩ := a1
  simp only [forall_eq, true_and, and_true, caseB_iff, Prod.mk.injEq, decide_eq_true_eq, decide_eq_false_iff_not, Bool.not_eq_true', Bool.not_eq_false', bne_iff_ne, ne_eq, beq_iff_eq, Bool.not_true, Bool.not_false, beq_eq_false_iff_ne, bne_eq_false_iff_eq, List.length_append, List.length_cons, List.length_nil, List.append_nil, Nat.zero_add, decide_true, decide_false, eq_self_iff_true, fEq_Core, fEq_EntryS, fEq_IntS]
  repeat' (first | (refine And.intro ?_ ?_) | intro _)
  all_goals simp_all

set_option maxRecDepth 100000 in
theorem laws_eqCore.eq : EqS c_laws_eqCore Try.f21 [4] [laws_eqEntryS.e, laws_eqIntS.e] [] noL (fun i x => laws_eqCore.F x.1 x.2) := by intro i x; kernel_rfl
theorem laws_eqCore.ok : ConOk Try.prog 21 c_laws_eqCore := okOf laws_eqCore.eq Try.func21 rfl (by kernel_rfl) fun i x h hi hw => laws_eqCore.pure x.1 x.2 h hw
def laws_eqCore.e : GE := ⟨21, c_laws_eqCore, ⟨_, Try.func21, rfl, rfl⟩, laws_eqCore.ok⟩

def c_mCore (x : (Int × (Int × (Int × (Int × (Int × (Int × (Int × (Int × ((List (Int × (List UInt8))) × (Int × ((List Int) × ((List Int) × (List Int)))))))))))))) : Int := 1 + 1 + 1 + 1 + 1 + 1 + 1 + 1 + cL c_mEntry x.2.2.2.2.2.2.2.2.1 + 1 + cL c_1 x.2.2.2.2.2.2.2.2.2.2.1 + cL c_1 x.2.2.2.2.2.2.2.2.2.2.2.1 + cL c_1 x.2.2.2.2.2.2.2.2.2.2.2.2
def m_Core (x : (Int × (Int × (Int × (Int × (Int × (Int × (Int × (Int × ((List (Int × (List UInt8))) × (Int × ((List Int) × ((List Int) × (List Int)))))))))))))) (k : Int) : (Int × (Int × (Int × (Int × (Int × (Int × (Int × (Int × ((List (Int × (List UInt8))) × (Int × ((List Int) × ((List Int) × (List Int))))))))))))) := (k, (k + 1), ((k + 1) + 1), (((k + 1) + 1) + 1), ((((k + 1) + 1) + 1) + 1), (((((k + 1) + 1) + 1) + 1) + 1), ((((((k + 1) + 1) + 1) + 1) + 1) + 1), (((((((k + 1) + 1) + 1) + 1) + 1) + 1) + 1), (mL c_mEntry m_Entry x.2.2.2.2.2.2.2.2.1 ((((((((k + 1) + 1) + 1) + 1) + 1) + 1) + 1) + 1)), (((((((((k + 1) + 1) + 1) + 1) + 1) + 1) + 1) + 1) + cL c_mEntry x.2.2.2.2.2.2.2.2.1), (mL c_1 m_Int x.2.2.2.2.2.2.2.2.2.2.1 ((((((((((k + 1) + 1) + 1) + 1) + 1) + 1) + 1) + 1) + cL c_mEntry x.2.2.2.2.2.2.2.2.1) + 1)), (mL c_1 m_Int x.2.2.2.2.2.2.2.2.2.2.2.1 (((((((((((k + 1) + 1) + 1) + 1) + 1) + 1) + 1) + 1) + cL c_mEntry x.2.2.2.2.2.2.2.2.1) + 1) + cL c_1 x.2.2.2.2.2.2.2.2.2.2.1)), (mL c_1 m_Int x.2.2.2.2.2.2.2.2.2.2.2.2 ((((((((((((k + 1) + 1) + 1) + 1) + 1) + 1) + 1) + 1) + cL c_mEntry x.2.2.2.2.2.2.2.2.1) + 1) + cL c_1 x.2.2.2.2.2.2.2.2.2.2.1) + cL c_1 x.2.2.2.2.2.2.2.2.2.2.2.1)))
def o_Core (x : (Int × (Int × (Int × (Int × (Int × (Int × (Int × (Int × ((List (Int × (List UInt8))) × (Int × ((List Int) × ((List Int) × (List Int)))))))))))))) (k : Int) : Bool := (decide (x.1 = k)) && (decide (x.2.1 = (k + 1))) && (decide (x.2.2.1 = ((k + 1) + 1))) && (decide (x.2.2.2.1 = (((k + 1) + 1) + 1))) && (decide (x.2.2.2.2.1 = ((((k + 1) + 1) + 1) + 1))) && (decide (x.2.2.2.2.2.1 = (((((k + 1) + 1) + 1) + 1) + 1))) && (decide (x.2.2.2.2.2.2.1 = ((((((k + 1) + 1) + 1) + 1) + 1) + 1))) && (decide (x.2.2.2.2.2.2.2.1 = (((((((k + 1) + 1) + 1) + 1) + 1) + 1) + 1))) && (oL c_mEntry o_Entry x.2.2.2.2.2.2.2.2.1 ((((((((k + 1) + 1) + 1) + 1) + 1) + 1) + 1) + 1)) && (decide (x.2.2.2.2.2.2.2.2.2.1 = (((((((((k + 1) + 1) + 1) + 1) + 1) + 1) + 1) + 1) + cL c_mEntry x.2.2.2.2.2.2.2.2.1))) && (oL c_1 o_Int x.2.2.2.2.2.2.2.2.2.2.1 ((((((((((k + 1) + 1) + 1) + 1) + 1) + 1) + 1) + 1) + cL c_mEntry x.2.2.2.2.2.2.2.2.1) + 1)) && (oL c_1 o_Int x.2.2.2.2.2.2.2.2.2.2.2.1 (((((((((((k + 1) + 1) + 1) + 1) + 1) + 1) + 1) + 1) + cL c_mEntry x.2.2.2.2.2.2.2.2.1) + 1) + cL c_1 x.2.2.2.2.2.2.2.2.2.2.1)) && (oL c_1 o_Int x.2.2.2.2.2.2.2.2.2.2.2.2 ((((((((((((k + 1) + 1) + 1) + 1) + 1) + 1) + 1) + 1) + cL c_mEntry x.2.2.2.2.2.2.2.2.1) + 1) + cL c_1 x.2.2.2.2.2.2.2.2.2.2.1) + cL c_1 x.2.2.2.2.2.2.2.2.2.2.2.1))
theorem ok_Core : ∀ (x : (Int × (Int × (Int × (Int × (Int × (Int × (Int × (Int × ((List (Int × (List UInt8))) × (Int × ((List Int) × ((List Int) × (List Int)))))))))))))) (k : Int), o_Core (m_Core x k) k = true ∧ c_mCore (m_Core x k) = c_mCore x := fun x k => by
  simp [o_Core, m_Core, c_mCore, (oL_mL ok_Entry _ _).1, (oL_mL ok_Entry _ _).2, (oL_mL ok_Int _ _).1, (oL_mL ok_Int _ _).2]
theorem pos_Core : ∀ x : (Int × (Int × (Int × (Int × (Int × (Int × (Int × (Int × ((List (Int × (List UInt8))) × (Int × ((List Int) × ((List Int) × (List Int))))))))))))), 0 ≤ c_mCore x := fun x => by
  have p0 := fun l => cL_pos pos_Entry l
  have p1 := fun l => cL_pos pos_Int l
  have q0 := p0 x.2.2.2.2.2.2.2.2.1
  have q1 := p1 x.2.2.2.2.2.2.2.2.2.2.1
  have q2 := p1 x.2.2.2.2.2.2.2.2.2.2.2.1
  have q3 := p1 x.2.2.2.2.2.2.2.2.2.2.2.2
  unfold c_mCore; omega
def c_sCore (x : (Int × (Int × (Int × (Int × (Int × (Int × (Int × (Int × ((List (Int × (List UInt8))) × (Int × ((List Int) × ((List Int) × (List Int)))))))))))))) : Int := cL c_mEntry x.2.2.2.2.2.2.2.2.1 + cL c_1 x.2.2.2.2.2.2.2.2.2.2.1 + cL c_1 x.2.2.2.2.2.2.2.2.2.2.2.1 + cL c_1 x.2.2.2.2.2.2.2.2.2.2.2.2
def m_sCore (x : (Int × (Int × (Int × (Int × (Int × (Int × (Int × (Int × ((List (Int × (List UInt8))) × (Int × ((List Int) × ((List Int) × (List Int)))))))))))))) (k : Int) : ((List (Int × (List UInt8))) × ((List Int) × ((List Int) × (List Int)))) := (mL c_mEntry m_Entry x.2.2.2.2.2.2.2.2.1 k, (mL c_1 m_Int x.2.2.2.2.2.2.2.2.2.2.1 (k + cL c_mEntry x.2.2.2.2.2.2.2.2.1), (mL c_1 m_Int x.2.2.2.2.2.2.2.2.2.2.2.1 (k + cL c_mEntry x.2.2.2.2.2.2.2.2.1 + cL c_1 x.2.2.2.2.2.2.2.2.2.2.1), mL c_1 m_Int x.2.2.2.2.2.2.2.2.2.2.2.2 (k + cL c_mEntry x.2.2.2.2.2.2.2.2.1 + cL c_1 x.2.2.2.2.2.2.2.2.2.2.1 + cL c_1 x.2.2.2.2.2.2.2.2.2.2.2.1))))
def o_sCore (x : (Int × (Int × (Int × (Int × (Int × (Int × (Int × (Int × ((List (Int × (List UInt8))) × (Int × ((List Int) × ((List Int) × (List Int)))))))))))))) (k : Int) : Bool := oL c_mEntry o_Entry x.2.2.2.2.2.2.2.2.1 k && oL c_1 o_Int x.2.2.2.2.2.2.2.2.2.2.1 (k + cL c_mEntry x.2.2.2.2.2.2.2.2.1) && oL c_1 o_Int x.2.2.2.2.2.2.2.2.2.2.2.1 (k + cL c_mEntry x.2.2.2.2.2.2.2.2.1 + cL c_1 x.2.2.2.2.2.2.2.2.2.2.1) && oL c_1 o_Int x.2.2.2.2.2.2.2.2.2.2.2.2 (k + cL c_mEntry x.2.2.2.2.2.2.2.2.1 + cL c_1 x.2.2.2.2.2.2.2.2.2.2.1 + cL c_1 x.2.2.2.2.2.2.2.2.2.2.2.1)
def w_sCore (x : (Int × (Int × (Int × (Int × (Int × (Int × (Int × (Int × ((List (Int × (List UInt8))) × (Int × ((List Int) × ((List Int) × (List Int)))))))))))))) (k : Int) : (Int × (Int × (Int × (Int × (Int × (Int × (Int × (Int × ((List (Int × (List UInt8))) × (Int × ((List Int) × ((List Int) × (List Int))))))))))))) := (x.1, (x.2.1, (x.2.2.1, (x.2.2.2.1, (x.2.2.2.2.1, (x.2.2.2.2.2.1, (x.2.2.2.2.2.2.1, (x.2.2.2.2.2.2.2.1, (mL c_mEntry m_Entry x.2.2.2.2.2.2.2.2.1 k, (x.2.2.2.2.2.2.2.2.2.1, (mL c_1 m_Int x.2.2.2.2.2.2.2.2.2.2.1 (k + cL c_mEntry x.2.2.2.2.2.2.2.2.1), (mL c_1 m_Int x.2.2.2.2.2.2.2.2.2.2.2.1 (k + cL c_mEntry x.2.2.2.2.2.2.2.2.1 + cL c_1 x.2.2.2.2.2.2.2.2.2.2.1), mL c_1 m_Int x.2.2.2.2.2.2.2.2.2.2.2.2 (k + cL c_mEntry x.2.2.2.2.2.2.2.2.1 + cL c_1 x.2.2.2.2.2.2.2.2.2.2.1 + cL c_1 x.2.2.2.2.2.2.2.2.2.2.2.1)))))))))))))
theorem pos_sCore (x : (Int × (Int × (Int × (Int × (Int × (Int × (Int × (Int × ((List (Int × (List UInt8))) × (Int × ((List Int) × ((List Int) × (List Int)))))))))))))) : 0 ≤ c_sCore x := by
  have p0 := cL_pos pos_Entry x.2.2.2.2.2.2.2.2.1
  have p1 := cL_pos pos_Int x.2.2.2.2.2.2.2.2.2.2.1
  have p2 := cL_pos pos_Int x.2.2.2.2.2.2.2.2.2.2.2.1
  have p3 := cL_pos pos_Int x.2.2.2.2.2.2.2.2.2.2.2.2
  unfold c_sCore; omega
theorem ok_sCore (x : (Int × (Int × (Int × (Int × (Int × (Int × (Int × (Int × ((List (Int × (List UInt8))) × (Int × ((List Int) × ((List Int) × (List Int)))))))))))))) (k : Int) : o_sCore (w_sCore x k) k = true ∧ c_sCore (w_sCore x k) = c_sCore x := by
  simp [o_sCore, w_sCore, c_sCore, (oL_mL ok_Entry _ _).1, (oL_mL ok_Entry _ _).2, (oL_mL ok_Int _ _).1, (oL_mL ok_Int _ _).2]
def pMk_Core (x : (Int × (Int × (Int × (Int × (Int × (Int × (Int × (Int × ((List (Int × (List UInt8))) × (Int × ((List Int) × ((List Int) × (List Int)))))))))))))) (k : Int) : Prop := 0 ≤ k ∧ k + c_sCore x ≤ 4611686018427387904
def fMk_Core (x : (Int × (Int × (Int × (Int × (Int × (Int × (Int × (Int × ((List (Int × (List UInt8))) × (Int × ((List Int) × ((List Int) × (List Int)))))))))))))) (k : Int) : Int × ((List (Int × (List UInt8))) × ((List Int) × ((List Int) × (List Int)))) := (k + c_sCore x, m_sCore x k)
def c_laws_markCore : Con := { A := (.pair (.pair (.int .i64) (.pair (.int .i64) (.pair (.int .i64) (.pair (.int .i64) (.pair (.int .i64) (.pair (.int .i64) (.pair (.int .i64) (.pair (.int .i64) (.pair (.list (.pair (.int .i64) .str)) (.pair (.int .i64) (.pair (.list (.int .i64)) (.pair (.list (.int .i64)) (.list (.int .i64)))))))))))))) (.int .i64)), shA := [.agg 13, .one], backA := [(8, 100), (10, 3), (11, 3), (12, 3)], B := (.pair (.list (.pair (.int .i64) .str)) (.pair (.list (.int .i64)) (.pair (.list (.int .i64)) (.list (.int .i64))))), R := (.int .i64), shR := [(false, 1)], pre := fun _ a => (pMk_Core a.1 a.2), f := some fun _ a => ((fMk_Core a.1 a.2).1, ((), (fMk_Core a.1 a.2).2)) }
def laws_markCore.F  (a0 : (Int × (Int × (Int × (Int × (Int × (Int × (Int × (Int × ((List (Int × (List UInt8))) × (Int × ((List Int) × ((List Int) × (List Int)))))))))))))) (a1 : Int) : Prop := ((pMk_EntryS a0.2.2.2.2.2.2.2.2.1 a1) ∧ ∀ r1, (Eq r1 ((fMk_EntryS a0.2.2.2.2.2.2.2.2.1 a1).1, ((), (fMk_EntryS a0.2.2.2.2.2.2.2.2.1 a1).2))) → ((pMk_IntS a0.2.2.2.2.2.2.2.2.2.2.1 r1.1) ∧ ∀ r2, (Eq r2 ((fMk_IntS a0.2.2.2.2.2.2.2.2.2.2.1 r1.1).1, ((), (fMk_IntS a0.2.2.2.2.2.2.2.2.2.2.1 r1.1).2))) → ((pMk_IntS a0.2.2.2.2.2.2.2.2.2.2.2.1 r2.1) ∧ ∀ r3, (Eq r3 ((fMk_IntS a0.2.2.2.2.2.2.2.2.2.2.2.1 r2.1).1, ((), (fMk_IntS a0.2.2.2.2.2.2.2.2.2.2.2.1 r2.1).2))) → ((pMk_IntS a0.2.2.2.2.2.2.2.2.2.2.2.2 r3.1) ∧ ∀ r4, (Eq r4 ((fMk_IntS a0.2.2.2.2.2.2.2.2.2.2.2.2 r3.1).1, ((), (fMk_IntS a0.2.2.2.2.2.2.2.2.2.2.2.2 r3.1).2))) → (Eq (r4.1, ((), (r1.2.2, (r2.2.2, (r3.2.2, r4.2.2))))) ((fMk_Core a0 a1).1, ((), (fMk_Core a0 a1).2)))))))

theorem laws_markCore.pure  (a0 : (Int × (Int × (Int × (Int × (Int × (Int × (Int × (Int × ((List (Int × (List UInt8))) × (Int × ((List Int) × ((List Int) × (List Int)))))))))))))) (a1 : Int) (h : (pMk_Core a0 a1)) (hw : Wf c_laws_markCore.A (a0, a1)) : laws_markCore.F a0 a1 := by
  unfold laws_markCore.F
  obtain ⟨p1, p2⟩ := h
  simp only [c_sCore] at p2
  have p3 := cL_pos pos_Entry a0.2.2.2.2.2.2.2.2.1
  have p4 := cL_pos pos_Int a0.2.2.2.2.2.2.2.2.2.2.1
  have p5 := cL_pos pos_Int a0.2.2.2.2.2.2.2.2.2.2.2.1
  have p6 := cL_pos pos_Int a0.2.2.2.2.2.2.2.2.2.2.2.2
  simp only [forall_eq, true_and, and_true, caseB_iff, Prod.mk.injEq, decide_eq_true_eq, decide_eq_false_iff_not, Bool.not_eq_true', Bool.not_eq_false', bne_iff_ne, ne_eq, beq_iff_eq, Bool.not_true, Bool.not_false, beq_eq_false_iff_ne, bne_eq_false_iff_eq, List.length_append, List.length_cons, List.length_nil, List.append_nil, Nat.zero_add, decide_true, decide_false, eq_self_iff_true, fMk_EntryS, pMk_EntryS, fMk_IntS, pMk_IntS, c_sCore, m_sCore, fMk_Core]
  repeat' (with_reducible (first | (refine And.intro ?_ ?_) | intro _))
  all_goals (try simp only [← Int.add_assoc])
  all_goals (first | omega | rfl | (refine Prod.ext ?_ rfl; simp only; omega) | skip)

set_option maxRecDepth 100000 in
theorem laws_markCore.eq : EqS c_laws_markCore Try.f33 [3] [laws_markEntryS.e, laws_markIntS.e] [] noL (fun i x => laws_markCore.F x.1 x.2) := by intro i x; kernel_rfl
theorem laws_markCore.ok : ConOk Try.prog 33 c_laws_markCore := okOf laws_markCore.eq Try.func33 rfl (by kernel_rfl) fun i x h hi hw => laws_markCore.pure x.1 x.2 h hw
def laws_markCore.e : GE := ⟨33, c_laws_markCore, ⟨_, Try.func33, rfl, rfl⟩, laws_markCore.ok⟩

def fHd_Core (x : (Int × (Int × (Int × (Int × (Int × (Int × (Int × (Int × ((List (Int × (List UInt8))) × (Int × ((List Int) × ((List Int) × (List Int)))))))))))))) (k : Int) : Int := fHd (c_sCore x) (o_sCore x k) k
def c_laws_heldCore : Con := { A := (.pair (.pair (.int .i64) (.pair (.int .i64) (.pair (.int .i64) (.pair (.int .i64) (.pair (.int .i64) (.pair (.int .i64) (.pair (.int .i64) (.pair (.int .i64) (.pair (.list (.pair (.int .i64) .str)) (.pair (.int .i64) (.pair (.list (.int .i64)) (.pair (.list (.int .i64)) (.list (.int .i64)))))))))))))) (.int .i64)), shA := [.agg 13, .one], R := (.int .i64), shR := [(false, 1)], pre := fun _ a => (pMk_Core a.1 a.2), f := some fun _ a => ((fHd_Core a.1 a.2), ((), ())) }
def laws_heldCore.F  (a0 : (Int × (Int × (Int × (Int × (Int × (Int × (Int × (Int × ((List (Int × (List UInt8))) × (Int × ((List Int) × ((List Int) × (List Int)))))))))))))) (a1 : Int) : Prop := ((pMk_EntryS a0.2.2.2.2.2.2.2.2.1 a1) ∧ ∀ r1, (Eq r1 ((fHd_EntryS a0.2.2.2.2.2.2.2.2.1 a1), ((), ()))) → (caseB (decide (r1.1 < (0 : Int))) (Eq ((-1), ((), ())) ((fHd_Core a0 a1), ((), ()))) ((pMk_IntS a0.2.2.2.2.2.2.2.2.2.2.1 r1.1) ∧ ∀ r2, (Eq r2 ((fHd_IntS a0.2.2.2.2.2.2.2.2.2.2.1 r1.1), ((), ()))) → (caseB (decide (r2.1 < (0 : Int))) (Eq ((-1), ((), ())) ((fHd_Core a0 a1), ((), ()))) ((pMk_IntS a0.2.2.2.2.2.2.2.2.2.2.2.1 r2.1) ∧ ∀ r3, (Eq r3 ((fHd_IntS a0.2.2.2.2.2.2.2.2.2.2.2.1 r2.1), ((), ()))) → (caseB (decide (r3.1 < (0 : Int))) (Eq ((-1), ((), ())) ((fHd_Core a0 a1), ((), ()))) ((pMk_IntS a0.2.2.2.2.2.2.2.2.2.2.2.2 r3.1) ∧ ∀ r4, (Eq r4 ((fHd_IntS a0.2.2.2.2.2.2.2.2.2.2.2.2 r3.1), ((), ()))) → (caseB (decide (r4.1 < (0 : Int))) (Eq ((-1), ((), ())) ((fHd_Core a0 a1), ((), ()))) (Eq (r4.1, ((), ())) ((fHd_Core a0 a1), ((), ())))))))))))

theorem laws_heldCore.pure  (a0 : (Int × (Int × (Int × (Int × (Int × (Int × (Int × (Int × ((List (Int × (List UInt8))) × (Int × ((List Int) × ((List Int) × (List Int)))))))))))))) (a1 : Int) (h : (pMk_Core a0 a1)) (hw : Wf c_laws_heldCore.A (a0, a1)) : laws_heldCore.F a0 a1 := by
  unfold laws_heldCore.F
  obtain ⟨p1, p2⟩ := h
  simp only [c_sCore] at p2
  have p3 := cL_pos pos_Entry a0.2.2.2.2.2.2.2.2.1
  have p4 := cL_pos pos_Int a0.2.2.2.2.2.2.2.2.2.2.1
  have p5 := cL_pos pos_Int a0.2.2.2.2.2.2.2.2.2.2.2.1
  have p6 := cL_pos pos_Int a0.2.2.2.2.2.2.2.2.2.2.2.2
  simp only [forall_eq, true_and, and_true, caseB_iff, Prod.mk.injEq, decide_eq_true_eq, decide_eq_false_iff_not, Bool.not_eq_true', Bool.not_eq_false', bne_iff_ne, ne_eq, beq_iff_eq, Bool.not_true, Bool.not_false, beq_eq_false_iff_ne, bne_eq_false_iff_eq, List.length_append, List.length_cons, List.length_nil, List.append_nil, Nat.zero_add, decide_true, decide_false, eq_self_iff_true, fHd_Core, pMk_EntryS, fHd_EntryS, pMk_IntS, fHd_IntS, c_sCore, o_sCore]
  repeat' (with_reducible (first | (refine And.intro ?_ ?_) | intro _))
  all_goals (try simp (disch := first | omega | assumption) only [fHd_neg, fHd_yes, Bool.not_eq_false] at *)
  all_goals (try simp (disch := first | omega | assumption) only [fHd_neg, fHd_yes, Bool.not_eq_false] at *)
  all_goals (try simp (disch := first | omega | assumption) only [fHd_neg, fHd_yes, Bool.not_eq_false] at *)
  all_goals (try simp (disch := first | omega | assumption) only [fHd_neg, fHd_yes, Bool.not_eq_false] at *)
  all_goals (try simp (disch := first | omega | assumption) only [fHd_neg, fHd_yes, Bool.not_eq_false] at *)
  all_goals (try simp (disch := first | omega | assumption) only [fHd_neg, fHd_yes, Bool.not_eq_false] at *)
  all_goals (first | omega | (unfold fHd; grind) | skip)

set_option maxRecDepth 100000 in
theorem laws_heldCore.eq : EqS c_laws_heldCore Try.f34 [3] [laws_heldEntryS.e, laws_heldIntS.e] [] noL (fun i x => laws_heldCore.F x.1 x.2) := by intro i x; kernel_rfl
theorem laws_heldCore.ok : ConOk Try.prog 34 c_laws_heldCore := okOf laws_heldCore.eq Try.func34 rfl (by kernel_rfl) fun i x h hi hw => laws_heldCore.pure x.1 x.2 h hw
def laws_heldCore.e : GE := ⟨34, c_laws_heldCore, ⟨_, Try.func34, rfl, rfl⟩, laws_heldCore.ok⟩

end Go.Proofs.Ythkghdmpkdpnkaa.B
