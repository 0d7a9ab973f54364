/- Values of the type Wal: how large, the same, marked. -/
import Derived.Test.YthkghdmpkdpnkaaCTypes
import Derived.Test.YthkghdmpkdpnkaaCTEntry
namespace Go.Proofs.Ythkghdmpkdpnkaa.B
set_option linter.unusedVariables false
set_option linter.unusedSimpArgs false
open Go Go.Proofs.Ythkghdmpkdpnkaa.Bv

def n_Wal (x : (Int × (Int × (Int × (Int × (List (Int × (List UInt8)))))))) : Nat := (nL n_Entry x.2.2.2.2)
def pSz_Wal (x : (Int × (Int × (Int × (Int × (List (Int × (List UInt8)))))))) (left : Int) : Prop := WfD (.pair (.int .i64) (.pair (.int .i64) (.pair (.int .i64) (.pair (.int .i64) (.list (.pair (.int .i64) .str)))))) x ∧ 0 ≤ left ∧ left ≤ 1048576
def fSz_Wal (x : (Int × (Int × (Int × (Int × (List (Int × (List UInt8)))))))) (left : Int) : Int := fSz (n_Wal x) left
def c_laws_szWal : Con := { A := (.pair (.pair (.int .i64) (.pair (.int .i64) (.pair (.int .i64) (.pair (.int .i64) (.list (.pair (.int .i64) .str)))))) (.int .i64)), shA := [.agg 5, .one], R := (.int .i64), shR := [(false, 1)], pre := fun _ a => (pSz_Wal a.1 a.2), f := some fun _ a => ((fSz_Wal a.1 a.2), ((), ())) }
def laws_szWal.F  (a0 : (Int × (Int × (Int × (Int × (List (Int × (List UInt8)))))))) (a1 : Int) : Prop := ((pSz_EntryS a0.2.2.2.2 a1) ∧ ∀ r1, (Eq r1 ((fSz_EntryS a0.2.2.2.2 a1), ((), ()))) → (caseB (decide (r1.1 < (0 : Int))) (Eq ((-1), ((), ())) ((fSz_Wal a0 a1), ((), ()))) (Eq (r1.1, ((), ())) ((fSz_Wal a0 a1), ((), ())))))

theorem laws_szWal.pure  (a0 : (Int × (Int × (Int × (Int × (List (Int × (List UInt8)))))))) (a1 : Int) (h : (pSz_Wal a0 a1)) (hw : Wf c_laws_szWal.A (a0, a1)) : laws_szWal.F a0 a1 := by
  unfold laws_szWal.F
  obtain ⟨hwf, p1, p2⟩ := h
  have w4 : WfD (.list (.pair (.int .i64) .str)) a0.2.2.2.2 := hwf.2.2.2.2
  simp only [forall_eq, true_and, and_true, caseB_iff, Prod.mk.injEq, decide_eq_true_eq, decide_eq_false_iff_not, Bool.not_eq_true', Bool.not_eq_false', bne_iff_ne, ne_eq, beq_iff_eq, Bool.not_true, Bool.not_false, beq_eq_false_iff_ne, bne_eq_false_iff_eq, List.length_append, List.length_cons, List.length_nil, List.append_nil, Nat.zero_add, decide_true, decide_false, eq_self_iff_true, n_Wal, fSz_Wal, pSz_EntryS, fSz_EntryS]
  repeat' (with_reducible (first | (refine And.intro ?_ ?_) | intro _))
  all_goals (try simp (disch := omega) only [w64, wu8, tn0, tn1, tm1, tm2, List.length_append, List.length_cons, List.length_nil] at *)
  all_goals (try simp (disch := omega) only [w64, wu8, tn0, tn1, tm1, tm2, List.length_append, List.length_cons, List.length_nil] at *)
  all_goals (try omega)
  all_goals (try grind [fSz])

set_option maxRecDepth 100000 in
theorem laws_szWal.eq : EqS c_laws_szWal Try.f27 [3] [laws_szEntryS.e] [] noL (fun i x => laws_szWal.F x.1 x.2) := by intro i x; kernel_rfl
theorem laws_szWal.ok : ConOk Try.prog 27 c_laws_szWal := okOf laws_szWal.eq Try.func27 rfl (by kernel_rfl) fun i x h hi hw => laws_szWal.pure x.1 x.2 h hw
def laws_szWal.e : GE := ⟨27, c_laws_szWal, ⟨_, Try.func27, rfl, rfl⟩, laws_szWal.ok⟩

def pTo_Wal (x : (Int × (Int × (Int × (Int × (List (Int × (List UInt8)))))))) : Prop := n_Wal x ≤ 1048576
def fTo_Wal (x : (Int × (Int × (Int × (Int × (List (Int × (List UInt8)))))))) : (Int × (Int × (Int × (Int × (List (Int × (List UInt8))))))) := x
def c_laws_toWal : Con := { A := (.pair (.int .i64) (.pair (.int .i64) (.pair (.int .i64) (.pair (.int .i64) (.list (.pair (.int .i64) .str)))))), shA := [.agg 5], R := (.pair (.int .i64) (.pair (.int .i64) (.pair (.int .i64) (.pair (.int .i64) (.list (.pair (.int .i64) .str)))))), shR := [(true, 5)], fresh := [(4, 100)], pre := fun _ a => (pTo_Wal a), f := some fun _ a => ((fTo_Wal a), ((), ())) }
def laws_toWal.F  (a0 : (Int × (Int × (Int × (Int × (List (Int × (List UInt8)))))))) : Prop := ((pTo_EntryS a0.2.2.2.2) ∧ ∀ r1, (Eq r1 ((fTo_EntryS a0.2.2.2.2), ((), ()))) → (Eq ((a0.1, (a0.2.1, (a0.2.2.1, (a0.2.2.2.1, r1.1)))), ((), ())) ((fTo_Wal a0), ((), ()))))

theorem laws_toWal.pure  (a0 : (Int × (Int × (Int × (Int × (List (Int × (List UInt8)))))))) (h : (pTo_Wal a0)) (hw : Wf c_laws_toWal.A a0) : laws_toWal.F a0 := by
  unfold laws_toWal.F
  have hp : n_Wal a0 ≤ 1048576 := h
  simp only [n_Wal] at hp
  simp only [forall_eq, true_and, and_true, caseB_iff, Prod.mk.injEq, decide_eq_true_eq, decide_eq_false_iff_not, Bool.not_eq_true', Bool.not_eq_false', bne_iff_ne, ne_eq, beq_iff_eq, Bool.not_true, Bool.not_false, beq_eq_false_iff_ne, bne_eq_false_iff_eq, List.length_append, List.length_cons, List.length_nil, List.append_nil, Nat.zero_add, decide_true, decide_false, eq_self_iff_true, n_Wal, fTo_Wal, pTo_Wal, pTo_EntryS, fTo_EntryS]
  repeat' (with_reducible (first | (refine And.intro ?_ ?_) | intro _))
  all_goals (try simp (disch := omega) only [w64, wu8, tn0, tn1, tm1, tm2, List.length_append, List.length_cons, List.length_nil] at *)
  all_goals (try simp (disch := omega) only [w64, wu8, tn0, tn1, tm1, tm2, List.length_append, List.length_cons, List.length_nil] at *)
  all_goals (try omega)
  all_goals (try grind [])

set_option maxRecDepth 100000 in
theorem laws_toWal.eq : EqS c_laws_toWal Try.f29 [62] [laws_toEntryS.e] [] noL (fun i x => laws_toWal.F x) := by intro i x; kernel_rfl
theorem laws_toWal.ok : ConOk Try.prog 29 c_laws_toWal := okOf laws_toWal.eq Try.func29 rfl (by kernel_rfl) fun i x h hi hw => laws_toWal.pure x h hw
def laws_toWal.e : GE := ⟨29, c_laws_toWal, ⟨_, Try.func29, rfl, rfl⟩, laws_toWal.ok⟩

instance dec_Wal : DecidableEq (Int × (Int × (Int × (Int × (List (Int × (List UInt8))))))) := by (iterate 20 (all_goals (first | infer_instance | refine @instDecidableEqProd _ _ ?_ ?_)))
def fEq_Wal (a b : (Int × (Int × (Int × (Int × (List (Int × (List UInt8)))))))) : Bool := decide (a = b)
def c_laws_eqWal : Con := { A := (.pair (.pair (.int .i64) (.pair (.int .i64) (.pair (.int .i64) (.pair (.int .i64) (.list (.pair (.int .i64) .str)))))) (.pair (.int .i64) (.pair (.int .i64) (.pair (.int .i64) (.pair (.int .i64) (.list (.pair (.int .i64) .str))))))), shA := [.agg 5, .agg 5], R := .bool, shR := [(false, 1)], pre := fun _ _ => True, f := some fun _ a => ((fEq_Wal a.1 a.2), ((), ())) }
def laws_eqWal.F  (a0 : (Int × (Int × (Int × (Int × (List (Int × (List UInt8)))))))) (a1 : (Int × (Int × (Int × (Int × (List (Int × (List UInt8)))))))) : Prop := (caseB (a0.1 != a1.1) (Eq (false, ((), ())) ((fEq_Wal a0 a1), ((), ()))) (caseB (a0.2.1 != a1.2.1) (Eq (false, ((), ())) ((fEq_Wal a0 a1), ((), ()))) (caseB (a0.2.2.1 != a1.2.2.1) (Eq (false, ((), ())) ((fEq_Wal a0 a1), ((), ()))) (caseB (a0.2.2.2.1 != a1.2.2.2.1) (Eq (false, ((), ())) ((fEq_Wal a0 a1), ((), ()))) (True ∧ ∀ r1, (Eq r1 ((fEq_EntryS a0.2.2.2.2 a1.2.2.2.2), ((), ()))) → (caseB (!r1.1) (Eq (false, ((), ())) ((fEq_Wal a0 a1), ((), ()))) (Eq (true, ((), ())) ((fEq_Wal a0 a1), ((), ())))))))))

theorem laws_eqWal.pure  (a0 : (Int × (Int × (Int × (Int × (List (Int × (List UInt8)))))))) (a1 : (Int × (Int × (Int × (Int × (List (Int × (List UInt8)))))))) (h : True) (hw : Wf c_laws_eqWal.A (a0, a1)) : laws_eqWal.F a0 a1 := by
  unfold laws_eqWal.F
  obtain ⟨x1, x2, x3, x4, x5⟩ := a0
  obtain ⟨y1, y2, y3, y4, y5⟩ := a1
  simp only [forall_eq, true_and, and_true, caseB_iff, Prod.mk.injEq, decide_eq_true_eq, decide_eq_false_iff_not, Bool.not_eq_true', Bool.not_eq_false', bne_iff_ne, ne_eq, beq_iff_eq, Bool.not_true, Bool.not_false, beq_eq_false_iff_ne, bne_eq_false_iff_eq, List.length_append, List.length_cons, List.length_nil, List.append_nil, Nat.zero_add, decide_true, decide_false, eq_self_iff_true, fEq_Wal, fEq_EntryS]
  repeat' (first | (refine And.intro ?_ ?_) | intro _)
  all_goals simp_all

set_option maxRecDepth 100000 in
theorem laws_eqWal.eq : EqS c_laws_eqWal Try.f31 [4] [laws_eqEntryS.e] [] noL (fun i x => laws_eqWal.F x.1 x.2) := by intro i x; kernel_rfl
theorem laws_eqWal.ok : ConOk Try.prog 31 c_laws_eqWal := okOf laws_eqWal.eq Try.func31 rfl (by kernel_rfl) fun i x h hi hw => laws_eqWal.pure x.1 x.2 h hw
def laws_eqWal.e : GE := ⟨31, c_laws_eqWal, ⟨_, Try.func31, rfl, rfl⟩, laws_eqWal.ok⟩

def c_mWal (x : (Int × (Int × (Int × (Int × (List (Int × (List UInt8)))))))) : Int := 1 + 1 + 1 + 1 + cL c_mEntry x.2.2.2.2
def m_Wal (x : (Int × (Int × (Int × (Int × (List (Int × (List UInt8)))))))) (k : Int) : (Int × (Int × (Int × (Int × (List (Int × (List UInt8))))))) := (k, (k + 1), ((k + 1) + 1), (((k + 1) + 1) + 1), (mL c_mEntry m_Entry x.2.2.2.2 ((((k + 1) + 1) + 1) + 1)))
def o_Wal (x : (Int × (Int × (Int × (Int × (List (Int × (List UInt8)))))))) (k : Int) : Bool := (decide (x.1 = k)) && (decide (x.2.1 = (k + 1))) && (decide (x.2.2.1 = ((k + 1) + 1))) && (decide (x.2.2.2.1 = (((k + 1) + 1) + 1))) && (oL c_mEntry o_Entry x.2.2.2.2 ((((k + 1) + 1) + 1) + 1))
theorem ok_Wal : ∀ (x : (Int × (Int × (Int × (Int × (List (Int × (List UInt8)))))))) (k : Int), o_Wal (m_Wal x k) k = true ∧ c_mWal (m_Wal x k) = c_mWal x := fun x k => by
  simp [o_Wal, m_Wal, c_mWal, (oL_mL ok_Entry _ _).1, (oL_mL ok_Entry _ _).2]
theorem pos_Wal : ∀ x : (Int × (Int × (Int × (Int × (List (Int × (List UInt8))))))), 0 ≤ c_mWal x := fun x => by
  have p0 := fun l => cL_pos pos_Entry l
  have q0 := p0 x.2.2.2.2
  unfold c_mWal; omega
def c_sWal (x : (Int × (Int × (Int × (Int × (List (Int × (List UInt8)))))))) : Int := cL c_mEntry x.2.2.2.2
def m_sWal (x : (Int × (Int × (Int × (Int × (List (Int × (List UInt8)))))))) (k : Int) : (List (Int × (List UInt8))) := mL c_mEntry m_Entry x.2.2.2.2 k
def o_sWal (x : (Int × (Int × (Int × (Int × (List (Int × (List UInt8)))))))) (k : Int) : Bool := oL c_mEntry o_Entry x.2.2.2.2 k
def w_sWal (x : (Int × (Int × (Int × (Int × (List (Int × (List UInt8)))))))) (k : Int) : (Int × (Int × (Int × (Int × (List (Int × (List UInt8))))))) := (x.1, (x.2.1, (x.2.2.1, (x.2.2.2.1, mL c_mEntry m_Entry x.2.2.2.2 k))))
theorem pos_sWal (x : (Int × (Int × (Int × (Int × (List (Int × (List UInt8)))))))) : 0 ≤ c_sWal x := by
  have p0 := cL_pos pos_Entry x.2.2.2.2
  unfold c_sWal; omega
theorem ok_sWal (x : (Int × (Int × (Int × (Int × (List (Int × (List UInt8)))))))) (k : Int) : o_sWal (w_sWal x k) k = true ∧ c_sWal (w_sWal x k) = c_sWal x := by
  simp [o_sWal, w_sWal, c_sWal, (oL_mL ok_Entry _ _).1, (oL_mL ok_Entry _ _).2]
def pMk_Wal (x : (Int × (Int × (Int × (Int × (List (Int × (List UInt8)))))))) (k : Int) : Prop := 0 ≤ k ∧ k + c_sWal x ≤ 4611686018427387904
def fMk_Wal (x : (Int × (Int × (Int × (Int × (List (Int × (List UInt8)))))))) (k : Int) : Int × (List (Int × (List UInt8))) := (k + c_sWal x, m_sWal x k)
def c_laws_markWal : Con := { A := (.pair (.pair (.int .i64) (.pair (.int .i64) (.pair (.int .i64) (.pair (.int .i64) (.list (.pair (.int .i64) .str)))))) (.int .i64)), shA := [.agg 5, .one], backA := [(4, 100)], B := (.list (.pair (.int .i64) .str)), R := (.int .i64), shR := [(false, 1)], pre := fun _ a => (pMk_Wal a.1 a.2), f := some fun _ a => ((fMk_Wal a.1 a.2).1, ((), (fMk_Wal a.1 a.2).2)) }
def laws_markWal.F  (a0 : (Int × (Int × (Int × (Int × (List (Int × (List UInt8)))))))) (a1 : Int) : Prop := ((pMk_EntryS a0.2.2.2.2 a1) ∧ ∀ r1, (Eq r1 ((fMk_EntryS a0.2.2.2.2 a1).1, ((), (fMk_EntryS a0.2.2.2.2 a1).2))) → (Eq (r1.1, ((), r1.2.2)) ((fMk_Wal a0 a1).1, ((), (fMk_Wal a0 a1).2))))

theorem laws_markWal.pure  (a0 : (Int × (Int × (Int × (Int × (List (Int × (List UInt8)))))))) (a1 : Int) (h : (pMk_Wal a0 a1)) (hw : Wf c_laws_markWal.A (a0, a1)) : laws_markWal.F a0 a1 := by
  unfold laws_markWal.F
  obtain ⟨p1, p2⟩ := h
  simp only [c_sWal] at p2
  have p3 := cL_pos pos_Entry a0.2.2.2.2
  simp only [forall_eq, true_and, and_true, caseB_iff, Prod.mk.injEq, decide_eq_true_eq, decide_eq_false_iff_not, Bool.not_eq_true', Bool.not_eq_false', bne_iff_ne, ne_eq, beq_iff_eq, Bool.not_true, Bool.not_false, beq_eq_false_iff_ne, bne_eq_false_iff_eq, List.length_append, List.length_cons, List.length_nil, List.append_nil, Nat.zero_add, decide_true, decide_false, eq_self_iff_true, fMk_EntryS, pMk_EntryS, c_sWal, m_sWal]
  repeat' (with_reducible (first | (refine And.intro ?_ ?_) | intro _))
  all_goals (try simp only [← Int.add_assoc])
  all_goals (first | omega | rfl | (refine Prod.ext ?_ rfl; simp only; omega) | skip)

set_option maxRecDepth 100000 in
theorem laws_markWal.eq : EqS c_laws_markWal Try.f32 [3] [laws_markEntryS.e] [] noL (fun i x => laws_markWal.F x.1 x.2) := by intro i x; kernel_rfl
theorem laws_markWal.ok : ConOk Try.prog 32 c_laws_markWal := okOf laws_markWal.eq Try.func32 rfl (by kernel_rfl) fun i x h hi hw => laws_markWal.pure x.1 x.2 h hw
def laws_markWal.e : GE := ⟨32, c_laws_markWal, ⟨_, Try.func32, rfl, rfl⟩, laws_markWal.ok⟩

def fHd_Wal (x : (Int × (Int × (Int × (Int × (List (Int × (List UInt8)))))))) (k : Int) : Int := fHd (c_sWal x) (o_sWal x k) k
def c_laws_heldWal : Con := { A := (.pair (.pair (.int .i64) (.pair (.int .i64) (.pair (.int .i64) (.pair (.int .i64) (.list (.pair (.int .i64) .str)))))) (.int .i64)), shA := [.agg 5, .one], R := (.int .i64), shR := [(false, 1)], pre := fun _ a => (pMk_Wal a.1 a.2), f := some fun _ a => ((fHd_Wal a.1 a.2), ((), ())) }
def laws_heldWal.F  (a0 : (Int × (Int × (Int × (Int × (List (Int × (List UInt8)))))))) (a1 : Int) : Prop := ((pMk_EntryS a0.2.2.2.2 a1) ∧ ∀ r1, (Eq r1 ((fHd_EntryS a0.2.2.2.2 a1), ((), ()))) → (caseB (decide (r1.1 < (0 : Int))) (Eq ((-1), ((), ())) ((fHd_Wal a0 a1), ((), ()))) (Eq (r1.1, ((), ())) ((fHd_Wal a0 a1), ((), ())))))

theorem laws_heldWal.pure  (a0 : (Int × (Int × (Int × (Int × (List (Int × (List UInt8)))))))) (a1 : Int) (h : (pMk_Wal a0 a1)) (hw : Wf c_laws_heldWal.A (a0, a1)) : laws_heldWal.F a0 a1 := by
  unfold laws_heldWal.F
  obtain ⟨p1, p2⟩ := h
  simp only [c_sWal] at p2
  have p3 := cL_pos pos_Entry a0.2.2.2.2
  simp only [forall_eq, true_and, and_true, caseB_iff, Prod.mk.injEq, decide_eq_true_eq, decide_eq_false_iff_not, Bool.not_eq_true', Bool.not_eq_false', bne_iff_ne, ne_eq, beq_iff_eq, Bool.not_true, Bool.not_false, beq_eq_false_iff_ne, bne_eq_false_iff_eq, List.length_append, List.length_cons, List.length_nil, List.append_nil, Nat.zero_add, decide_true, decide_false, eq_self_iff_true, fHd_Wal, pMk_EntryS, fHd_EntryS, c_sWal, o_sWal]
  repeat' (with_reducible (first | (refine And.intro ?_ ?_) | intro _))
  all_goals (try simp (disch := first | omega | assumption) only [fHd_neg, fHd_yes, Bool.not_eq_false] at *)
  all_goals (try simp (disch := first | omega | assumption) only [fHd_neg, fHd_yes, Bool.not_eq_false] at *)
  all_goals (first | omega | (unfold fHd; grind) | skip)

set_option maxRecDepth 100000 in
theorem laws_heldWal.eq : EqS c_laws_heldWal Try.f37 [3] [laws_heldEntryS.e] [] noL (fun i x => laws_heldWal.F x.1 x.2) := by intro i x; kernel_rfl
theorem laws_heldWal.ok : ConOk Try.prog 37 c_laws_heldWal := okOf laws_heldWal.eq Try.func37 rfl (by kernel_rfl) fun i x h hi hw => laws_heldWal.pure x.1 x.2 h hw
def laws_heldWal.e : GE := ⟨37, c_laws_heldWal, ⟨_, Try.func37, rfl, rfl⟩, laws_heldWal.ok⟩

end Go.Proofs.Ythkghdmpkdpnkaa.B
