/- Values of the type Entry: how large, the same, marked. -/
import Derived.Test.YthkghdmpkdpnkaaCTypes
namespace Go.Proofs.Ythkghdmpkdpnkaa.B
set_option linter.unusedVariables false
set_option linter.unusedSimpArgs false
open Go Go.Proofs.Ythkghdmpkdpnkaa.Bv

def n_Entry (x : (Int × (List UInt8))) : Nat := (x.2.length)
def pSz_Entry (x : (Int × (List UInt8))) (left : Int) : Prop := WfD (.pair (.int .i64) .str) x ∧ 0 ≤ left ∧ left ≤ 1048576
def fSz_Entry (x : (Int × (List UInt8))) (left : Int) : Int := fSz (n_Entry x) left
def c_laws_szEntry : Con := { A := (.pair (.pair (.int .i64) .str) (.int .i64)), shA := [.agg 2, .one], R := (.int .i64), shR := [(false, 1)], pre := fun _ a => (pSz_Entry a.1 a.2), f := some fun _ a => ((fSz_Entry a.1 a.2), ((), ())) }
def laws_szEntry.F  (a0 : (Int × (List UInt8))) (a1 : Int) : Prop := (caseB (decide ((wI (a1 - (ln a0.2))) < (0 : Int))) (Eq ((-1), ((), ())) ((fSz_Entry a0 a1), ((), ()))) (Eq ((wI (a1 - (ln a0.2))), ((), ())) ((fSz_Entry a0 a1), ((), ()))))

theorem laws_szEntry.pure  (a0 : (Int × (List UInt8))) (a1 : Int) (h : (pSz_Entry a0 a1)) (hw : Wf c_laws_szEntry.A (a0, a1)) : laws_szEntry.F a0 a1 := by
  delta laws_szEntry.F ln wI
  obtain ⟨hwf, p1, p2⟩ := h
  have w1 : a0.2.length ≤ 9223372036854775807 := hwf.2
  simp only [forall_eq, true_and, and_true, caseB_iff, Prod.mk.injEq, decide_eq_true_eq, decide_eq_false_iff_not, Bool.not_eq_true', Bool.not_eq_false', bne_iff_ne, ne_eq, beq_iff_eq, Bool.not_true, Bool.not_false, beq_eq_false_iff_ne, bne_eq_false_iff_eq, List.length_append, List.length_cons, List.length_nil, List.append_nil, Nat.zero_add, decide_true, decide_false, eq_self_iff_true, n_Entry, fSz_Entry]
  repeat' (with_reducible (first | (refine And.intro ?_ ?_) | intro _))
  all_goals (try simp (disch := omega) only [w64, wu8, tn0, tn1, tm1, tm2, List.length_append, List.length_cons, List.length_nil] at *)
  all_goals (try simp (disch := omega) only [w64, wu8, tn0, tn1, tm1, tm2, List.length_append, List.length_cons, List.length_nil] at *)
  all_goals (try omega)
  all_goals (try grind [fSz])

set_option maxRecDepth 100000 in
theorem laws_szEntry.eq : EqS c_laws_szEntry Try.f91 [3] [] [] noL (fun i x => laws_szEntry.F x.1 x.2) := by intro i x; kernel_rfl
theorem laws_szEntry.ok : ConOk Try.prog 91 c_laws_szEntry := okOf laws_szEntry.eq Try.func91 rfl (by kernel_rfl) fun i x h hi hw => laws_szEntry.pure x.1 x.2 h hw
def laws_szEntry.e : GE := ⟨91, c_laws_szEntry, ⟨_, Try.func91, rfl, rfl⟩, laws_szEntry.ok⟩

def pSz_EntryS (x : List (Int × (List UInt8))) (left : Int) : Prop := WfD (.list (.pair (.int .i64) .str)) x ∧ 0 ≤ left ∧ left ≤ 1048576
def fSz_EntryS (x : List (Int × (List UInt8))) (left : Int) : Int := fSz (nL n_Entry x) left
def c_laws_szEntryS : Con := { A := (.pair (.list (.pair (.int .i64) .str)) (.int .i64)), shA := [.one, .one], R := (.int .i64), shR := [(false, 1)], pre := fun _ a => (pSz_EntryS a.1 a.2), f := some fun _ a => ((fSz_EntryS a.1 a.2), ((), ())) }
def laws_szEntryS.F  (a0 : (List (Int × (List UInt8)))) (a1 : Int) : Prop := (caseB (decide ((wI (a1 - (ln a0))) < (0 : Int))) (Eq ((-1), ((), ())) ((fSz_EntryS a0 a1), ((), ()))) (eS [(0, .val false [.lst (.pair (.int .i64) .str) a0 none])] [(0, .val false [.lst (.pair (.int .i64) .str) a0 none])] ∧ ((szLI n_Entry a0 a1 (wI (a1 - (ln a0))) 0) ∧ ∀ (y1 : (Int × Int)), (szLI n_Entry a0 a1 y1.1 y1.2) → (caseB (decide (y1.2 < (ln a0))) (0 ≤ y1.2 ∧ (y1.2 < (ln a0) ∧ ((pSz_Entry ((List.getD a0 (tN y1.2) (0, [])).1, (List.getD a0 (tN y1.2) (0, [])).2) y1.1) ∧ ∀ r2, (Eq r2 ((fSz_Entry ((List.getD a0 (tN y1.2) (0, [])).1, (List.getD a0 (tN y1.2) (0, [])).2) y1.1), ((), ()))) → (caseB (decide (r2.1 < (0 : Int))) (Eq ((-1), ((), ())) ((fSz_EntryS a0 a1), ((), ()))) (eS [(0, .val false [.lst (.pair (.int .i64) .str) a0 none])] [(0, .val false [.lst (.pair (.int .i64) .str) a0 none])] ∧ (szLI n_Entry a0 a1 r2.1 (wI (y1.2 + (1 : Int)))) ∧ (szLM a0 a1 r2.1 (wI (y1.2 + (1 : Int)))) < (szLM a0 a1 y1.1 y1.2)))))) (Eq (y1.1, ((), ())) ((fSz_EntryS a0 a1), ((), ())))))))
def laws_szEntryS.L  (a0 : (List (Int × (List UInt8)))) (a1 : Int) : Nat → Option LoopAnn := fun p => Go.Proofs.Ythkghdmpkdpnkaa.Bv.look p [(122, { kp := { hold := [0], slots := [1, 5], boxes := [], rows := [] }, T := (.pair (.int .i64) (.int .i64)), I := fun st y => szLI n_Entry a0 a1 y.1 y.2, μ := fun st y => szLM a0 a1 y.1 y.2 })]

theorem laws_szEntryS.pure  (a0 : (List (Int × (List UInt8)))) (a1 : Int) (h : (pSz_EntryS a0 a1)) (hw : Wf c_laws_szEntryS.A (a0, a1)) : laws_szEntryS.F a0 a1 := by
  delta laws_szEntryS.F ln tN wI eS
  obtain ⟨hwf, p1, p2⟩ := h
  have hw1 : a0.length ≤ 9223372036854775807 := hwf.1
  simp only [forall_eq, true_and, and_true, caseB_iff, Prod.mk.injEq, decide_eq_true_eq, decide_eq_false_iff_not, Bool.not_eq_true', Bool.not_eq_false', bne_iff_ne, ne_eq, beq_iff_eq, Bool.not_true, Bool.not_false, beq_eq_false_iff_ne, bne_eq_false_iff_eq, List.length_append, List.length_cons, List.length_nil, List.append_nil, Nat.zero_add, decide_true, decide_false, eq_self_iff_true, fSz_EntryS]
  rw [w64 (x := a1 - (a0.length : Int)) (by omega) (by omega)]
  refine ⟨fun h1 => (fSz_no (by unfold nL; omega)).symm, fun h1 => ⟨⟨by omega, by omega, by omega, by rw [show Int.toNat 0 = 0 from rfl, sumT_zero]; omega⟩, ?_⟩⟩
  rintro ⟨left, i⟩ ⟨h2, h3, h4, h5⟩
  simp only at h2 h3 h4 h5 ⊢
  refine ⟨fun hi => ?_, fun hi => ?_⟩
  · have hm : a0.getD i.toNat ((0 : Int), ([] : (List UInt8))) ∈ a0 := getD_mem (by omega)
    have s1 := sumT_succ n_Entry a0 ((0 : Int), ([] : (List UInt8))) (i := i.toNat) (by omega)
    have s2 := sumT_le n_Entry a0 (i.toNat + 1)
    have hwx : WfD (.pair (.int .i64) .str) (a0.getD i.toNat ((0 : Int), ([] : (List UInt8)))) := hwf.2 _ hm
    rw [w64 (x := i + 1) (by omega) (by omega)]
    simp only [fSz_Entry]
    by_cases hc : left < (n_Entry (a0.getD i.toNat ((0 : Int), ([] : (List UInt8)))) : Int)
    · rw [fSz_no hc]
      exact ⟨h2, hi, ⟨hwx, h4, by omega⟩, fun h6 => (fSz_no (by unfold nL; omega)).symm, fun h6 => absurd (by decide) h6⟩
    · rw [fSz_yes hc]
      exact ⟨h2, hi, ⟨hwx, h4, by omega⟩, fun h6 => by omega, fun h6 => ⟨⟨by omega, by omega, by omega, by rw [tn1 h2]; omega⟩, by unfold szLM; omega⟩⟩
  · have e : i.toNat = a0.length := by omega
    rw [e] at h5
    rw [fSz_yes (by unfold nL; omega)]
    unfold nL; omega

set_option maxRecDepth 100000 in
theorem laws_szEntryS.eq : EqS c_laws_szEntryS Try.f48 [3] [laws_szEntry.e] [] (fun i x => laws_szEntryS.L x.1 x.2) (fun i x => laws_szEntryS.F x.1 x.2) := by intro i x; kernel_rfl
theorem laws_szEntryS.ok : ConOk Try.prog 48 c_laws_szEntryS := okOf laws_szEntryS.eq Try.func48 rfl (by kernel_rfl) fun i x h hi hw => laws_szEntryS.pure x.1 x.2 h hw
def laws_szEntryS.e : GE := ⟨48, c_laws_szEntryS, ⟨_, Try.func48, rfl, rfl⟩, laws_szEntryS.ok⟩

def pTo_Entry (x : (Int × (List UInt8))) : Prop := n_Entry x ≤ 1048576
def fTo_Entry (x : (Int × (List UInt8))) : (Int × (List UInt8)) := x
def c_laws_toEntry : Con := { A := (.pair (.int .i64) .str), shA := [.agg 2], R := (.pair (.int .i64) .str), shR := [(true, 2)], pre := fun _ a => (pTo_Entry a), f := some fun _ a => ((fTo_Entry a), ((), ())) }
def laws_toEntry.F  (a0 : (Int × (List UInt8))) : Prop := (Eq ((a0.1, a0.2), ((), ())) ((fTo_Entry a0), ((), ())))

theorem laws_toEntry.pure  (a0 : (Int × (List UInt8))) (h : (pTo_Entry a0)) (hw : Wf c_laws_toEntry.A a0) : laws_toEntry.F a0 := by
  unfold laws_toEntry.F
  have hp : n_Entry a0 ≤ 1048576 := h
  simp only [n_Entry] at hp
  simp only [forall_eq, true_and, and_true, caseB_iff, Prod.mk.injEq, decide_eq_true_eq, decide_eq_false_iff_not, Bool.not_eq_true', Bool.not_eq_false', bne_iff_ne, ne_eq, beq_iff_eq, Bool.not_true, Bool.not_false, beq_eq_false_iff_ne, bne_eq_false_iff_eq, List.length_append, List.length_cons, List.length_nil, List.append_nil, Nat.zero_add, decide_true, decide_false, eq_self_iff_true, n_Entry, fTo_Entry, pTo_Entry]
  repeat' (with_reducible (first | (refine And.intro ?_ ?_) | intro _))
  all_goals (try simp (disch := omega) only [w64, wu8, tn0, tn1, tm1, tm2, List.length_append, List.length_cons, List.length_nil] at *)
  all_goals (try simp (disch := omega) only [w64, wu8, tn0, tn1, tm1, tm2, List.length_append, List.length_cons, List.length_nil] at *)
  all_goals (try omega)
  all_goals (try grind [])

set_option maxRecDepth 100000 in
theorem laws_toEntry.eq : EqS c_laws_toEntry Try.f93 [100] [] [] noL (fun i x => laws_toEntry.F x) := by intro i x; kernel_rfl
theorem laws_toEntry.ok : ConOk Try.prog 93 c_laws_toEntry := okOf laws_toEntry.eq Try.func93 rfl (by kernel_rfl) fun i x h hi hw => laws_toEntry.pure x h hw
def laws_toEntry.e : GE := ⟨93, c_laws_toEntry, ⟨_, Try.func93, rfl, rfl⟩, laws_toEntry.ok⟩

def pTo_EntryS (x : List (Int × (List UInt8))) : Prop := nL n_Entry x ≤ 1048576
def fTo_EntryS (x : List (Int × (List UInt8))) : List (Int × (List UInt8)) := x
def c_laws_toEntryS : Con := { A := (.list (.pair (.int .i64) .str)), shA := [.one], R := (.list (.pair (.int .i64) .str)), shR := [(false, 1)], fresh := [(0, 100)], pre := fun _ a => (pTo_EntryS a), f := some fun _ a => ((fTo_EntryS a), ((), ())) }
def laws_toEntryS.F  (a0 : (List (Int × (List UInt8)))) : Prop := (0 ≤ (ln a0) ∧ ((ln a0) ≤ (ln a0) ∧ ((ln a0) ≤ 9223372036854775807 ∧ (((24 : Nat) : Int) * (ln a0) ≤ 140737488355328 ∧ (eS [(0, .val false [.lst (.pair (.int .i64) .str) a0 none]), (3, .val false [.own (.pair (.int .i64) .str) 1000387])] [(0, .val false [.lst (.pair (.int .i64) .str) a0 none]), (3, .val false [.own (.pair (.int .i64) .str) 1000387])] ∧ ((cpI ((0 : Int), ([] : (List UInt8))) a0 0 (List.replicate (tN (ln a0)) ((0 : Int), ([] : (List UInt8))))) ∧ ∀ (y1 : (Int × (List (Int × (List UInt8))))), (cpI ((0 : Int), ([] : (List UInt8))) a0 y1.1 y1.2) → (caseB (decide (y1.1 < (ln a0))) (0 ≤ y1.1 ∧ (y1.1 < (ln a0) ∧ ((pTo_Entry ((List.getD a0 (tN y1.1) (0, [])).1, (List.getD a0 (tN y1.1) (0, [])).2)) ∧ ∀ r2, (Eq r2 ((fTo_Entry ((List.getD a0 (tN y1.1) (0, [])).1, (List.getD a0 (tN y1.1) (0, [])).2)), ((), ()))) → (0 ≤ y1.1 ∧ (y1.1 < (ln y1.2) ∧ (eS [(0, .val false [.lst (.pair (.int .i64) .str) a0 none]), (3, .val false [.own (.pair (.int .i64) .str) 1000387])] [(0, .val false [.lst (.pair (.int .i64) .str) a0 none]), (3, .val false [.own (.pair (.int .i64) .str) 1000387])] ∧ (cpI ((0 : Int), ([] : (List UInt8))) a0 (wI (y1.1 + (1 : Int))) (List.set y1.2 (tN y1.1) (r2.1.1, r2.1.2))) ∧ (cpM a0 (wI (y1.1 + (1 : Int))) (List.set y1.2 (tN y1.1) (r2.1.1, r2.1.2))) < (cpM a0 y1.1 y1.2))))))) (Eq (y1.2, ((), ())) ((fTo_EntryS a0), ((), ()))))))))))
def laws_toEntryS.L  (a0 : (List (Int × (List UInt8)))) : Nat → Option LoopAnn := fun p => Go.Proofs.Ythkghdmpkdpnkaa.Bv.look p [(58, { kp := { hold := [0, 3], slots := [4], boxes := [], rows := [{ bx := false, s := 3, i := 0, k := 1000387, e := 100, hot := true }] }, T := (.pair (.int .i64) (.list (.pair (.int .i64) .str))), I := fun st y => cpI ((0 : Int), ([] : (List UInt8))) a0 y.1 y.2, μ := fun st y => cpM a0 y.1 y.2 })]

theorem laws_toEntryS.pure  (a0 : (List (Int × (List UInt8)))) (h : (pTo_EntryS a0)) (hw : Wf c_laws_toEntryS.A a0) : laws_toEntryS.F a0 := by
  delta laws_toEntryS.F ln tN wI eS
  have hb : a0.length ≤ 1048576 := by have h1 : nL n_Entry a0 ≤ 1048576 := h; unfold nL at h1; omega
  simp only [forall_eq, true_and, and_true, caseB_iff, Prod.mk.injEq, decide_eq_true_eq, decide_eq_false_iff_not, Bool.not_eq_true', Bool.not_eq_false', bne_iff_ne, ne_eq, beq_iff_eq, Bool.not_true, Bool.not_false, beq_eq_false_iff_ne, bne_eq_false_iff_eq, List.length_append, List.length_cons, List.length_nil, List.append_nil, Nat.zero_add, decide_true, decide_false, eq_self_iff_true, fTo_EntryS]
  refine ⟨by omega, by omega, by omega, by omega, ⟨by omega, by omega, by simp⟩, ?_⟩
  rintro ⟨i, out⟩ hI
  simp only at hI ⊢
  refine ⟨fun hi => ?_, fun hi => cp_end hI hi⟩
  have hl := cp_len hI
  have h3 := hI.2.1
  have h2 := hI.1
  have hp : pTo_Entry (a0.getD i.toNat ((0 : Int), ([] : (List UInt8)))) := by
    have h1 : nL n_Entry a0 ≤ 1048576 := h
    have hm : a0.getD i.toNat ((0 : Int), ([] : (List UInt8))) ∈ a0 := getD_mem (by omega)
    show n_Entry _ ≤ 1048576
    have := nL_mem n_Entry hm; omega
  rw [w64 (x := i + 1) (by omega) (by omega)]
  simp only [fTo_Entry, hl]
  exact ⟨h2, hi, hp, h2, hi, cp_step hI hi, by unfold cpM; omega⟩

set_option maxRecDepth 100000 in
theorem laws_toEntryS.eq : EqS c_laws_toEntryS Try.f55 [37] [laws_toEntry.e] [] (fun i x => laws_toEntryS.L x) (fun i x => laws_toEntryS.F x) := by intro i x; kernel_rfl
theorem laws_toEntryS.ok : ConOk Try.prog 55 c_laws_toEntryS := okOf laws_toEntryS.eq Try.func55 rfl (by kernel_rfl) fun i x h hi hw => laws_toEntryS.pure x h hw
def laws_toEntryS.e : GE := ⟨55, c_laws_toEntryS, ⟨_, Try.func55, rfl, rfl⟩, laws_toEntryS.ok⟩

instance dec_Entry : DecidableEq (Int × (List UInt8)) := by (iterate 20 (all_goals (first | infer_instance | refine @instDecidableEqProd _ _ ?_ ?_)))
def fEq_Entry (a b : (Int × (List UInt8))) : Bool := decide (a = b)
def c_laws_eqEntry : Con := { A := (.pair (.pair (.int .i64) .str) (.pair (.int .i64) .str)), shA := [.agg 2, .agg 2], R := .bool, shR := [(false, 1)], pre := fun _ _ => True, f := some fun _ a => ((fEq_Entry a.1 a.2), ((), ())) }
def laws_eqEntry.F  (a0 : (Int × (List UInt8))) (a1 : (Int × (List UInt8))) : Prop := (caseB (a0.1 != a1.1) (Eq (false, ((), ())) ((fEq_Entry a0 a1), ((), ()))) (caseB (!(a0.2 == a1.2)) (Eq (false, ((), ())) ((fEq_Entry a0 a1), ((), ()))) (Eq (true, ((), ())) ((fEq_Entry a0 a1), ((), ())))))

theorem laws_eqEntry.pure  (a0 : (Int × (List UInt8))) (a1 : (Int × (List UInt8))) (h : True) (hw : Wf c_laws_eqEntry.A (a0, a1)) : laws_eqEntry.F a0 a1 := by
  unfold laws_eqEntry.F
  obtain ⟨x1, x2⟩ := a0
  obtain ⟨y1, y2⟩ := a1
  simp only [forall_eq, true_and, and_true, caseB_iff, Prod.mk.injEq, decide_eq_true_eq, decide_eq_false_iff_not, Bool.not_eq_true', Bool.not_eq_false', bne_iff_ne, ne_eq, beq_iff_eq, Bool.not_true, Bool.not_false, beq_eq_false_iff_ne, bne_eq_false_iff_eq, List.length_append, List.length_cons, List.length_nil, List.append_nil, Nat.zero_add, decide_true, decide_false, eq_self_iff_true, fEq_Entry]
  repeat' (first | (refine And.intro ?_ ?_) | intro _)
  all_goals simp_all

set_option maxRecDepth 100000 in
theorem laws_eqEntry.eq : EqS c_laws_eqEntry Try.f99 [4] [] [] noL (fun i x => laws_eqEntry.F x.1 x.2) := by intro i x; kernel_rfl
theorem laws_eqEntry.ok : ConOk Try.prog 99 c_laws_eqEntry := okOf laws_eqEntry.eq Try.func99 rfl (by kernel_rfl) fun i x h hi hw => laws_eqEntry.pure x.1 x.2 h hw
def laws_eqEntry.e : GE := ⟨99, c_laws_eqEntry, ⟨_, Try.func99, rfl, rfl⟩, laws_eqEntry.ok⟩

def fEq_EntryS (a b : List (Int × (List UInt8))) : Bool := decide (a = b)
def c_laws_eqEntryS : Con := { A := (.pair (.list (.pair (.int .i64) .str)) (.list (.pair (.int .i64) .str))), shA := [.one, .one], R := .bool, shR := [(false, 1)], pre := fun _ _ => True, f := some fun _ a => ((fEq_EntryS a.1 a.2), ((), ())) }
def laws_eqEntryS.F  (a0 : (List (Int × (List UInt8)))) (a1 : (List (Int × (List UInt8)))) : Prop := (caseB ((ln a0) != (ln a1)) (Eq (false, ((), ())) ((fEq_EntryS a0 a1), ((), ()))) (eS [(0, .val false [.lst (.pair (.int .i64) .str) a0 none]), (1, .val false [.lst (.pair (.int .i64) .str) a1 none])] [(0, .val false [.lst (.pair (.int .i64) .str) a0 none]), (1, .val false [.lst (.pair (.int .i64) .str) a1 none])] ∧ ((eqLI a0 a1 0) ∧ ∀ (y1 : Int), (eqLI a0 a1 y1) → (caseB (decide (y1 < (ln a0))) (0 ≤ y1 ∧ (y1 < (ln a0) ∧ (0 ≤ y1 ∧ (y1 < (ln a1) ∧ (True ∧ ∀ r2, (Eq r2 ((fEq_Entry ((List.getD a0 (tN y1) (0, [])).1, (List.getD a0 (tN y1) (0, [])).2) ((List.getD a1 (tN y1) (0, [])).1, (List.getD a1 (tN y1) (0, [])).2)), ((), ()))) → (caseB (!r2.1) (Eq (false, ((), ())) ((fEq_EntryS a0 a1), ((), ()))) (eS [(0, .val false [.lst (.pair (.int .i64) .str) a0 none]), (1, .val false [.lst (.pair (.int .i64) .str) a1 none])] [(0, .val false [.lst (.pair (.int .i64) .str) a0 none]), (1, .val false [.lst (.pair (.int .i64) .str) a1 none])] ∧ (eqLI a0 a1 (wI (y1 + (1 : Int)))) ∧ (eqLM a0 a1 (wI (y1 + (1 : Int)))) < (eqLM a0 a1 y1)))))))) (Eq (true, ((), ())) ((fEq_EntryS a0 a1), ((), ())))))))
def laws_eqEntryS.L  (a0 : (List (Int × (List UInt8)))) (a1 : (List (Int × (List UInt8)))) : Nat → Option LoopAnn := fun p => Go.Proofs.Ythkghdmpkdpnkaa.Bv.look p [(58, { kp := { hold := [0, 1], slots := [5], boxes := [], rows := [] }, T := (.int .i64), I := fun st y => eqLI a0 a1 y, μ := fun st y => eqLM a0 a1 y })]

theorem laws_eqEntryS.pure  (a0 : (List (Int × (List UInt8)))) (a1 : (List (Int × (List UInt8)))) (h : True) (hw : Wf c_laws_eqEntryS.A (a0, a1)) : laws_eqEntryS.F a0 a1 := by
  delta laws_eqEntryS.F ln tN wI eS
  have hw1 : a0.length ≤ 9223372036854775807 := hw.1.1
  simp only [forall_eq, true_and, and_true, caseB_iff, Prod.mk.injEq, decide_eq_true_eq, decide_eq_false_iff_not, Bool.not_eq_true', Bool.not_eq_false', bne_iff_ne, ne_eq, beq_iff_eq, Bool.not_true, Bool.not_false, beq_eq_false_iff_ne, bne_eq_false_iff_eq, List.length_append, List.length_cons, List.length_nil, List.append_nil, Nat.zero_add, decide_true, decide_false, eq_self_iff_true]
  refine ⟨fun h1 => ?_, fun h1 => ?_⟩
  · have : a0 ≠ a1 := fun e => by subst e; simp at h1
    simp [fEq_EntryS, this]
  have hl : a0.length = a1.length := by omega
  refine ⟨⟨by omega, by omega, hl, by simp⟩, ?_⟩
  rintro i hI
  have h2 := hI.1
  have h3 := hI.2.1
  refine ⟨fun hi => ⟨h2, hi, h2, by omega, fun hne => ?_, fun he => ?_⟩, fun hi => ?_⟩
  · have : a0 ≠ a1 := fun e => by subst e; simp [fEq_Entry] at hne
    simp [fEq_EntryS, this]
  · have hg : a0.getD i.toNat ((0 : Int), ([] : (List UInt8))) = a1.getD i.toNat ((0 : Int), ([] : (List UInt8))) := by simpa only [fEq_Entry, decide_eq_true_eq] using he
    rw [w64 (x := i + 1) (by omega) (by omega)]
    exact ⟨eqL_step hI hi hg, by unfold eqLM; omega⟩
  · have h6 := eqL_end hI hi
    simp [fEq_EntryS, h6]

set_option maxRecDepth 100000 in
theorem laws_eqEntryS.eq : EqS c_laws_eqEntryS Try.f64 [4] [laws_eqEntry.e] [] (fun i x => laws_eqEntryS.L x.1 x.2) (fun i x => laws_eqEntryS.F x.1 x.2) := by intro i x; kernel_rfl
theorem laws_eqEntryS.ok : ConOk Try.prog 64 c_laws_eqEntryS := okOf laws_eqEntryS.eq Try.func64 rfl (by kernel_rfl) fun i x h hi hw => laws_eqEntryS.pure x.1 x.2 h hw
def laws_eqEntryS.e : GE := ⟨64, c_laws_eqEntryS, ⟨_, Try.func64, rfl, rfl⟩, laws_eqEntryS.ok⟩

def c_mEntry (x : (Int × (List UInt8))) : Int := 1 + 1
def m_Entry (x : (Int × (List UInt8))) (k : Int) : (Int × (List UInt8)) := (k, (fMT (k + 1)))
def o_Entry (x : (Int × (List UInt8))) (k : Int) : Bool := (decide (x.1 = k)) && (decide (x.2 = fMT (k + 1)))
theorem ok_Entry : ∀ (x : (Int × (List UInt8))) (k : Int), o_Entry (m_Entry x k) k = true ∧ c_mEntry (m_Entry x k) = c_mEntry x := fun x k => by
  simp [o_Entry, m_Entry, c_mEntry]
theorem pos_Entry : ∀ x : (Int × (List UInt8)), 0 ≤ c_mEntry x := fun x => by
  unfold c_mEntry; omega
def pMk_EntryS (l : List (Int × (List UInt8))) (k : Int) : Prop := 0 ≤ k ∧ k + cL c_mEntry l ≤ 4611686018427387904
def fMk_EntryS (l : List (Int × (List UInt8))) (k : Int) : Int × List (Int × (List UInt8)) := (k + cL c_mEntry l, mL c_mEntry m_Entry l k)
def c_laws_markEntryS : Con := { A := (.pair (.list (.pair (.int .i64) .str)) (.int .i64)), shA := [.one, .one], backA := [(0, 100)], B := (.list (.pair (.int .i64) .str)), R := (.int .i64), shR := [(false, 1)], pre := fun _ a => (pMk_EntryS a.1 a.2), f := some fun _ a => ((fMk_EntryS a.1 a.2).1, ((), (fMk_EntryS a.1 a.2).2)) }
def laws_markEntryS.F  (a0 : (List (Int × (List UInt8)))) (a1 : Int) : Prop := (eS [(0, .val false [.own (.pair (.int .i64) .str) 2])] [(0, .val false [.own (.pair (.int .i64) .str) 2])] ∧ ((mkI c_mEntry m_Entry a0 a1 a1 0 a0) ∧ ∀ (y1 : (Int × (Int × (List (Int × (List UInt8)))))), (mkI c_mEntry m_Entry a0 a1 y1.1 y1.2.1 y1.2.2) → (caseB (decide (y1.2.1 < (ln y1.2.2))) (0 ≤ y1.2.1 ∧ (y1.2.1 < (ln y1.2.2) ∧ ((pMT (wI (y1.1 + (1 : Int)))) ∧ ∀ r2, (Eq r2 ((fMT (wI (y1.1 + (1 : Int)))), ((), ()))) → (0 ≤ y1.2.1 ∧ (y1.2.1 < (ln (List.set y1.2.2 (tN y1.2.1) (y1.1, (List.getD y1.2.2 (tN y1.2.1) (0, [])).2))) ∧ (eS [(0, .val false [.own (.pair (.int .i64) .str) 2])] [(0, .val false [.own (.pair (.int .i64) .str) 2])] ∧ (mkI c_mEntry m_Entry a0 a1 (wI ((wI (y1.1 + (1 : Int))) + (1 : Int))) (wI (y1.2.1 + (1 : Int))) (List.set (List.set y1.2.2 (tN y1.2.1) (y1.1, (List.getD y1.2.2 (tN y1.2.1) (0, [])).2)) (tN y1.2.1) ((List.getD (List.set y1.2.2 (tN y1.2.1) (y1.1, (List.getD y1.2.2 (tN y1.2.1) (0, [])).2)) (tN y1.2.1) (0, [])).1, r2.1))) ∧ (mkM a0 a1 (wI ((wI (y1.1 + (1 : Int))) + (1 : Int))) (wI (y1.2.1 + (1 : Int))) (List.set (List.set y1.2.2 (tN y1.2.1) (y1.1, (List.getD y1.2.2 (tN y1.2.1) (0, [])).2)) (tN y1.2.1) ((List.getD (List.set y1.2.2 (tN y1.2.1) (y1.1, (List.getD y1.2.2 (tN y1.2.1) (0, [])).2)) (tN y1.2.1) (0, [])).1, r2.1))) < (mkM a0 a1 y1.1 y1.2.1 y1.2.2))))))) (Eq (y1.1, ((), y1.2.2)) ((fMk_EntryS a0 a1).1, ((), (fMk_EntryS a0 a1).2))))))
def laws_markEntryS.L  (a0 : (List (Int × (List UInt8)))) (a1 : Int) : Nat → Option LoopAnn := fun p => Go.Proofs.Ythkghdmpkdpnkaa.Bv.look p [(26, { kp := { hold := [0], slots := [1, 5], boxes := [], rows := [{ bx := false, s := 0, i := 0, k := 2, e := 100, hot := true }] }, T := (.pair (.int .i64) (.pair (.int .i64) (.list (.pair (.int .i64) .str)))), I := fun st y => mkI c_mEntry m_Entry a0 a1 y.1 y.2.1 y.2.2, μ := fun st y => mkM a0 a1 y.1 y.2.1 y.2.2 })]

theorem laws_markEntryS.pure  (a0 : (List (Int × (List UInt8)))) (a1 : Int) (h : (pMk_EntryS a0 a1)) (hw : Wf c_laws_markEntryS.A (a0, a1)) : laws_markEntryS.F a0 a1 := by
  delta laws_markEntryS.F ln tN wI eS
  obtain ⟨p1, p2⟩ := h
  have hw1 : a0.length ≤ 9223372036854775807 := hw.1.1
  simp only [forall_eq, true_and, and_true, caseB_iff, Prod.mk.injEq, decide_eq_true_eq, decide_eq_false_iff_not, Bool.not_eq_true', Bool.not_eq_false', bne_iff_ne, ne_eq, beq_iff_eq, Bool.not_true, Bool.not_false, beq_eq_false_iff_ne, bne_eq_false_iff_eq, List.length_append, List.length_cons, List.length_nil, List.append_nil, Nat.zero_add, decide_true, decide_false, eq_self_iff_true]
  refine ⟨⟨by omega, by omega, by simp [cL], by simp [mL]⟩, ?_⟩
  rintro ⟨k, i, l⟩ hI
  simp only at hI ⊢
  have hl := mk_len hI
  have h2 := hI.1
  have h3 := hI.2
  refine ⟨fun hi0 => ?_, fun hi0 => ?_⟩
  · have hi : i < (a0.length : Int) := by omega
    have hi' : i.toNat < l.length := by omega
    have hg := mk_at (d := ((0 : Int), ([] : (List UInt8)))) hI hi
    have hs := cL_split c_mEntry ((0 : Int), ([] : (List UInt8))) (l := a0) (i := i.toNat) (by omega)
    have hk := hI.3
    have c1 := cL_pos pos_Entry (a0.take i.toNat)
    have c2 := cL_pos pos_Entry (a0.drop (i.toNat + 1))
    have c3 := pos_Entry (a0.getD i.toNat ((0 : Int), ([] : (List UInt8))))
    have hmod : Int.tmod k 3 = k % 3 := Int.tmod_eq_emod_of_nonneg (by omega)
    have hc : c_mEntry (a0.getD i.toNat ((0 : Int), ([] : (List UInt8)))) = c_mEntry (a0.getD i.toNat ((0 : Int), ([] : (List UInt8)))) := rfl
    conv at hc => rhs; unfold c_mEntry
    try simp only [hg, getD_set_self hi', List.set_set, List.length_set]
    try simp (disch := first | omega | simp_all) only [getD_set_self, List.set_set, List.length_set, hg, w64, pMT]
    repeat' (with_reducible (first | (refine And.intro ?_ ?_) | intro _))
    all_goals (try simp +zetaDelta (disch := first | omega | simp_all) only [hg, getD_set_self, List.set_set, List.length_set, w64, pMT])
    all_goals (first | omega | exact mk_step (d := ((0 : Int), ([] : (List UInt8)))) hI hi (by simp [m_Entry, hmod]) (by omega) | (unfold mkM; omega) | skip)
  · obtain ⟨e1, e2⟩ := mk_end hI (by omega)
    exact ⟨e1, e2⟩

set_option maxRecDepth 100000 in
theorem laws_markEntryS.eq : EqS c_laws_markEntryS Try.f76 [3] [laws_markText.e] [] (fun i x => laws_markEntryS.L x.1 x.2) (fun i x => laws_markEntryS.F x.1 x.2) := by intro i x; kernel_rfl
theorem laws_markEntryS.ok : ConOk Try.prog 76 c_laws_markEntryS := okOf laws_markEntryS.eq Try.func76 rfl (by kernel_rfl) fun i x h hi hw => laws_markEntryS.pure x.1 x.2 h hw
def laws_markEntryS.e : GE := ⟨76, c_laws_markEntryS, ⟨_, Try.func76, rfl, rfl⟩, laws_markEntryS.ok⟩

def fHd_EntryS (l : List (Int × (List UInt8))) (k : Int) : Int := fHd (cL c_mEntry l) (oL c_mEntry o_Entry l k) k
def c_laws_heldEntryS : Con := { A := (.pair (.list (.pair (.int .i64) .str)) (.int .i64)), shA := [.one, .one], R := (.int .i64), shR := [(false, 1)], pre := fun _ a => (pMk_EntryS a.1 a.2), f := some fun _ a => ((fHd_EntryS a.1 a.2), ((), ())) }
def laws_heldEntryS.F  (a0 : (List (Int × (List UInt8)))) (a1 : Int) : Prop := (eS [(0, .val false [.lst (.pair (.int .i64) .str) a0 none])] [(0, .val false [.lst (.pair (.int .i64) .str) a0 none])] ∧ ((hdI c_mEntry o_Entry a0 a1 a1 0) ∧ ∀ (y1 : (Int × Int)), (hdI c_mEntry o_Entry a0 a1 y1.1 y1.2) → (caseB (decide (y1.2 < (ln a0))) (0 ≤ y1.2 ∧ (y1.2 < (ln a0) ∧ (caseB (((List.getD a0 (tN y1.2) (0, [])).1) != y1.1) (Eq ((-1), ((), ())) ((fHd_EntryS a0 a1), ((), ()))) (0 ≤ y1.2 ∧ (y1.2 < (ln a0) ∧ ((pMT (wI (y1.1 + (1 : Int)))) ∧ ∀ r2, (Eq r2 ((fMT (wI (y1.1 + (1 : Int)))), ((), ()))) → (caseB (!(((List.getD a0 (tN y1.2) (0, [])).2) == r2.1)) (Eq ((-1), ((), ())) ((fHd_EntryS a0 a1), ((), ()))) (eS [(0, .val false [.lst (.pair (.int .i64) .str) a0 none])] [(0, .val false [.lst (.pair (.int .i64) .str) a0 none])] ∧ (hdI c_mEntry o_Entry a0 a1 (wI ((wI (y1.1 + (1 : Int))) + (1 : Int))) (wI (y1.2 + (1 : Int)))) ∧ (hdM a0 a1 (wI ((wI (y1.1 + (1 : Int))) + (1 : Int))) (wI (y1.2 + (1 : Int)))) < (hdM a0 a1 y1.1 y1.2))))))))) (Eq (y1.1, ((), ())) ((fHd_EntryS a0 a1), ((), ()))))))
def laws_heldEntryS.L  (a0 : (List (Int × (List UInt8)))) (a1 : Int) : Nat → Option LoopAnn := fun p => Go.Proofs.Ythkghdmpkdpnkaa.Bv.look p [(26, { kp := { hold := [0], slots := [1, 5], boxes := [], rows := [] }, T := (.pair (.int .i64) (.int .i64)), I := fun st y => hdI c_mEntry o_Entry a0 a1 y.1 y.2, μ := fun st y => hdM a0 a1 y.1 y.2 })]

theorem laws_heldEntryS.pure  (a0 : (List (Int × (List UInt8)))) (a1 : Int) (h : (pMk_EntryS a0 a1)) (hw : Wf c_laws_heldEntryS.A (a0, a1)) : laws_heldEntryS.F a0 a1 := by
  delta laws_heldEntryS.F ln tN wI eS
  obtain ⟨p1, p2⟩ := h
  have hw1 : a0.length ≤ 9223372036854775807 := hw.1.1
  simp only [forall_eq, true_and, and_true, caseB_iff, Prod.mk.injEq, decide_eq_true_eq, decide_eq_false_iff_not, Bool.not_eq_true', Bool.not_eq_false', bne_iff_ne, ne_eq, beq_iff_eq, Bool.not_true, Bool.not_false, beq_eq_false_iff_ne, bne_eq_false_iff_eq, List.length_append, List.length_cons, List.length_nil, List.append_nil, Nat.zero_add, decide_true, decide_false, eq_self_iff_true]
  refine ⟨⟨by omega, by omega, by simp [cL], by simp⟩, ?_⟩
  rintro ⟨k, i⟩ hI
  simp only at hI ⊢
  have h2 := hI.1
  have h3 := hI.2
  refine ⟨fun hi => ?_, fun hi => hd_end hI hi⟩
  · have hs := cL_split c_mEntry ((0 : Int), ([] : (List UInt8))) (l := a0) (i := i.toNat) (by omega)
    have hk := hI.3
    have c1 := cL_pos pos_Entry (a0.take i.toNat)
    have c2 := cL_pos pos_Entry (a0.drop (i.toNat + 1))
    have c3 := pos_Entry (a0.getD i.toNat ((0 : Int), ([] : (List UInt8))))
    have hmod : Int.tmod k 3 = k % 3 := Int.tmod_eq_emod_of_nonneg (by omega)
    have no : o_Entry (a0.getD i.toNat ((0 : Int), ([] : (List UInt8)))) k = false → -1 = fHd_EntryS a0 a1 := fun ho => hd_no ((0 : Int), ([] : (List UInt8))) hI hi ho
    have yes : o_Entry (a0.getD i.toNat ((0 : Int), ([] : (List UInt8)))) k = true → hdI c_mEntry o_Entry a0 a1 (k + c_mEntry (a0.getD i.toNat ((0 : Int), ([] : (List UInt8))))) (i + 1) := fun ho => hd_step ((0 : Int), ([] : (List UInt8))) hI hi ho rfl
    generalize a0.getD i.toNat ((0 : Int), ([] : (List UInt8))) = x at *
    have hc : c_mEntry x = c_mEntry x := rfl
    conv at hc => rhs; unfold c_mEntry
    simp only [o_Entry] at no yes
    simp (disch := omega) only [w64, pMT]
    repeat' (with_reducible (first | (refine And.intro ?_ ?_) | intro _))
    all_goals (first | omega | (unfold hdM; omega) | skip)
    all_goals (try simp (disch := first | omega | assumption) only [fHd_neg, fHd_yes, w64, Bool.not_eq_false] at *)
    all_goals (try simp (disch := first | omega | assumption) only [fHd_neg, fHd_yes, w64, Bool.not_eq_false] at *)
    all_goals (first | omega | grind)

set_option maxRecDepth 100000 in
theorem laws_heldEntryS.eq : EqS c_laws_heldEntryS Try.f78 [3] [laws_markText.e] [] (fun i x => laws_heldEntryS.L x.1 x.2) (fun i x => laws_heldEntryS.F x.1 x.2) := by intro i x; kernel_rfl
theorem laws_heldEntryS.ok : ConOk Try.prog 78 c_laws_heldEntryS := okOf laws_heldEntryS.eq Try.func78 rfl (by kernel_rfl) fun i x h hi hw => laws_heldEntryS.pure x.1 x.2 h hw
def laws_heldEntryS.e : GE := ⟨78, c_laws_heldEntryS, ⟨_, Try.func78, rfl, rfl⟩, laws_heldEntryS.ok⟩

end Go.Proofs.Ythkghdmpkdpnkaa.B
