/- Values of the type Bucket: how large, the same, marked. -/
import Derived.Test.YthkghdmpkdpnkaaCTypes
namespace Go.Proofs.Ythkghdmpkdpnkaa.B
set_option linter.unusedVariables false
set_option linter.unusedSimpArgs false
open Go Go.Proofs.Ythkghdmpkdpnkaa.Bv

def n_Bucket (x : (Int × Int)) : Nat := 0
instance dec_Bucket : DecidableEq (Int × Int) := by (iterate 20 (all_goals (first | infer_instance | refine @instDecidableEqProd _ _ ?_ ?_)))
def fEq_Bucket (a b : (Int × Int)) : Bool := decide (a = b)
def c_laws_eqBucket : Con := { A := (.pair (.pair (.int .i64) (.int .i64)) (.pair (.int .i64) (.int .i64))), shA := [.agg 2, .agg 2], R := .bool, shR := [(false, 1)], pre := fun _ _ => True, f := some fun _ a => ((fEq_Bucket a.1 a.2), ((), ())) }
def laws_eqBucket.F  (a0 : (Int × Int)) (a1 : (Int × Int)) : Prop := (caseB (a0.1 != a1.1) (Eq (false, ((), ())) ((fEq_Bucket a0 a1), ((), ()))) (caseB (a0.2 != a1.2) (Eq (false, ((), ())) ((fEq_Bucket a0 a1), ((), ()))) (Eq (true, ((), ())) ((fEq_Bucket a0 a1), ((), ())))))

theorem laws_eqBucket.pure  (a0 : (Int × Int)) (a1 : (Int × Int)) (h : True) (hw : Wf c_laws_eqBucket.A (a0, a1)) : laws_eqBucket.F a0 a1 := by
  unfold laws_eqBucket.F
  obtain ⟨x1, x2⟩ := a0
  obtain ⟨y1, y2⟩ := a1
  simp only [forall_eq, true_and, and_true, caseB_iff, Prod.mk.injEq, decide_eq_true_eq, decide_eq_false_iff_not, Bool.not_eq_true', Bool.not_eq_false', bne_iff_ne, ne_eq, beq_iff_eq, Bool.not_true, Bool.not_false, beq_eq_false_iff_ne, bne_eq_false_iff_eq, List.length_append, List.length_cons, List.length_nil, List.append_nil, Nat.zero_add, decide_true, decide_false, eq_self_iff_true, fEq_Bucket]
  repeat' (first | (refine And.intro ?_ ?_) | intro _)
  all_goals simp_all

set_option maxRecDepth 100000 in
theorem laws_eqBucket.eq : EqS c_laws_eqBucket Try.f100 [4] [] [] noL (fun i x => laws_eqBucket.F x.1 x.2) := by intro i x; kernel_rfl
theorem laws_eqBucket.ok : ConOk Try.prog 100 c_laws_eqBucket := okOf laws_eqBucket.eq Try.func100 rfl (by kernel_rfl) fun i x h hi hw => laws_eqBucket.pure x.1 x.2 h hw
def laws_eqBucket.e : GE := ⟨100, c_laws_eqBucket, ⟨_, Try.func100, rfl, rfl⟩, laws_eqBucket.ok⟩

def fEq_BucketS (a b : List (Int × Int)) : Bool := decide (a = b)
def c_laws_eqBucketS : Con := { A := (.pair (.list (.pair (.int .i64) (.int .i64))) (.list (.pair (.int .i64) (.int .i64)))), shA := [.one, .one], R := .bool, shR := [(false, 1)], pre := fun _ _ => True, f := some fun _ a => ((fEq_BucketS a.1 a.2), ((), ())) }
def laws_eqBucketS.F  (a0 : (List (Int × Int))) (a1 : (List (Int × Int))) : Prop := (caseB ((ln a0) != (ln a1)) (Eq (false, ((), ())) ((fEq_BucketS a0 a1), ((), ()))) (eS [(0, .val false [.lst (.pair (.int .i64) (.int .i64)) a0 none]), (1, .val false [.lst (.pair (.int .i64) (.int .i64)) a1 none])] [(0, .val false [.lst (.pair (.int .i64) (.int .i64)) a0 none]), (1, .val false [.lst (.pair (.int .i64) (.int .i64)) a1 none])] ∧ ((eqLI a0 a1 0) ∧ ∀ (y1 : Int), (eqLI a0 a1 y1) → (caseB (decide (y1 < (ln a0))) (0 ≤ y1 ∧ (y1 < (ln a0) ∧ (0 ≤ y1 ∧ (y1 < (ln a1) ∧ (True ∧ ∀ r2, (Eq r2 ((fEq_Bucket ((List.getD a0 (tN y1) (0, 0)).1, (List.getD a0 (tN y1) (0, 0)).2) ((List.getD a1 (tN y1) (0, 0)).1, (List.getD a1 (tN y1) (0, 0)).2)), ((), ()))) → (caseB (!r2.1) (Eq (false, ((), ())) ((fEq_BucketS a0 a1), ((), ()))) (eS [(0, .val false [.lst (.pair (.int .i64) (.int .i64)) a0 none]), (1, .val false [.lst (.pair (.int .i64) (.int .i64)) a1 none])] [(0, .val false [.lst (.pair (.int .i64) (.int .i64)) a0 none]), (1, .val false [.lst (.pair (.int .i64) (.int .i64)) a1 none])] ∧ (eqLI a0 a1 (wI (y1 + (1 : Int)))) ∧ (eqLM a0 a1 (wI (y1 + (1 : Int)))) < (eqLM a0 a1 y1)))))))) (Eq (true, ((), ())) ((fEq_BucketS a0 a1), ((), ())))))))
def laws_eqBucketS.L  (a0 : (List (Int × Int))) (a1 : (List (Int × Int))) : Nat → Option LoopAnn := fun p => Go.Proofs.Ythkghdmpkdpnkaa.Bv.look p [(58, { kp := { hold := [0, 1], slots := [5], boxes := [], rows := [] }, T := (.int .i64), I := fun st y => eqLI a0 a1 y, μ := fun st y => eqLM a0 a1 y })]

theorem laws_eqBucketS.pure  (a0 : (List (Int × Int))) (a1 : (List (Int × Int))) (h : True) (hw : Wf c_laws_eqBucketS.A (a0, a1)) : laws_eqBucketS.F a0 a1 := by
  delta laws_eqBucketS.F ln tN wI eS
  have hw1 : a0.length ≤ 9223372036854775807 := hw.1.1
  simp only [forall_eq, true_and, and_true, caseB_iff, Prod.mk.injEq, decide_eq_true_eq, decide_eq_false_iff_not, Bool.not_eq_true', Bool.not_eq_false', bne_iff_ne, ne_eq, beq_iff_eq, Bool.not_true, Bool.not_false, beq_eq_false_iff_ne, bne_eq_false_iff_eq, List.length_append, List.length_cons, List.length_nil, List.append_nil, Nat.zero_add, decide_true, decide_false, eq_self_iff_true]
  refine ⟨fun h1 => ?_, fun h1 => ?_⟩
  · have : a0 ≠ a1 := fun e => by subst e; simp at h1
    simp [fEq_BucketS, this]
  have hl : a0.length = a1.length := by omega
  refine ⟨⟨by omega, by omega, hl, by simp⟩, ?_⟩
  rintro i hI
  have h2 := hI.1
  have h3 := hI.2.1
  refine ⟨fun hi => ⟨h2, hi, h2, by omega, fun hne => ?_, fun he => ?_⟩, fun hi => ?_⟩
  · have : a0 ≠ a1 := fun e => by subst e; simp [fEq_Bucket] at hne
    simp [fEq_BucketS, this]
  · have hg : a0.getD i.toNat ((0 : Int), (0 : Int)) = a1.getD i.toNat ((0 : Int), (0 : Int)) := by simpa only [fEq_Bucket, decide_eq_true_eq] using he
    rw [w64 (x := i + 1) (by omega) (by omega)]
    exact ⟨eqL_step hI hi hg, by unfold eqLM; omega⟩
  · have h6 := eqL_end hI hi
    simp [fEq_BucketS, h6]

set_option maxRecDepth 100000 in
theorem laws_eqBucketS.eq : EqS c_laws_eqBucketS Try.f66 [4] [laws_eqBucket.e] [] (fun i x => laws_eqBucketS.L x.1 x.2) (fun i x => laws_eqBucketS.F x.1 x.2) := by intro i x; kernel_rfl
theorem laws_eqBucketS.ok : ConOk Try.prog 66 c_laws_eqBucketS := okOf laws_eqBucketS.eq Try.func66 rfl (by kernel_rfl) fun i x h hi hw => laws_eqBucketS.pure x.1 x.2 h hw
def laws_eqBucketS.e : GE := ⟨66, c_laws_eqBucketS, ⟨_, Try.func66, rfl, rfl⟩, laws_eqBucketS.ok⟩

def c_mBucket (x : (Int × Int)) : Int := 1 + 1
def m_Bucket (x : (Int × Int)) (k : Int) : (Int × Int) := (k, (k + 1))
def o_Bucket (x : (Int × Int)) (k : Int) : Bool := (decide (x.1 = k)) && (decide (x.2 = (k + 1)))
theorem ok_Bucket : ∀ (x : (Int × Int)) (k : Int), o_Bucket (m_Bucket x k) k = true ∧ c_mBucket (m_Bucket x k) = c_mBucket x := fun x k => by
  simp [o_Bucket, m_Bucket, c_mBucket]
theorem pos_Bucket : ∀ x : (Int × Int), 0 ≤ c_mBucket x := fun x => by
  unfold c_mBucket; omega
def pMk_BucketS (l : List (Int × Int)) (k : Int) : Prop := 0 ≤ k ∧ k + cL c_mBucket l ≤ 4611686018427387904
def fMk_BucketS (l : List (Int × Int)) (k : Int) : Int × List (Int × Int) := (k + cL c_mBucket l, mL c_mBucket m_Bucket l k)
def c_laws_markBucketS : Con := { A := (.pair (.list (.pair (.int .i64) (.int .i64))) (.int .i64)), shA := [.one, .one], backA := [(0, 123)], B := (.list (.pair (.int .i64) (.int .i64))), R := (.int .i64), shR := [(false, 1)], pre := fun _ a => (pMk_BucketS a.1 a.2), f := some fun _ a => ((fMk_BucketS a.1 a.2).1, ((), (fMk_BucketS a.1 a.2).2)) }
def laws_markBucketS.F  (a0 : (List (Int × Int))) (a1 : Int) : Prop := (eS [(0, .val false [.own (.pair (.int .i64) (.int .i64)) 2])] [(0, .val false [.own (.pair (.int .i64) (.int .i64)) 2])] ∧ ((mkI c_mBucket m_Bucket a0 a1 a1 0 a0) ∧ ∀ (y1 : (Int × (Int × (List (Int × Int))))), (mkI c_mBucket m_Bucket a0 a1 y1.1 y1.2.1 y1.2.2) → (caseB (decide (y1.2.1 < (ln y1.2.2))) (0 ≤ y1.2.1 ∧ (y1.2.1 < (ln y1.2.2) ∧ (0 ≤ y1.2.1 ∧ (y1.2.1 < (ln (List.set y1.2.2 (tN y1.2.1) (y1.1, (List.getD y1.2.2 (tN y1.2.1) (0, 0)).2))) ∧ (eS [(0, .val false [.own (.pair (.int .i64) (.int .i64)) 2])] [(0, .val false [.own (.pair (.int .i64) (.int .i64)) 2])] ∧ (mkI c_mBucket m_Bucket a0 a1 (wI ((wI (y1.1 + (1 : Int))) + (1 : Int))) (wI (y1.2.1 + (1 : Int))) (List.set (List.set y1.2.2 (tN y1.2.1) (y1.1, (List.getD y1.2.2 (tN y1.2.1) (0, 0)).2)) (tN y1.2.1) ((List.getD (List.set y1.2.2 (tN y1.2.1) (y1.1, (List.getD y1.2.2 (tN y1.2.1) (0, 0)).2)) (tN y1.2.1) (0, 0)).1, (wI (y1.1 + (1 : Int)))))) ∧ (mkM a0 a1 (wI ((wI (y1.1 + (1 : Int))) + (1 : Int))) (wI (y1.2.1 + (1 : Int))) (List.set (List.set y1.2.2 (tN y1.2.1) (y1.1, (List.getD y1.2.2 (tN y1.2.1) (0, 0)).2)) (tN y1.2.1) ((List.getD (List.set y1.2.2 (tN y1.2.1) (y1.1, (List.getD y1.2.2 (tN y1.2.1) (0, 0)).2)) (tN y1.2.1) (0, 0)).1, (wI (y1.1 + (1 : Int)))))) < (mkM a0 a1 y1.1 y1.2.1 y1.2.2)))))) (Eq (y1.1, ((), y1.2.2)) ((fMk_BucketS a0 a1).1, ((), (fMk_BucketS a0 a1).2))))))
def laws_markBucketS.L  (a0 : (List (Int × Int))) (a1 : Int) : Nat → Option LoopAnn := fun p => Go.Proofs.Ythkghdmpkdpnkaa.Bv.look p [(26, { kp := { hold := [0], slots := [1, 5], boxes := [], rows := [{ bx := false, s := 0, i := 0, k := 2, e := 123, hot := true }] }, T := (.pair (.int .i64) (.pair (.int .i64) (.list (.pair (.int .i64) (.int .i64))))), I := fun st y => mkI c_mBucket m_Bucket a0 a1 y.1 y.2.1 y.2.2, μ := fun st y => mkM a0 a1 y.1 y.2.1 y.2.2 })]

theorem laws_markBucketS.pure  (a0 : (List (Int × Int))) (a1 : Int) (h : (pMk_BucketS a0 a1)) (hw : Wf c_laws_markBucketS.A (a0, a1)) : laws_markBucketS.F a0 a1 := by
  delta laws_markBucketS.F ln tN wI eS
  obtain ⟨p1, p2⟩ := h
  have hw1 : a0.length ≤ 9223372036854775807 := hw.1.1
  simp only [forall_eq, true_and, and_true, caseB_iff, Prod.mk.injEq, decide_eq_true_eq, decide_eq_false_iff_not, Bool.not_eq_true', Bool.not_eq_false', bne_iff_ne, ne_eq, beq_iff_eq, Bool.not_true, Bool.not_false, beq_eq_false_iff_ne, bne_eq_false_iff_eq, List.length_append, List.length_cons, List.length_nil, List.append_nil, Nat.zero_add, decide_true, decide_false, eq_self_iff_true]
  refine ⟨⟨by omega, by omega, by simp [cL], by simp [mL]⟩, ?_⟩
  rintro ⟨k, i, l⟩ hI
  simp only at hI ⊢
  have hl := mk_len hI
  have h2 := hI.1
  have h3 := hI.2
  refine ⟨fun hi0 => ?_, fun hi0 => ?_⟩
  · have hi : i < (a0.length : Int) := by omega
    have hi' : i.toNat < l.length := by omega
    have hg := mk_at (d := ((0 : Int), (0 : Int))) hI hi
    have hs := cL_split c_mBucket ((0 : Int), (0 : Int)) (l := a0) (i := i.toNat) (by omega)
    have hk := hI.3
    have c1 := cL_pos pos_Bucket (a0.take i.toNat)
    have c2 := cL_pos pos_Bucket (a0.drop (i.toNat + 1))
    have c3 := pos_Bucket (a0.getD i.toNat ((0 : Int), (0 : Int)))
    have hmod : Int.tmod k 3 = k % 3 := Int.tmod_eq_emod_of_nonneg (by omega)
    have hc : c_mBucket (a0.getD i.toNat ((0 : Int), (0 : Int))) = c_mBucket (a0.getD i.toNat ((0 : Int), (0 : Int))) := rfl
    conv at hc => rhs; unfold c_mBucket
    try simp only [hg, getD_set_self hi', List.set_set, List.length_set]
    try simp (disch := first | omega | simp_all) only [getD_set_self, List.set_set, List.length_set, hg, w64, pMT]
    repeat' (with_reducible (first | (refine And.intro ?_ ?_) | intro _))
    all_goals (try simp +zetaDelta (disch := first | omega | simp_all) only [hg, getD_set_self, List.set_set, List.length_set, w64, pMT])
    all_goals (first | omega | exact mk_step (d := ((0 : Int), (0 : Int))) hI hi (by simp [m_Bucket, hmod]) (by omega) | (unfold mkM; omega) | skip)
  · obtain ⟨e1, e2⟩ := mk_end hI (by omega)
    exact ⟨e1, e2⟩

set_option maxRecDepth 100000 in
theorem laws_markBucketS.eq : EqS c_laws_markBucketS Try.f69 [3] [] [] (fun i x => laws_markBucketS.L x.1 x.2) (fun i x => laws_markBucketS.F x.1 x.2) := by intro i x; kernel_rfl
theorem laws_markBucketS.ok : ConOk Try.prog 69 c_laws_markBucketS := okOf laws_markBucketS.eq Try.func69 rfl (by kernel_rfl) fun i x h hi hw => laws_markBucketS.pure x.1 x.2 h hw
def laws_markBucketS.e : GE := ⟨69, c_laws_markBucketS, ⟨_, Try.func69, rfl, rfl⟩, laws_markBucketS.ok⟩

def fHd_BucketS (l : List (Int × Int)) (k : Int) : Int := fHd (cL c_mBucket l) (oL c_mBucket o_Bucket l k) k
def c_laws_heldBucketS : Con := { A := (.pair (.list (.pair (.int .i64) (.int .i64))) (.int .i64)), shA := [.one, .one], R := (.int .i64), shR := [(false, 1)], pre := fun _ a => (pMk_BucketS a.1 a.2), f := some fun _ a => ((fHd_BucketS a.1 a.2), ((), ())) }
def laws_heldBucketS.F  (a0 : (List (Int × Int))) (a1 : Int) : Prop := (eS [(0, .val false [.lst (.pair (.int .i64) (.int .i64)) a0 none])] [(0, .val false [.lst (.pair (.int .i64) (.int .i64)) a0 none])] ∧ ((hdI c_mBucket o_Bucket a0 a1 a1 0) ∧ ∀ (y1 : (Int × Int)), (hdI c_mBucket o_Bucket a0 a1 y1.1 y1.2) → (caseB (decide (y1.2 < (ln a0))) (0 ≤ y1.2 ∧ (y1.2 < (ln a0) ∧ (caseB (((List.getD a0 (tN y1.2) (0, 0)).1) != y1.1) (Eq ((-1), ((), ())) ((fHd_BucketS a0 a1), ((), ()))) (0 ≤ y1.2 ∧ (y1.2 < (ln a0) ∧ (caseB (((List.getD a0 (tN y1.2) (0, 0)).2) != (wI (y1.1 + (1 : Int)))) (Eq ((-1), ((), ())) ((fHd_BucketS a0 a1), ((), ()))) (eS [(0, .val false [.lst (.pair (.int .i64) (.int .i64)) a0 none])] [(0, .val false [.lst (.pair (.int .i64) (.int .i64)) a0 none])] ∧ (hdI c_mBucket o_Bucket a0 a1 (wI ((wI (y1.1 + (1 : Int))) + (1 : Int))) (wI (y1.2 + (1 : Int)))) ∧ (hdM a0 a1 (wI ((wI (y1.1 + (1 : Int))) + (1 : Int))) (wI (y1.2 + (1 : Int)))) < (hdM a0 a1 y1.1 y1.2)))))))) (Eq (y1.1, ((), ())) ((fHd_BucketS a0 a1), ((), ()))))))
def laws_heldBucketS.L  (a0 : (List (Int × Int))) (a1 : Int) : Nat → Option LoopAnn := fun p => Go.Proofs.Ythkghdmpkdpnkaa.Bv.look p [(26, { kp := { hold := [0], slots := [1, 5], boxes := [], rows := [] }, T := (.pair (.int .i64) (.int .i64)), I := fun st y => hdI c_mBucket o_Bucket a0 a1 y.1 y.2, μ := fun st y => hdM a0 a1 y.1 y.2 })]

theorem laws_heldBucketS.pure  (a0 : (List (Int × Int))) (a1 : Int) (h : (pMk_BucketS a0 a1)) (hw : Wf c_laws_heldBucketS.A (a0, a1)) : laws_heldBucketS.F a0 a1 := by
  delta laws_heldBucketS.F ln tN wI eS
  obtain ⟨p1, p2⟩ := h
  have hw1 : a0.length ≤ 9223372036854775807 := hw.1.1
  simp only [forall_eq, true_and, and_true, caseB_iff, Prod.mk.injEq, decide_eq_true_eq, decide_eq_false_iff_not, Bool.not_eq_true', Bool.not_eq_false', bne_iff_ne, ne_eq, beq_iff_eq, Bool.not_true, Bool.not_false, beq_eq_false_iff_ne, bne_eq_false_iff_eq, List.length_append, List.length_cons, List.length_nil, List.append_nil, Nat.zero_add, decide_true, decide_false, eq_self_iff_true]
  refine ⟨⟨by omega, by omega, by simp [cL], by simp⟩, ?_⟩
  rintro ⟨k, i⟩ hI
  simp only at hI ⊢
  have h2 := hI.1
  have h3 := hI.2
  refine ⟨fun hi => ?_, fun hi => hd_end hI hi⟩
  · have hs := cL_split c_mBucket ((0 : Int), (0 : Int)) (l := a0) (i := i.toNat) (by omega)
    have hk := hI.3
    have c1 := cL_pos pos_Bucket (a0.take i.toNat)
    have c2 := cL_pos pos_Bucket (a0.drop (i.toNat + 1))
    have c3 := pos_Bucket (a0.getD i.toNat ((0 : Int), (0 : Int)))
    have hmod : Int.tmod k 3 = k % 3 := Int.tmod_eq_emod_of_nonneg (by omega)
    have no : o_Bucket (a0.getD i.toNat ((0 : Int), (0 : Int))) k = false → -1 = fHd_BucketS a0 a1 := fun ho => hd_no ((0 : Int), (0 : Int)) hI hi ho
    have yes : o_Bucket (a0.getD i.toNat ((0 : Int), (0 : Int))) k = true → hdI c_mBucket o_Bucket a0 a1 (k + c_mBucket (a0.getD i.toNat ((0 : Int), (0 : Int)))) (i + 1) := fun ho => hd_step ((0 : Int), (0 : Int)) hI hi ho rfl
    generalize a0.getD i.toNat ((0 : Int), (0 : Int)) = x at *
    have hc : c_mBucket x = c_mBucket x := rfl
    conv at hc => rhs; unfold c_mBucket
    simp only [o_Bucket] at no yes
    simp (disch := omega) only [w64, pMT]
    repeat' (with_reducible (first | (refine And.intro ?_ ?_) | intro _))
    all_goals (first | omega | (unfold hdM; omega) | skip)
    all_goals (try simp (disch := first | omega | assumption) only [fHd_neg, fHd_yes, w64, Bool.not_eq_false] at *)
    all_goals (try simp (disch := first | omega | assumption) only [fHd_neg, fHd_yes, w64, Bool.not_eq_false] at *)
    all_goals (first | omega | grind)

set_option maxRecDepth 100000 in
theorem laws_heldBucketS.eq : EqS c_laws_heldBucketS Try.f72 [3] [] [] (fun i x => laws_heldBucketS.L x.1 x.2) (fun i x => laws_heldBucketS.F x.1 x.2) := by intro i x; kernel_rfl
theorem laws_heldBucketS.ok : ConOk Try.prog 72 c_laws_heldBucketS := okOf laws_heldBucketS.eq Try.func72 rfl (by kernel_rfl) fun i x h hi hw => laws_heldBucketS.pure x.1 x.2 h hw
def laws_heldBucketS.e : GE := ⟨72, c_laws_heldBucketS, ⟨_, Try.func72, rfl, rfl⟩, laws_heldBucketS.ok⟩

end Go.Proofs.Ythkghdmpkdpnkaa.B
