/- Values of the type Series: how large, the same, marked. -/
import Derived.Test.YthkghdmpkdpnkaaCTypes
import Derived.Test.YthkghdmpkdpnkaaCTPoint
namespace Go.Proofs.Ythkghdmpkdpnkaa.B
set_option linter.unusedVariables false
set_option linter.unusedSimpArgs false
open Go Go.Proofs.Ythkghdmpkdpnkaa.Bv

def n_Series (x : ((List UInt8) × (List (Int × Int)))) : Nat := (x.1.length) + (List.length x.2)
instance dec_Series : DecidableEq ((List UInt8) × (List (Int × Int))) := by (iterate 20 (all_goals (first | infer_instance | refine @instDecidableEqProd _ _ ?_ ?_)))
def fEq_Series (a b : ((List UInt8) × (List (Int × Int)))) : Bool := decide (a = b)
def c_laws_eqSeries : Con := { A := (.pair (.pair .str (.list (.pair (.int .i64) (.int .i64)))) (.pair .str (.list (.pair (.int .i64) (.int .i64))))), shA := [.agg 2, .agg 2], R := .bool, shR := [(false, 1)], pre := fun _ _ => True, f := some fun _ a => ((fEq_Series a.1 a.2), ((), ())) }
def laws_eqSeries.F  (a0 : ((List UInt8) × (List (Int × Int)))) (a1 : ((List UInt8) × (List (Int × Int)))) : Prop := (caseB (!(a0.1 == a1.1)) (Eq (false, ((), ())) ((fEq_Series a0 a1), ((), ()))) (True ∧ ∀ r1, (Eq r1 ((fEq_PointS a0.2 a1.2), ((), ()))) → (caseB (!r1.1) (Eq (false, ((), ())) ((fEq_Series a0 a1), ((), ()))) (Eq (true, ((), ())) ((fEq_Series a0 a1), ((), ()))))))

theorem laws_eqSeries.pure  (a0 : ((List UInt8) × (List (Int × Int)))) (a1 : ((List UInt8) × (List (Int × Int)))) (h : True) (hw : Wf c_laws_eqSeries.A (a0, a1)) : laws_eqSeries.F a0 a1 := by
  unfold laws_eqSeries.F
  obtain ⟨x1, x2⟩ := a0
  obtain ⟨y1, y2⟩ := a1
  simp only [forall_eq, true_and, and_true, caseB_iff, Prod.mk.injEq, decide_eq_true_eq, decide_eq_false_iff_not, Bool.not_eq_true', Bool.not_eq_false', bne_iff_ne, ne_eq, beq_iff_eq, Bool.not_true, Bool.not_false, beq_eq_false_iff_ne, bne_eq_false_iff_eq, List.length_append, List.length_cons, List.length_nil, List.append_nil, Nat.zero_add, decide_true, decide_false, eq_self_iff_true, fEq_Series, fEq_PointS]
  repeat' (first | (refine And.intro ?_ ?_) | intro _)
  all_goals simp_all

set_option maxRecDepth 100000 in
theorem laws_eqSeries.eq : EqS c_laws_eqSeries Try.f121 [4] [laws_eqPointS.e] [] noL (fun i x => laws_eqSeries.F x.1 x.2) := by intro i x; kernel_rfl
theorem laws_eqSeries.ok : ConOk Try.prog 121 c_laws_eqSeries := okOf laws_eqSeries.eq Try.func121 rfl (by kernel_rfl) fun i x h hi hw => laws_eqSeries.pure x.1 x.2 h hw
def laws_eqSeries.e : GE := ⟨121, c_laws_eqSeries, ⟨_, Try.func121, rfl, rfl⟩, laws_eqSeries.ok⟩

def fEq_SeriesS (a b : List ((List UInt8) × (List (Int × Int)))) : Bool := decide (a = b)
def c_laws_eqSeriesS : Con := { A := (.pair (.list (.pair .str (.list (.pair (.int .i64) (.int .i64))))) (.list (.pair .str (.list (.pair (.int .i64) (.int .i64)))))), shA := [.one, .one], R := .bool, shR := [(false, 1)], pre := fun _ _ => True, f := some fun _ a => ((fEq_SeriesS a.1 a.2), ((), ())) }
def laws_eqSeriesS.F  (a0 : (List ((List UInt8) × (List (Int × Int))))) (a1 : (List ((List UInt8) × (List (Int × Int))))) : Prop := (caseB ((ln a0) != (ln a1)) (Eq (false, ((), ())) ((fEq_SeriesS a0 a1), ((), ()))) (eS [(0, .val false [.lst (.pair .str (.list (.pair (.int .i64) (.int .i64)))) a0 none]), (1, .val false [.lst (.pair .str (.list (.pair (.int .i64) (.int .i64)))) a1 none])] [(0, .val false [.lst (.pair .str (.list (.pair (.int .i64) (.int .i64)))) a0 none]), (1, .val false [.lst (.pair .str (.list (.pair (.int .i64) (.int .i64)))) a1 none])] ∧ ((eqLI a0 a1 0) ∧ ∀ (y1 : Int), (eqLI a0 a1 y1) → (caseB (decide (y1 < (ln a0))) (0 ≤ y1 ∧ (y1 < (ln a0) ∧ (0 ≤ y1 ∧ (y1 < (ln a1) ∧ (True ∧ ∀ r2, (Eq r2 ((fEq_Series ((List.getD a0 (tN y1) ([], [])).1, (List.getD a0 (tN y1) ([], [])).2) ((List.getD a1 (tN y1) ([], [])).1, (List.getD a1 (tN y1) ([], [])).2)), ((), ()))) → (caseB (!r2.1) (Eq (false, ((), ())) ((fEq_SeriesS a0 a1), ((), ()))) (eS [(0, .val false [.lst (.pair .str (.list (.pair (.int .i64) (.int .i64)))) a0 none]), (1, .val false [.lst (.pair .str (.list (.pair (.int .i64) (.int .i64)))) a1 none])] [(0, .val false [.lst (.pair .str (.list (.pair (.int .i64) (.int .i64)))) a0 none]), (1, .val false [.lst (.pair .str (.list (.pair (.int .i64) (.int .i64)))) a1 none])] ∧ (eqLI a0 a1 (wI (y1 + (1 : Int)))) ∧ (eqLM a0 a1 (wI (y1 + (1 : Int)))) < (eqLM a0 a1 y1)))))))) (Eq (true, ((), ())) ((fEq_SeriesS a0 a1), ((), ())))))))
def laws_eqSeriesS.L  (a0 : (List ((List UInt8) × (List (Int × Int))))) (a1 : (List ((List UInt8) × (List (Int × Int))))) : Nat → Option LoopAnn := fun p => Go.Proofs.Ythkghdmpkdpnkaa.Bv.look p [(58, { kp := { hold := [0, 1], slots := [5], boxes := [], rows := [] }, T := (.int .i64), I := fun st y => eqLI a0 a1 y, μ := fun st y => eqLM a0 a1 y })]

theorem laws_eqSeriesS.pure  (a0 : (List ((List UInt8) × (List (Int × Int))))) (a1 : (List ((List UInt8) × (List (Int × Int))))) (h : True) (hw : Wf c_laws_eqSeriesS.A (a0, a1)) : laws_eqSeriesS.F a0 a1 := by
  delta laws_eqSeriesS.F ln tN wI eS
  have hw1 : a0.length ≤ 9223372036854775807 := hw.1.1
  simp only [forall_eq, true_and, and_true, caseB_iff, Prod.mk.injEq, decide_eq_true_eq, decide_eq_false_iff_not, Bool.not_eq_true', Bool.not_eq_false', bne_iff_ne, ne_eq, beq_iff_eq, Bool.not_true, Bool.not_false, beq_eq_false_iff_ne, bne_eq_false_iff_eq, List.length_append, List.length_cons, List.length_nil, List.append_nil, Nat.zero_add, decide_true, decide_false, eq_self_iff_true]
  refine ⟨fun h1 => ?_, fun h1 => ?_⟩
  · have : a0 ≠ a1 := fun e => by subst e; simp at h1
    simp [fEq_SeriesS, this]
  have hl : a0.length = a1.length := by omega
  refine ⟨⟨by omega, by omega, hl, by simp⟩, ?_⟩
  rintro i hI
  have h2 := hI.1
  have h3 := hI.2.1
  refine ⟨fun hi => ⟨h2, hi, h2, by omega, fun hne => ?_, fun he => ?_⟩, fun hi => ?_⟩
  · have : a0 ≠ a1 := fun e => by subst e; simp [fEq_Series] at hne
    simp [fEq_SeriesS, this]
  · have hg : a0.getD i.toNat (([] : (List UInt8)), ([] : (List (Int × Int)))) = a1.getD i.toNat (([] : (List UInt8)), ([] : (List (Int × Int)))) := by simpa only [fEq_Series, decide_eq_true_eq] using he
    rw [w64 (x := i + 1) (by omega) (by omega)]
    exact ⟨eqL_step hI hi hg, by unfold eqLM; omega⟩
  · have h6 := eqL_end hI hi
    simp [fEq_SeriesS, h6]

set_option maxRecDepth 100000 in
theorem laws_eqSeriesS.eq : EqS c_laws_eqSeriesS Try.f101 [4] [laws_eqSeries.e] [] (fun i x => laws_eqSeriesS.L x.1 x.2) (fun i x => laws_eqSeriesS.F x.1 x.2) := by intro i x; kernel_rfl
theorem laws_eqSeriesS.ok : ConOk Try.prog 101 c_laws_eqSeriesS := okOf laws_eqSeriesS.eq Try.func101 rfl (by kernel_rfl) fun i x h hi hw => laws_eqSeriesS.pure x.1 x.2 h hw
def laws_eqSeriesS.e : GE := ⟨101, c_laws_eqSeriesS, ⟨_, Try.func101, rfl, rfl⟩, laws_eqSeriesS.ok⟩

def c_mSeries (x : ((List UInt8) × (List (Int × Int)))) : Int := 1 + cL c_mPoint x.2
def m_Series (x : ((List UInt8) × (List (Int × Int)))) (k : Int) : ((List UInt8) × (List (Int × Int))) := ((fMT k), (mL c_mPoint m_Point x.2 (k + 1)))
def o_Series (x : ((List UInt8) × (List (Int × Int)))) (k : Int) : Bool := (decide (x.1 = fMT k)) && (oL c_mPoint o_Point x.2 (k + 1))
theorem ok_Series : ∀ (x : ((List UInt8) × (List (Int × Int)))) (k : Int), o_Series (m_Series x k) k = true ∧ c_mSeries (m_Series x k) = c_mSeries x := fun x k => by
  simp [o_Series, m_Series, c_mSeries, (oL_mL ok_Point _ _).1, (oL_mL ok_Point _ _).2]
theorem pos_Series : ∀ x : ((List UInt8) × (List (Int × Int))), 0 ≤ c_mSeries x := fun x => by
  have p0 := fun l => cL_pos pos_Point l
  have q0 := p0 x.2
  unfold c_mSeries; omega
def pMk_SeriesS (l : List ((List UInt8) × (List (Int × Int)))) (k : Int) : Prop := 0 ≤ k ∧ k + cL c_mSeries l ≤ 4611686018427387904
def fMk_SeriesS (l : List ((List UInt8) × (List (Int × Int)))) (k : Int) : Int × List ((List UInt8) × (List (Int × Int))) := (k + cL c_mSeries l, mL c_mSeries m_Series l k)
def c_laws_markSeriesS : Con := { A := (.pair (.list (.pair .str (.list (.pair (.int .i64) (.int .i64))))) (.int .i64)), shA := [.one, .one], backA := [(0, 107)], B := (.list (.pair .str (.list (.pair (.int .i64) (.int .i64))))), R := (.int .i64), shR := [(false, 1)], pre := fun _ a => (pMk_SeriesS a.1 a.2), f := some fun _ a => ((fMk_SeriesS a.1 a.2).1, ((), (fMk_SeriesS a.1 a.2).2)) }
def laws_markSeriesS.F  (a0 : (List ((List UInt8) × (List (Int × Int))))) (a1 : Int) : Prop := (eS [(0, .val false [.own (.pair .str (.list (.pair (.int .i64) (.int .i64)))) 2])] [(0, .val false [.own (.pair .str (.list (.pair (.int .i64) (.int .i64)))) 2])] ∧ ((mkI c_mSeries m_Series a0 a1 a1 0 a0) ∧ ∀ (y1 : (Int × (Int × (List ((List UInt8) × (List (Int × Int))))))), (mkI c_mSeries m_Series a0 a1 y1.1 y1.2.1 y1.2.2) → (caseB (decide (y1.2.1 < (ln y1.2.2))) ((pMT y1.1) ∧ ∀ r2, (Eq r2 ((fMT y1.1), ((), ()))) → (0 ≤ y1.2.1 ∧ (y1.2.1 < (ln y1.2.2) ∧ (0 ≤ y1.2.1 ∧ (y1.2.1 < (ln (List.set y1.2.2 (tN y1.2.1) (r2.1, (List.getD y1.2.2 (tN y1.2.1) ([], [])).2))) ∧ ((pMk_PointS ((List.getD (List.set y1.2.2 (tN y1.2.1) (r2.1, (List.getD y1.2.2 (tN y1.2.1) ([], [])).2)) (tN y1.2.1) ([], [])).2) (wI (y1.1 + (1 : Int)))) ∧ ∀ r3, (Eq r3 ((fMk_PointS ((List.getD (List.set y1.2.2 (tN y1.2.1) (r2.1, (List.getD y1.2.2 (tN y1.2.1) ([], [])).2)) (tN y1.2.1) ([], [])).2) (wI (y1.1 + (1 : Int)))).1, ((), (fMk_PointS ((List.getD (List.set y1.2.2 (tN y1.2.1) (r2.1, (List.getD y1.2.2 (tN y1.2.1) ([], [])).2)) (tN y1.2.1) ([], [])).2) (wI (y1.1 + (1 : Int)))).2))) → (eS [(0, .val false [.own (.pair .str (.list (.pair (.int .i64) (.int .i64)))) 2])] [(0, .val false [.own (.pair .str (.list (.pair (.int .i64) (.int .i64)))) 2])] ∧ (mkI c_mSeries m_Series a0 a1 r3.1 (wI (y1.2.1 + (1 : Int))) (List.set (List.set y1.2.2 (tN y1.2.1) (r2.1, (List.getD y1.2.2 (tN y1.2.1) ([], [])).2)) (tN y1.2.1) ((List.getD (List.set y1.2.2 (tN y1.2.1) (r2.1, (List.getD y1.2.2 (tN y1.2.1) ([], [])).2)) (tN y1.2.1) ([], [])).1, r3.2.2))) ∧ (mkM a0 a1 r3.1 (wI (y1.2.1 + (1 : Int))) (List.set (List.set y1.2.2 (tN y1.2.1) (r2.1, (List.getD y1.2.2 (tN y1.2.1) ([], [])).2)) (tN y1.2.1) ((List.getD (List.set y1.2.2 (tN y1.2.1) (r2.1, (List.getD y1.2.2 (tN y1.2.1) ([], [])).2)) (tN y1.2.1) ([], [])).1, r3.2.2))) < (mkM a0 a1 y1.1 y1.2.1 y1.2.2)))))))) (Eq (y1.1, ((), y1.2.2)) ((fMk_SeriesS a0 a1).1, ((), (fMk_SeriesS a0 a1).2))))))
def laws_markSeriesS.L  (a0 : (List ((List UInt8) × (List (Int × Int))))) (a1 : Int) : Nat → Option LoopAnn := fun p => Go.Proofs.Ythkghdmpkdpnkaa.Bv.look p [(26, { kp := { hold := [0], slots := [1, 5], boxes := [], rows := [{ bx := false, s := 0, i := 0, k := 2, e := 107, hot := true }] }, T := (.pair (.int .i64) (.pair (.int .i64) (.list (.pair .str (.list (.pair (.int .i64) (.int .i64))))))), I := fun st y => mkI c_mSeries m_Series a0 a1 y.1 y.2.1 y.2.2, μ := fun st y => mkM a0 a1 y.1 y.2.1 y.2.2 })]

theorem laws_markSeriesS.pure  (a0 : (List ((List UInt8) × (List (Int × Int))))) (a1 : Int) (h : (pMk_SeriesS a0 a1)) (hw : Wf c_laws_markSeriesS.A (a0, a1)) : laws_markSeriesS.F a0 a1 := by
  delta laws_markSeriesS.F ln tN wI eS
  obtain ⟨p1, p2⟩ := h
  have hw1 : a0.length ≤ 9223372036854775807 := hw.1.1
  simp only [forall_eq, true_and, and_true, caseB_iff, Prod.mk.injEq, decide_eq_true_eq, decide_eq_false_iff_not, Bool.not_eq_true', Bool.not_eq_false', bne_iff_ne, ne_eq, beq_iff_eq, Bool.not_true, Bool.not_false, beq_eq_false_iff_ne, bne_eq_false_iff_eq, List.length_append, List.length_cons, List.length_nil, List.append_nil, Nat.zero_add, decide_true, decide_false, eq_self_iff_true]
  refine ⟨⟨by omega, by omega, by simp [cL], by simp [mL]⟩, ?_⟩
  rintro ⟨k, i, l⟩ hI
  simp only at hI ⊢
  have hl := mk_len hI
  have h2 := hI.1
  have h3 := hI.2
  refine ⟨fun hi0 => ?_, fun hi0 => ?_⟩
  · have hi : i < (a0.length : Int) := by omega
    have hi' : i.toNat < l.length := by omega
    have hg := mk_at (d := (([] : (List UInt8)), ([] : (List (Int × Int))))) hI hi
    have hs := cL_split c_mSeries (([] : (List UInt8)), ([] : (List (Int × Int)))) (l := a0) (i := i.toNat) (by omega)
    have hk := hI.3
    have c1 := cL_pos pos_Series (a0.take i.toNat)
    have c2 := cL_pos pos_Series (a0.drop (i.toNat + 1))
    have c3 := pos_Series (a0.getD i.toNat (([] : (List UInt8)), ([] : (List (Int × Int)))))
    have q0 := cL_pos pos_Point
    have r0 := q0 (a0.getD i.toNat (([] : (List UInt8)), ([] : (List (Int × Int))))).2
    have hmod : Int.tmod k 3 = k % 3 := Int.tmod_eq_emod_of_nonneg (by omega)
    have hc : c_mSeries (a0.getD i.toNat (([] : (List UInt8)), ([] : (List (Int × Int))))) = c_mSeries (a0.getD i.toNat (([] : (List UInt8)), ([] : (List (Int × Int))))) := rfl
    conv at hc => rhs; unfold c_mSeries
    try simp only [hg, getD_set_self hi', List.set_set, List.length_set, fMk_PointS, pMk_PointS]
    try simp (disch := first | omega | simp_all) only [getD_set_self, List.set_set, List.length_set, hg, w64, pMT]
    repeat' (with_reducible (first | (refine And.intro ?_ ?_) | intro _))
    all_goals (try simp +zetaDelta (disch := first | omega | simp_all) only [hg, getD_set_self, List.set_set, List.length_set, w64, pMT])
    all_goals (first | omega | exact mk_step (d := (([] : (List UInt8)), ([] : (List (Int × Int))))) hI hi (by simp [m_Series, hmod]) (by omega) | (unfold mkM; omega) | skip)
  · obtain ⟨e1, e2⟩ := mk_end hI (by omega)
    exact ⟨e1, e2⟩

set_option maxRecDepth 100000 in
theorem laws_markSeriesS.eq : EqS c_laws_markSeriesS Try.f104 [3] [laws_markPointS.e, laws_markText.e] [] (fun i x => laws_markSeriesS.L x.1 x.2) (fun i x => laws_markSeriesS.F x.1 x.2) := by intro i x; kernel_rfl
theorem laws_markSeriesS.ok : ConOk Try.prog 104 c_laws_markSeriesS := okOf laws_markSeriesS.eq Try.func104 rfl (by kernel_rfl) fun i x h hi hw => laws_markSeriesS.pure x.1 x.2 h hw
def laws_markSeriesS.e : GE := ⟨104, c_laws_markSeriesS, ⟨_, Try.func104, rfl, rfl⟩, laws_markSeriesS.ok⟩

def fHd_SeriesS (l : List ((List UInt8) × (List (Int × Int)))) (k : Int) : Int := fHd (cL c_mSeries l) (oL c_mSeries o_Series l k) k
def c_laws_heldSeriesS : Con := { A := (.pair (.list (.pair .str (.list (.pair (.int .i64) (.int .i64))))) (.int .i64)), shA := [.one, .one], R := (.int .i64), shR := [(false, 1)], pre := fun _ a => (pMk_SeriesS a.1 a.2), f := some fun _ a => ((fHd_SeriesS a.1 a.2), ((), ())) }
def laws_heldSeriesS.F  (a0 : (List ((List UInt8) × (List (Int × Int))))) (a1 : Int) : Prop := (eS [(0, .val false [.lst (.pair .str (.list (.pair (.int .i64) (.int .i64)))) a0 none])] [(0, .val false [.lst (.pair .str (.list (.pair (.int .i64) (.int .i64)))) a0 none])] ∧ ((hdI c_mSeries o_Series a0 a1 a1 0) ∧ ∀ (y1 : (Int × Int)), (hdI c_mSeries o_Series a0 a1 y1.1 y1.2) → (caseB (decide (y1.2 < (ln a0))) (0 ≤ y1.2 ∧ (y1.2 < (ln a0) ∧ ((pMT y1.1) ∧ ∀ r2, (Eq r2 ((fMT y1.1), ((), ()))) → (caseB (!(((List.getD a0 (tN y1.2) ([], [])).1) == r2.1)) (Eq ((-1), ((), ())) ((fHd_SeriesS a0 a1), ((), ()))) (0 ≤ y1.2 ∧ (y1.2 < (ln a0) ∧ ((pMk_PointS ((List.getD a0 (tN y1.2) ([], [])).2) (wI (y1.1 + (1 : Int)))) ∧ ∀ r3, (Eq r3 ((fHd_PointS ((List.getD a0 (tN y1.2) ([], [])).2) (wI (y1.1 + (1 : Int)))), ((), ()))) → (caseB (decide (r3.1 < (0 : Int))) (Eq ((-1), ((), ())) ((fHd_SeriesS a0 a1), ((), ()))) (eS [(0, .val false [.lst (.pair .str (.list (.pair (.int .i64) (.int .i64)))) a0 none])] [(0, .val false [.lst (.pair .str (.list (.pair (.int .i64) (.int .i64)))) a0 none])] ∧ (hdI c_mSeries o_Series a0 a1 r3.1 (wI (y1.2 + (1 : Int)))) ∧ (hdM a0 a1 r3.1 (wI (y1.2 + (1 : Int)))) < (hdM a0 a1 y1.1 y1.2)))))))))) (Eq (y1.1, ((), ())) ((fHd_SeriesS a0 a1), ((), ()))))))
def laws_heldSeriesS.L  (a0 : (List ((List UInt8) × (List (Int × Int))))) (a1 : Int) : Nat → Option LoopAnn := fun p => Go.Proofs.Ythkghdmpkdpnkaa.Bv.look p [(26, { kp := { hold := [0], slots := [1, 5], boxes := [], rows := [] }, T := (.pair (.int .i64) (.int .i64)), I := fun st y => hdI c_mSeries o_Series a0 a1 y.1 y.2, μ := fun st y => hdM a0 a1 y.1 y.2 })]

theorem laws_heldSeriesS.pure  (a0 : (List ((List UInt8) × (List (Int × Int))))) (a1 : Int) (h : (pMk_SeriesS a0 a1)) (hw : Wf c_laws_heldSeriesS.A (a0, a1)) : laws_heldSeriesS.F a0 a1 := by
  delta laws_heldSeriesS.F ln tN wI eS
  obtain ⟨p1, p2⟩ := h
  have hw1 : a0.length ≤ 9223372036854775807 := hw.1.1
  simp only [forall_eq, true_and, and_true, caseB_iff, Prod.mk.injEq, decide_eq_true_eq, decide_eq_false_iff_not, Bool.not_eq_true', Bool.not_eq_false', bne_iff_ne, ne_eq, beq_iff_eq, Bool.not_true, Bool.not_false, beq_eq_false_iff_ne, bne_eq_false_iff_eq, List.length_append, List.length_cons, List.length_nil, List.append_nil, Nat.zero_add, decide_true, decide_false, eq_self_iff_true]
  refine ⟨⟨by omega, by omega, by simp [cL], by simp⟩, ?_⟩
  rintro ⟨k, i⟩ hI
  simp only at hI ⊢
  have h2 := hI.1
  have h3 := hI.2
  refine ⟨fun hi => ?_, fun hi => hd_end hI hi⟩
  · have hs := cL_split c_mSeries (([] : (List UInt8)), ([] : (List (Int × Int)))) (l := a0) (i := i.toNat) (by omega)
    have hk := hI.3
    have c1 := cL_pos pos_Series (a0.take i.toNat)
    have c2 := cL_pos pos_Series (a0.drop (i.toNat + 1))
    have c3 := pos_Series (a0.getD i.toNat (([] : (List UInt8)), ([] : (List (Int × Int)))))
    have q0 := cL_pos pos_Point
    have r0 := q0 (a0.getD i.toNat (([] : (List UInt8)), ([] : (List (Int × Int))))).2
    have hmod : Int.tmod k 3 = k % 3 := Int.tmod_eq_emod_of_nonneg (by omega)
    have no : o_Series (a0.getD i.toNat (([] : (List UInt8)), ([] : (List (Int × Int))))) k = false → -1 = fHd_SeriesS a0 a1 := fun ho => hd_no (([] : (List UInt8)), ([] : (List (Int × Int)))) hI hi ho
    have yes : o_Series (a0.getD i.toNat (([] : (List UInt8)), ([] : (List (Int × Int))))) k = true → hdI c_mSeries o_Series a0 a1 (k + c_mSeries (a0.getD i.toNat (([] : (List UInt8)), ([] : (List (Int × Int)))))) (i + 1) := fun ho => hd_step (([] : (List UInt8)), ([] : (List (Int × Int)))) hI hi ho rfl
    generalize a0.getD i.toNat (([] : (List UInt8)), ([] : (List (Int × Int)))) = x at *
    have hc : c_mSeries x = c_mSeries x := rfl
    conv at hc => rhs; unfold c_mSeries
    simp only [o_Series] at no yes
    simp (disch := omega) only [w64, pMT, fHd_PointS, pMk_PointS]
    repeat' (with_reducible (first | (refine And.intro ?_ ?_) | intro _))
    all_goals (first | omega | (unfold hdM; omega) | skip)
    all_goals (try simp (disch := first | omega | assumption) only [fHd_neg, fHd_yes, w64, Bool.not_eq_false] at *)
    all_goals (try simp (disch := first | omega | assumption) only [fHd_neg, fHd_yes, w64, Bool.not_eq_false] at *)
    all_goals (first | omega | grind)

set_option maxRecDepth 100000 in
theorem laws_heldSeriesS.eq : EqS c_laws_heldSeriesS Try.f107 [3] [laws_heldPointS.e, laws_markText.e] [] (fun i x => laws_heldSeriesS.L x.1 x.2) (fun i x => laws_heldSeriesS.F x.1 x.2) := by intro i x; kernel_rfl
theorem laws_heldSeriesS.ok : ConOk Try.prog 107 c_laws_heldSeriesS := okOf laws_heldSeriesS.eq Try.func107 rfl (by kernel_rfl) fun i x h hi hw => laws_heldSeriesS.pure x.1 x.2 h hw
def laws_heldSeriesS.e : GE := ⟨107, c_laws_heldSeriesS, ⟨_, Try.func107, rfl, rfl⟩, laws_heldSeriesS.ok⟩

end Go.Proofs.Ythkghdmpkdpnkaa.B
