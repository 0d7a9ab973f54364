/- Values of the type State: how large, the same, marked. -/
import Derived.Test.YthkghdmpkdpnkaaCTypes
import Derived.Test.YthkghdmpkdpnkaaCTBucket
import Derived.Test.YthkghdmpkdpnkaaCTEngine
import Derived.Test.YthkghdmpkdpnkaaCTSession
namespace Go.Proofs.Ythkghdmpkdpnkaa.B
set_option linter.unusedVariables false
set_option linter.unusedSimpArgs false
open Go Go.Proofs.Ythkghdmpkdpnkaa.Bv

def n_State (x : (Int × (Int × (Int × ((List (Int × Int)) × ((Int × ((List ((List UInt8) × (List (Int × Int)))) × (List (List UInt8)))) × (List (Int × (Int × (Int × (Int × (Int × (List UInt8))))))))))))) : Nat := (List.length x.2.2.2.1) + (n_Engine x.2.2.2.2.1) + (nL n_Session x.2.2.2.2.2)
instance dec_State : DecidableEq (Int × (Int × (Int × ((List (Int × Int)) × ((Int × ((List ((List UInt8) × (List (Int × Int)))) × (List (List UInt8)))) × (List (Int × (Int × (Int × (Int × (Int × (List UInt8)))))))))))) := by (iterate 20 (all_goals (first | infer_instance | refine @instDecidableEqProd _ _ ?_ ?_)))
def fEq_State (a b : (Int × (Int × (Int × ((List (Int × Int)) × ((Int × ((List ((List UInt8) × (List (Int × Int)))) × (List (List UInt8)))) × (List (Int × (Int × (Int × (Int × (Int × (List UInt8))))))))))))) : Bool := decide (a = b)
def c_laws_eqState : Con := { A := (.pair (.pair (.int .i64) (.pair (.int .i64) (.pair (.int .i64) (.pair (.list (.pair (.int .i64) (.int .i64))) (.pair (.pair (.int .i64) (.pair (.list (.pair .str (.list (.pair (.int .i64) (.int .i64))))) (.list .str))) (.list (.pair (.int .i64) (.pair (.int .i64) (.pair (.int .i64) (.pair (.int .i64) (.pair (.int .i64) .str))))))))))) (.pair (.int .i64) (.pair (.int .i64) (.pair (.int .i64) (.pair (.list (.pair (.int .i64) (.int .i64))) (.pair (.pair (.int .i64) (.pair (.list (.pair .str (.list (.pair (.int .i64) (.int .i64))))) (.list .str))) (.list (.pair (.int .i64) (.pair (.int .i64) (.pair (.int .i64) (.pair (.int .i64) (.pair (.int .i64) .str)))))))))))), shA := [.agg 8, .agg 8], R := .bool, shR := [(false, 1)], pre := fun _ _ => True, f := some fun _ a => ((fEq_State a.1 a.2), ((), ())) }
def laws_eqState.F  (a0 : (Int × (Int × (Int × ((List (Int × Int)) × ((Int × ((List ((List UInt8) × (List (Int × Int)))) × (List (List UInt8)))) × (List (Int × (Int × (Int × (Int × (Int × (List UInt8))))))))))))) (a1 : (Int × (Int × (Int × ((List (Int × Int)) × ((Int × ((List ((List UInt8) × (List (Int × Int)))) × (List (List UInt8)))) × (List (Int × (Int × (Int × (Int × (Int × (List UInt8))))))))))))) : Prop := (caseB (a0.1 != a1.1) (Eq (false, ((), ())) ((fEq_State a0 a1), ((), ()))) (caseB (a0.2.1 != a1.2.1) (Eq (false, ((), ())) ((fEq_State a0 a1), ((), ()))) (caseB (a0.2.2.1 != a1.2.2.1) (Eq (false, ((), ())) ((fEq_State a0 a1), ((), ()))) (True ∧ ∀ r1, (Eq r1 ((fEq_BucketS a0.2.2.2.1 a1.2.2.2.1), ((), ()))) → (caseB (!r1.1) (Eq (false, ((), ())) ((fEq_State a0 a1), ((), ()))) (True ∧ ∀ r2, (Eq r2 ((fEq_Engine (a0.2.2.2.2.1.1, (a0.2.2.2.2.1.2.1, a0.2.2.2.2.1.2.2)) (a1.2.2.2.2.1.1, (a1.2.2.2.2.1.2.1, a1.2.2.2.2.1.2.2))), ((), ()))) → (caseB (!r2.1) (Eq (false, ((), ())) ((fEq_State a0 a1), ((), ()))) (True ∧ ∀ r3, (Eq r3 ((fEq_SessionS a0.2.2.2.2.2 a1.2.2.2.2.2), ((), ()))) → (caseB (!r3.1) (Eq (false, ((), ())) ((fEq_State a0 a1), ((), ()))) (Eq (true, ((), ())) ((fEq_State a0 a1), ((), ()))))))))))))

theorem laws_eqState.pure  (a0 : (Int × (Int × (Int × ((List (Int × Int)) × ((Int × ((List ((List UInt8) × (List (Int × Int)))) × (List (List UInt8)))) × (List (Int × (Int × (Int × (Int × (Int × (List UInt8))))))))))))) (a1 : (Int × (Int × (Int × ((List (Int × Int)) × ((Int × ((List ((List UInt8) × (List (Int × Int)))) × (List (List UInt8)))) × (List (Int × (Int × (Int × (Int × (Int × (List UInt8))))))))))))) (h : True) (hw : Wf c_laws_eqState.A (a0, a1)) : laws_eqState.F a0 a1 := by
  unfold laws_eqState.F
  obtain ⟨x1, x2, x3, x4, ⟨x5, x6, x7⟩, x8⟩ := a0
  obtain ⟨y1, y2, y3, y4, ⟨y5, y6, y7⟩, y8⟩ := a1
  simp only [forall_eq, true_and, and_true, caseB_iff, Prod.mk.injEq, decide_eq_true_eq, decide_eq_false_iff_not, Bool.not_eq_true', Bool.not_eq_false', bne_iff_ne, ne_eq, beq_iff_eq, Bool.not_true, Bool.not_false, beq_eq_false_iff_ne, bne_eq_false_iff_eq, List.length_append, List.length_cons, List.length_nil, List.append_nil, Nat.zero_add, decide_true, decide_false, eq_self_iff_true, fEq_State, fEq_BucketS, fEq_Engine, fEq_SessionS]
  repeat' (first | (refine And.intro ?_ ?_) | intro _)
  all_goals simp_all

set_option maxRecDepth 100000 in
theorem laws_eqState.eq : EqS c_laws_eqState Try.f24 [4] [laws_eqBucketS.e, laws_eqEngine.e, laws_eqSessionS.e] [] noL (fun i x => laws_eqState.F x.1 x.2) := by intro i x; kernel_rfl
theorem laws_eqState.ok : ConOk Try.prog 24 c_laws_eqState := okOf laws_eqState.eq Try.func24 rfl (by kernel_rfl) fun i x h hi hw => laws_eqState.pure x.1 x.2 h hw
def laws_eqState.e : GE := ⟨24, c_laws_eqState, ⟨_, Try.func24, rfl, rfl⟩, laws_eqState.ok⟩

def c_mState (x : (Int × (Int × (Int × ((List (Int × Int)) × ((Int × ((List ((List UInt8) × (List (Int × Int)))) × (List (List UInt8)))) × (List (Int × (Int × (Int × (Int × (Int × (List UInt8))))))))))))) : Int := 1 + 1 + 1 + cL c_mBucket x.2.2.2.1 + 1 + cL c_mSeries x.2.2.2.2.1.2.1 + cL c_1s x.2.2.2.2.1.2.2 + cL c_mSession x.2.2.2.2.2
def m_State (x : (Int × (Int × (Int × ((List (Int × Int)) × ((Int × ((List ((List UInt8) × (List (Int × Int)))) × (List (List UInt8)))) × (List (Int × (Int × (Int × (Int × (Int × (List UInt8))))))))))))) (k : Int) : (Int × (Int × (Int × ((List (Int × Int)) × ((Int × ((List ((List UInt8) × (List (Int × Int)))) × (List (List UInt8)))) × (List (Int × (Int × (Int × (Int × (Int × (List UInt8)))))))))))) := (k, (k + 1), ((k + 1) + 1), (mL c_mBucket m_Bucket x.2.2.2.1 (((k + 1) + 1) + 1)), (((((k + 1) + 1) + 1) + cL c_mBucket x.2.2.2.1), (mL c_mSeries m_Series x.2.2.2.2.1.2.1 (((((k + 1) + 1) + 1) + cL c_mBucket x.2.2.2.1) + 1)), (mL c_1s m_String x.2.2.2.2.1.2.2 ((((((k + 1) + 1) + 1) + cL c_mBucket x.2.2.2.1) + 1) + cL c_mSeries x.2.2.2.2.1.2.1))), (mL c_mSession m_Session x.2.2.2.2.2 (((((((k + 1) + 1) + 1) + cL c_mBucket x.2.2.2.1) + 1) + cL c_mSeries x.2.2.2.2.1.2.1) + cL c_1s x.2.2.2.2.1.2.2)))
def o_State (x : (Int × (Int × (Int × ((List (Int × Int)) × ((Int × ((List ((List UInt8) × (List (Int × Int)))) × (List (List UInt8)))) × (List (Int × (Int × (Int × (Int × (Int × (List UInt8))))))))))))) (k : Int) : Bool := (decide (x.1 = k)) && (decide (x.2.1 = (k + 1))) && (decide (x.2.2.1 = ((k + 1) + 1))) && (oL c_mBucket o_Bucket x.2.2.2.1 (((k + 1) + 1) + 1)) && (decide (x.2.2.2.2.1.1 = ((((k + 1) + 1) + 1) + cL c_mBucket x.2.2.2.1))) && (oL c_mSeries o_Series x.2.2.2.2.1.2.1 (((((k + 1) + 1) + 1) + cL c_mBucket x.2.2.2.1) + 1)) && (oL c_1s o_String x.2.2.2.2.1.2.2 ((((((k + 1) + 1) + 1) + cL c_mBucket x.2.2.2.1) + 1) + cL c_mSeries x.2.2.2.2.1.2.1)) && (oL c_mSession o_Session x.2.2.2.2.2 (((((((k + 1) + 1) + 1) + cL c_mBucket x.2.2.2.1) + 1) + cL c_mSeries x.2.2.2.2.1.2.1) + cL c_1s x.2.2.2.2.1.2.2))
theorem ok_State : ∀ (x : (Int × (Int × (Int × ((List (Int × Int)) × ((Int × ((List ((List UInt8) × (List (Int × Int)))) × (List (List UInt8)))) × (List (Int × (Int × (Int × (Int × (Int × (List UInt8))))))))))))) (k : Int), o_State (m_State x k) k = true ∧ c_mState (m_State x k) = c_mState x := fun x k => by
  simp [o_State, m_State, c_mState, (oL_mL ok_Bucket _ _).1, (oL_mL ok_Bucket _ _).2, (oL_mL ok_Series _ _).1, (oL_mL ok_Series _ _).2, (oL_mL ok_String _ _).1, (oL_mL ok_String _ _).2, (oL_mL ok_Session _ _).1, (oL_mL ok_Session _ _).2]
theorem pos_State : ∀ x : (Int × (Int × (Int × ((List (Int × Int)) × ((Int × ((List ((List UInt8) × (List (Int × Int)))) × (List (List UInt8)))) × (List (Int × (Int × (Int × (Int × (Int × (List UInt8)))))))))))), 0 ≤ c_mState x := fun x => by
  have p0 := fun l => cL_pos pos_Bucket l
  have p1 := fun l => cL_pos pos_Series l
  have p2 := fun l => cL_pos pos_String l
  have p3 := fun l => cL_pos pos_Session l
  have q0 := p0 x.2.2.2.1
  have q1 := p1 x.2.2.2.2.1.2.1
  have q2 := p2 x.2.2.2.2.1.2.2
  have q3 := p3 x.2.2.2.2.2
  unfold c_mState; omega
def c_sState (x : (Int × (Int × (Int × ((List (Int × Int)) × ((Int × ((List ((List UInt8) × (List (Int × Int)))) × (List (List UInt8)))) × (List (Int × (Int × (Int × (Int × (Int × (List UInt8))))))))))))) : Int := cL c_mBucket x.2.2.2.1 + cL c_mSeries x.2.2.2.2.1.2.1 + cL c_1s x.2.2.2.2.1.2.2 + cL c_mSession x.2.2.2.2.2
def m_sState (x : (Int × (Int × (Int × ((List (Int × Int)) × ((Int × ((List ((List UInt8) × (List (Int × Int)))) × (List (List UInt8)))) × (List (Int × (Int × (Int × (Int × (Int × (List UInt8))))))))))))) (k : Int) : ((List (Int × Int)) × ((List ((List UInt8) × (List (Int × Int)))) × ((List (List UInt8)) × (List (Int × (Int × (Int × (Int × (Int × (List UInt8)))))))))) := (mL c_mBucket m_Bucket x.2.2.2.1 k, (mL c_mSeries m_Series x.2.2.2.2.1.2.1 (k + cL c_mBucket x.2.2.2.1), (mL c_1s m_String x.2.2.2.2.1.2.2 (k + cL c_mBucket x.2.2.2.1 + cL c_mSeries x.2.2.2.2.1.2.1), mL c_mSession m_Session x.2.2.2.2.2 (k + cL c_mBucket x.2.2.2.1 + cL c_mSeries x.2.2.2.2.1.2.1 + cL c_1s x.2.2.2.2.1.2.2))))
def o_sState (x : (Int × (Int × (Int × ((List (Int × Int)) × ((Int × ((List ((List UInt8) × (List (Int × Int)))) × (List (List UInt8)))) × (List (Int × (Int × (Int × (Int × (Int × (List UInt8))))))))))))) (k : Int) : Bool := oL c_mBucket o_Bucket x.2.2.2.1 k && oL c_mSeries o_Series x.2.2.2.2.1.2.1 (k + cL c_mBucket x.2.2.2.1) && oL c_1s o_String x.2.2.2.2.1.2.2 (k + cL c_mBucket x.2.2.2.1 + cL c_mSeries x.2.2.2.2.1.2.1) && oL c_mSession o_Session x.2.2.2.2.2 (k + cL c_mBucket x.2.2.2.1 + cL c_mSeries x.2.2.2.2.1.2.1 + cL c_1s x.2.2.2.2.1.2.2)
def w_sState (x : (Int × (Int × (Int × ((List (Int × Int)) × ((Int × ((List ((List UInt8) × (List (Int × Int)))) × (List (List UInt8)))) × (List (Int × (Int × (Int × (Int × (Int × (List UInt8))))))))))))) (k : Int) : (Int × (Int × (Int × ((List (Int × Int)) × ((Int × ((List ((List UInt8) × (List (Int × Int)))) × (List (List UInt8)))) × (List (Int × (Int × (Int × (Int × (Int × (List UInt8)))))))))))) := (x.1, (x.2.1, (x.2.2.1, (mL c_mBucket m_Bucket x.2.2.2.1 k, ((x.2.2.2.2.1.1, (mL c_mSeries m_Series x.2.2.2.2.1.2.1 (k + cL c_mBucket x.2.2.2.1), mL c_1s m_String x.2.2.2.2.1.2.2 (k + cL c_mBucket x.2.2.2.1 + cL c_mSeries x.2.2.2.2.1.2.1))), mL c_mSession m_Session x.2.2.2.2.2 (k + cL c_mBucket x.2.2.2.1 + cL c_mSeries x.2.2.2.2.1.2.1 + cL c_1s x.2.2.2.2.1.2.2))))))
theorem pos_sState (x : (Int × (Int × (Int × ((List (Int × Int)) × ((Int × ((List ((List UInt8) × (List (Int × Int)))) × (List (List UInt8)))) × (List (Int × (Int × (Int × (Int × (Int × (List UInt8))))))))))))) : 0 ≤ c_sState x := by
  have p0 := cL_pos pos_Bucket x.2.2.2.1
  have p1 := cL_pos pos_Series x.2.2.2.2.1.2.1
  have p2 := cL_pos pos_String x.2.2.2.2.1.2.2
  have p3 := cL_pos pos_Session x.2.2.2.2.2
  unfold c_sState; omega
theorem ok_sState (x : (Int × (Int × (Int × ((List (Int × Int)) × ((Int × ((List ((List UInt8) × (List (Int × Int)))) × (List (List UInt8)))) × (List (Int × (Int × (Int × (Int × (Int × (List UInt8))))))))))))) (k : Int) : o_sState (w_sState x k) k = true ∧ c_sState (w_sState x k) = c_sState x := by
  simp [o_sState, w_sState, c_sState, (oL_mL ok_Bucket _ _).1, (oL_mL ok_Bucket _ _).2, (oL_mL ok_Series _ _).1, (oL_mL ok_Series _ _).2, (oL_mL ok_String _ _).1, (oL_mL ok_String _ _).2, (oL_mL ok_Session _ _).1, (oL_mL ok_Session _ _).2]
def pMk_State (x : (Int × (Int × (Int × ((List (Int × Int)) × ((Int × ((List ((List UInt8) × (List (Int × Int)))) × (List (List UInt8)))) × (List (Int × (Int × (Int × (Int × (Int × (List UInt8))))))))))))) (k : Int) : Prop := 0 ≤ k ∧ k + c_sState x ≤ 4611686018427387904
def fMk_State (x : (Int × (Int × (Int × ((List (Int × Int)) × ((Int × ((List ((List UInt8) × (List (Int × Int)))) × (List (List UInt8)))) × (List (Int × (Int × (Int × (Int × (Int × (List UInt8))))))))))))) (k : Int) : Int × ((List (Int × Int)) × ((List ((List UInt8) × (List (Int × Int)))) × ((List (List UInt8)) × (List (Int × (Int × (Int × (Int × (Int × (List UInt8)))))))))) := (k + c_sState x, m_sState x k)
def c_laws_markState : Con := { A := (.pair (.pair (.int .i64) (.pair (.int .i64) (.pair (.int .i64) (.pair (.list (.pair (.int .i64) (.int .i64))) (.pair (.pair (.int .i64) (.pair (.list (.pair .str (.list (.pair (.int .i64) (.int .i64))))) (.list .str))) (.list (.pair (.int .i64) (.pair (.int .i64) (.pair (.int .i64) (.pair (.int .i64) (.pair (.int .i64) .str))))))))))) (.int .i64)), shA := [.agg 8, .one], backA := [(3, 123), (5, 107), (6, 9), (7, 130)], B := (.pair (.list (.pair (.int .i64) (.int .i64))) (.pair (.list (.pair .str (.list (.pair (.int .i64) (.int .i64))))) (.pair (.list .str) (.list (.pair (.int .i64) (.pair (.int .i64) (.pair (.int .i64) (.pair (.int .i64) (.pair (.int .i64) .str))))))))), R := (.int .i64), shR := [(false, 1)], pre := fun _ a => (pMk_State a.1 a.2), f := some fun _ a => ((fMk_State a.1 a.2).1, ((), (fMk_State a.1 a.2).2)) }
def laws_markState.F  (a0 : (Int × (Int × (Int × ((List (Int × Int)) × ((Int × ((List ((List UInt8) × (List (Int × Int)))) × (List (List UInt8)))) × (List (Int × (Int × (Int × (Int × (Int × (List UInt8))))))))))))) (a1 : Int) : Prop := ((pMk_BucketS a0.2.2.2.1 a1) ∧ ∀ r1, (Eq r1 ((fMk_BucketS a0.2.2.2.1 a1).1, ((), (fMk_BucketS a0.2.2.2.1 a1).2))) → ((pMk_Engine (a0.2.2.2.2.1.1, (a0.2.2.2.2.1.2.1, a0.2.2.2.2.1.2.2)) r1.1) ∧ ∀ r2, (Eq r2 ((fMk_Engine (a0.2.2.2.2.1.1, (a0.2.2.2.2.1.2.1, a0.2.2.2.2.1.2.2)) r1.1).1, ((), (fMk_Engine (a0.2.2.2.2.1.1, (a0.2.2.2.2.1.2.1, a0.2.2.2.2.1.2.2)) r1.1).2))) → ((pMk_SessionS a0.2.2.2.2.2 r2.1) ∧ ∀ r3, (Eq r3 ((fMk_SessionS a0.2.2.2.2.2 r2.1).1, ((), (fMk_SessionS a0.2.2.2.2.2 r2.1).2))) → (Eq (r3.1, ((), (r1.2.2, (r2.2.2.1, (r2.2.2.2, r3.2.2))))) ((fMk_State a0 a1).1, ((), (fMk_State a0 a1).2))))))

theorem laws_markState.pure  (a0 : (Int × (Int × (Int × ((List (Int × Int)) × ((Int × ((List ((List UInt8) × (List (Int × Int)))) × (List (List UInt8)))) × (List (Int × (Int × (Int × (Int × (Int × (List UInt8))))))))))))) (a1 : Int) (h : (pMk_State a0 a1)) (hw : Wf c_laws_markState.A (a0, a1)) : laws_markState.F a0 a1 := by
  unfold laws_markState.F
  obtain ⟨p1, p2⟩ := h
  simp only [c_sState, c_sEngine] at p2
  have p3 := cL_pos pos_Bucket a0.2.2.2.1
  have p4 := cL_pos pos_Series a0.2.2.2.2.1.2.1
  have p5 := cL_pos pos_String a0.2.2.2.2.1.2.2
  have p6 := cL_pos pos_Session a0.2.2.2.2.2
  simp only [forall_eq, true_and, and_true, caseB_iff, Prod.mk.injEq, decide_eq_true_eq, decide_eq_false_iff_not, Bool.not_eq_true', Bool.not_eq_false', bne_iff_ne, ne_eq, beq_iff_eq, Bool.not_true, Bool.not_false, beq_eq_false_iff_ne, bne_eq_false_iff_eq, List.length_append, List.length_cons, List.length_nil, List.append_nil, Nat.zero_add, decide_true, decide_false, eq_self_iff_true, fMk_BucketS, pMk_BucketS, fMk_Engine, pMk_Engine, c_sEngine, m_sEngine, fMk_SessionS, pMk_SessionS, c_sState, m_sState, fMk_State]
  repeat' (with_reducible (first | (refine And.intro ?_ ?_) | intro _))
  all_goals (try simp only [← Int.add_assoc])
  all_goals (first | omega | rfl | (refine Prod.ext ?_ rfl; simp only; omega) | skip)

set_option maxRecDepth 100000 in
theorem laws_markState.eq : EqS c_laws_markState Try.f25 [3] [laws_markBucketS.e, laws_markEngine.e, laws_markSessionS.e] [] noL (fun i x => laws_markState.F x.1 x.2) := by intro i x; kernel_rfl
theorem laws_markState.ok : ConOk Try.prog 25 c_laws_markState := okOf laws_markState.eq Try.func25 rfl (by kernel_rfl) fun i x h hi hw => laws_markState.pure x.1 x.2 h hw
def laws_markState.e : GE := ⟨25, c_laws_markState, ⟨_, Try.func25, rfl, rfl⟩, laws_markState.ok⟩

def fHd_State (x : (Int × (Int × (Int × ((List (Int × Int)) × ((Int × ((List ((List UInt8) × (List (Int × Int)))) × (List (List UInt8)))) × (List (Int × (Int × (Int × (Int × (Int × (List UInt8))))))))))))) (k : Int) : Int := fHd (c_sState x) (o_sState x k) k
def c_laws_heldState : Con := { A := (.pair (.pair (.int .i64) (.pair (.int .i64) (.pair (.int .i64) (.pair (.list (.pair (.int .i64) (.int .i64))) (.pair (.pair (.int .i64) (.pair (.list (.pair .str (.list (.pair (.int .i64) (.int .i64))))) (.list .str))) (.list (.pair (.int .i64) (.pair (.int .i64) (.pair (.int .i64) (.pair (.int .i64) (.pair (.int .i64) .str))))))))))) (.int .i64)), shA := [.agg 8, .one], R := (.int .i64), shR := [(false, 1)], pre := fun _ a => (pMk_State a.1 a.2), f := some fun _ a => ((fHd_State a.1 a.2), ((), ())) }
def laws_heldState.F  (a0 : (Int × (Int × (Int × ((List (Int × Int)) × ((Int × ((List ((List UInt8) × (List (Int × Int)))) × (List (List UInt8)))) × (List (Int × (Int × (Int × (Int × (Int × (List UInt8))))))))))))) (a1 : Int) : Prop := ((pMk_BucketS a0.2.2.2.1 a1) ∧ ∀ r1, (Eq r1 ((fHd_BucketS a0.2.2.2.1 a1), ((), ()))) → (caseB (decide (r1.1 < (0 : Int))) (Eq ((-1), ((), ())) ((fHd_State a0 a1), ((), ()))) ((pMk_Engine (a0.2.2.2.2.1.1, (a0.2.2.2.2.1.2.1, a0.2.2.2.2.1.2.2)) r1.1) ∧ ∀ r2, (Eq r2 ((fHd_Engine (a0.2.2.2.2.1.1, (a0.2.2.2.2.1.2.1, a0.2.2.2.2.1.2.2)) r1.1), ((), ()))) → (caseB (decide (r2.1 < (0 : Int))) (Eq ((-1), ((), ())) ((fHd_State a0 a1), ((), ()))) ((pMk_SessionS a0.2.2.2.2.2 r2.1) ∧ ∀ r3, (Eq r3 ((fHd_SessionS a0.2.2.2.2.2 r2.1), ((), ()))) → (caseB (decide (r3.1 < (0 : Int))) (Eq ((-1), ((), ())) ((fHd_State a0 a1), ((), ()))) (Eq (r3.1, ((), ())) ((fHd_State a0 a1), ((), ())))))))))

theorem laws_heldState.pure  (a0 : (Int × (Int × (Int × ((List (Int × Int)) × ((Int × ((List ((List UInt8) × (List (Int × Int)))) × (List (List UInt8)))) × (List (Int × (Int × (Int × (Int × (Int × (List UInt8))))))))))))) (a1 : Int) (h : (pMk_State a0 a1)) (hw : Wf c_laws_heldState.A (a0, a1)) : laws_heldState.F a0 a1 := by
  unfold laws_heldState.F
  obtain ⟨p1, p2⟩ := h
  simp only [c_sState, c_sEngine] at p2
  have p3 := cL_pos pos_Bucket a0.2.2.2.1
  have p4 := cL_pos pos_Series a0.2.2.2.2.1.2.1
  have p5 := cL_pos pos_String a0.2.2.2.2.1.2.2
  have p6 := cL_pos pos_Session a0.2.2.2.2.2
  simp only [forall_eq, true_and, and_true, caseB_iff, Prod.mk.injEq, decide_eq_true_eq, decide_eq_false_iff_not, Bool.not_eq_true', Bool.not_eq_false', bne_iff_ne, ne_eq, beq_iff_eq, Bool.not_true, Bool.not_false, beq_eq_false_iff_ne, bne_eq_false_iff_eq, List.length_append, List.length_cons, List.length_nil, List.append_nil, Nat.zero_add, decide_true, decide_false, eq_self_iff_true, fHd_State, pMk_BucketS, fHd_BucketS, pMk_Engine, fHd_Engine, c_sEngine, o_sEngine, pMk_SessionS, fHd_SessionS, c_sState, o_sState]
  repeat' (with_reducible (first | (refine And.intro ?_ ?_) | intro _))
  all_goals (try simp (disch := first | omega | assumption) only [fHd_neg, fHd_yes, Bool.not_eq_false] at *)
  all_goals (try simp (disch := first | omega | assumption) only [fHd_neg, fHd_yes, Bool.not_eq_false] at *)
  all_goals (try simp (disch := first | omega | assumption) only [fHd_neg, fHd_yes, Bool.not_eq_false] at *)
  all_goals (try simp (disch := first | omega | assumption) only [fHd_neg, fHd_yes, Bool.not_eq_false] at *)
  all_goals (try simp (disch := first | omega | assumption) only [fHd_neg, fHd_yes, Bool.not_eq_false] at *)
  all_goals (try simp (disch := first | omega | assumption) only [fHd_neg, fHd_yes, Bool.not_eq_false] at *)
  all_goals (first | omega | (unfold fHd; grind) | skip)

set_option maxRecDepth 100000 in
theorem laws_heldState.eq : EqS c_laws_heldState Try.f26 [3] [laws_heldBucketS.e, laws_heldEngine.e, laws_heldSessionS.e] [] noL (fun i x => laws_heldState.F x.1 x.2) := by intro i x; kernel_rfl
theorem laws_heldState.ok : ConOk Try.prog 26 c_laws_heldState := okOf laws_heldState.eq Try.func26 rfl (by kernel_rfl) fun i x h hi hw => laws_heldState.pure x.1 x.2 h hw
def laws_heldState.e : GE := ⟨26, c_laws_heldState, ⟨_, Try.func26, rfl, rfl⟩, laws_heldState.ok⟩

end Go.Proofs.Ythkghdmpkdpnkaa.B
