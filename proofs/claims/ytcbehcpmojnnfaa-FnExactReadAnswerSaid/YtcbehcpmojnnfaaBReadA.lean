/- Reading answers. -/
import Derived.Test.YtcbehcpmojnnfaaBRead
namespace Go.Proofs.Ytcbehcpmojnnfaa.B
set_option linter.unusedVariables false
set_option linter.unusedSimpArgs false
open Go Go.Proofs.Ytcbehcpmojnnfaa.Bv

abbrev Rd := List UInt8 × Bool
def fNum (i : Rd) : Int × Rd := if i.2 = true ∧ (fReadVar i.1).2 > 0 then ((fReadVar i.1).1, (i.1.drop (fReadVar i.1).2.toNat, true)) else (0, (i.1, false))

def varsGo (s : List UInt8) : Nat → Int → List Int → List Int × Int
  | 0, p, out => (out, p)
  | n + 1, p, out => if p > (s.length : Int) then (out, -1) else if (fReadVar (s.drop p.toNat)).2 = 0 then (out, -1) else varsGo s n (p + (fReadVar (s.drop p.toNat)).2) (out ++ [(fReadVar (s.drop p.toNat)).1])
def fVars (s : List UInt8) (p n : Int) : List Int × Int := varsGo s n.toNat p []
def pVars (s : List UInt8) (p n : Int) : Prop := s.length ≤ maxLen ∧ 0 ≤ p ∧ p ≤ 4611686018427387904 ∧ 0 ≤ n ∧ n ≤ 1000
def vsI (s : List UInt8) (p n q : Int) (out : List Int) (i : Int) : Prop := 0 ≤ i ∧ i ≤ n ∧ 0 ≤ q ∧ (q = p ∨ q ≤ (s.length : Int)) ∧ (out.length : Int) = i ∧ varsGo s (n - i).toNat q out = varsGo s n.toNat p []
def vsM (s : List UInt8) (p n q : Int) (out : List Int) (i : Int) : Nat := (n - i).toNat

def zeroAns : Ans := (0, 0, 0, [])
def fRA (s : List UInt8) : Ans × Bool :=
  if (fReadVar s).2 = 0 then (zeroAns, false)
  else if (fReadVar (s.drop (fReadVar s).2.toNat)).2 = 0 then (zeroAns, false)
  else if (fReadVar ((s.drop (fReadVar s).2.toNat).drop (fReadVar (s.drop (fReadVar s).2.toNat)).2.toNat)).2 = 0 then (zeroAns, false)
  else
    let s1 := s.drop (fReadVar s).2.toNat
    let s2 := s1.drop (fReadVar s1).2.toNat
    let s3 := s2.drop (fReadVar s2).2.toNat
    let a : Ans := ((fReadVar s).1, (fReadVar s1).1, (fReadVar s2).1, s3)
    if fShow a = s then (a, true) else (zeroAns, false)
def fEqA (a b : Ans) : Bool := decide (a = b)
def pRA (s : List UInt8) : Prop := s.length ≤ maxLen

def c_impl_rd_num : Con := { io := true, I := (.pair .str .bool), A := .unit, shA := [], R := (.int .i64), shR := [(false, 1)], fresh := [], pre := fun i a => True, f := fun i a => (fNum i) }
def impl_rd_num.F (i0 : ((List UInt8) × Bool))  : Prop := (True ∧ ∀ (r1 : (Int × Int) × Unit), r1 = ((fReadVar i0.1), ()) → (caseB i0.2 (caseB (!(decide (r1.1.2 > (0 : Int)))) ((0 : Int) = (fNum i0).1 ∧ ((i0.1, (decide (r1.1.2 > (0 : Int)))) : ((List UInt8) × Bool)) = (fNum i0).2) (0 ≤ r1.1.2 ∧ (r1.1.2 ≤ ((List.length i0.1 : Nat) : Int) ∧ ((r1.1.1 : Int) = (fNum i0).1 ∧ (((List.drop (Int.toNat r1.1.2) i0.1), (decide (r1.1.2 > (0 : Int)))) : ((List UInt8) × Bool)) = (fNum i0).2)))) ((0 : Int) = (fNum i0).1 ∧ ((i0.1, false) : ((List UInt8) × Bool)) = (fNum i0).2)))
def impl_rd_num.L (i0 : ((List UInt8) × Bool))  : Nat → Option LoopAnn := fun p => Go.Proofs.Ytcbehcpmojnnfaa.Bv.look p []

theorem impl_rd_num.pure (i0 : ((List UInt8) × Bool))  (h : True) (hi : Wf c_impl_rd_num.I i0) (hw : Wf c_impl_rd_num.A ()) : impl_rd_num.F i0 := by
  unfold impl_rd_num.F
  simp only [forall_eq, true_and, caseB_iff, decide_eq_true_eq, decide_eq_false_iff_not, Bool.not_eq_true', Bool.not_eq_false']
  have hb := readVar_bound i0.1
  refine ⟨fun h1 => ⟨fun h2 => ?_, fun h2 => ⟨by omega, by omega, ?_⟩⟩, fun h1 => ?_⟩
  · have : ¬ (i0.2 = true ∧ (fReadVar i0.1).2 > 0) := fun h => h2 h.2
    simp only [fNum, if_neg this, decide_eq_false h2, and_self]
  · have h3 : (fReadVar i0.1).2 > 0 := by
      by_cases h4 : (fReadVar i0.1).2 > 0
      · exact h4
      · simp [h4] at h2
    simp only [fNum, if_pos (And.intro h1 h3), decide_eq_true h3, and_self]
  · have : ¬ (i0.2 = true ∧ (fReadVar i0.1).2 > 0) := fun h => by rw [h1] at h; cases h.1
    simp only [fNum, if_neg this, and_self]

set_option maxRecDepth 100000 in
theorem impl_rd_num.eq (i : El c_impl_rd_num.I) (x : El c_impl_rd_num.A) : vc tab (gam [(102, c_impl_ReadVar)]) (impl_rd_num.L i) (match Try.f73.body with | some c => c | none => .skip) 1 (initSt c_impl_rd_num Try.f73.ntmps i x) (bodyK tab c_impl_rd_num Try.f73.results.toList [3] i x) = impl_rd_num.F i := by kernel_rfl
theorem impl_rd_num.ok : ConOk Try.prog 73 c_impl_rd_num :=
  conOk_of_vc (con := c_impl_rd_num) (tab := tab) (fun i x => impl_rd_num.L i) rfl tabOk (gam_cons ⟨_, Try.func102, rfl, rfl⟩ impl_ReadVar.ok (gam_nil _)) Try.func73 rfl [3] (by decide) fun i x h hi hw => (impl_rd_num.eq i x).mpr (impl_rd_num.pure i h (hi rfl) hw)

def c_spec_l13Vars : Con := { io := false, I := .unit, A := (.pair .str (.pair (.int .i64) (.int .i64))), shA := [.one, .one, .one], R := (.pair (.list (.int .i64)) (.int .i64)), shR := [(false, 1), (false, 1)], fresh := [(0, 3)], pre := fun _ a => (pVars a.1 a.2.1 a.2.2), f := fun _ a => ((fVars a.1 a.2.1 a.2.2), ()) }
def spec_l13Vars.F  (a0 : (List UInt8)) (a1 : Int) (a2 : Int) : Prop := ((vsI a0 a1 a2 a1 [] 0) ∧ ∀ (y1 : (Int × ((List Int) × Int))), (vsI a0 a1 a2 y1.1 y1.2.1 y1.2.2) → (caseB (decide (y1.2.2 < a2)) (caseB (decide (y1.1 > ((List.length a0 : Nat) : Int))) (((y1.2.1, (-1)) : ((List Int) × Int)) = (fVars a0 a1 a2) ∧ True) (0 ≤ y1.1 ∧ (y1.1 ≤ ((List.length a0 : Nat) : Int) ∧ (True ∧ ∀ (r2 : (Int × Int) × Unit), r2 = ((fReadVar (List.drop (Int.toNat y1.1) a0)), ()) → (caseB (r2.1.2 == (0 : Int)) (((y1.2.1, (-1)) : ((List Int) × Int)) = (fVars a0 a1 a2) ∧ True) (List.length y1.2.1 + List.length [r2.1.1] ≤ 9223372036854775807 ∧ ((List.length y1.2.1 + List.length [r2.1.1]) * 8 ≤ 140737488355328 ∧ (([(0, .val false [.str a0]), (2, .val false [.int .i64 a2])] : List (Nat × Sv)) = [(0, .val false [.str a0]), (2, .val false [.int .i64 a2])] ∧ (vsI a0 a1 a2 (IntKind.wrap .i64 (y1.1 + r2.1.2)) (y1.2.1 ++ [r2.1.1]) (IntKind.wrap .i64 (y1.2.2 + (1 : Int)))) ∧ (vsM a0 a1 a2 (IntKind.wrap .i64 (y1.1 + r2.1.2)) (y1.2.1 ++ [r2.1.1]) (IntKind.wrap .i64 (y1.2.2 + (1 : Int)))) < (vsM a0 a1 a2 y1.1 y1.2.1 y1.2.2))))))))) (((y1.2.1, y1.1) : ((List Int) × Int)) = (fVars a0 a1 a2) ∧ True)))
def spec_l13Vars.L  (a0 : (List UInt8)) (a1 : Int) (a2 : Int) : Nat → Option LoopAnn := fun p => Go.Proofs.Ytcbehcpmojnnfaa.Bv.look p [(58, { kp := { hold := [0, 2], slots := [1, 8, 9], boxes := [], rows := [(8, 0, 1000515, 3)] }, T := (.pair (.int .i64) (.pair (.list (.int .i64)) (.int .i64))), I := fun st y => vsI a0 a1 a2 y.1 y.2.1 y.2.2, μ := fun st y => vsM a0 a1 a2 y.1 y.2.1 y.2.2 })]

theorem spec_l13Vars.pure  (a0 : (List UInt8)) (a1 : Int) (a2 : Int) (h : (pVars a0 a1 a2)) (hw : Wf c_spec_l13Vars.A (a0, a1, a2)) : spec_l13Vars.F a0 a1 a2 := by
  unfold spec_l13Vars.F
  obtain ⟨p1, p2, p3, p4, p5⟩ := h
  unfold maxLen at p1
  simp only [forall_eq, true_and, and_true, caseB_iff, decide_eq_true_eq, decide_eq_false_iff_not, beq_iff_eq, beq_eq_false_iff_ne]
  refine ⟨⟨by omega, by omega, by omega, .inl rfl, rfl, by rw [show a2 - 0 = a2 by omega]⟩, fun y hy => ?_⟩
  obtain ⟨q, out, i⟩ := y
  obtain ⟨h1, h2, h3, h4, h5, h6⟩ := hy
  simp only at h1 h2 h3 h4 h5 h6 ⊢
  refine ⟨fun hi => ⟨fun hq => ?_, fun hq => ⟨by omega, by omega, fun hz => ?_, fun hz => ⟨?_, ?_, ⟨?_, ?_⟩⟩⟩⟩, fun hi => ?_⟩
  · rw [show (a2 - i).toNat = (a2 - i - 1).toNat + 1 by omega, varsGo, if_pos hq] at h6
    exact h6
  · rw [show (a2 - i).toNat = (a2 - i - 1).toNat + 1 by omega, varsGo, if_neg hq, if_pos hz] at h6
    exact h6
  · simp; omega
  · simp; omega
  · have hb := readVar_bound (a0.drop q.toNat)
    simp only [List.length_drop] at hb
    rw [Go.IntWalk.i64_in _ (by omega), Go.IntWalk.i64_in _ (by omega)]
    refine ⟨by omega, by omega, by omega, .inr (by omega), by simp; omega, ?_⟩
    rw [show (a2 - i).toNat = (a2 - i - 1).toNat + 1 by omega, varsGo, if_neg hq, if_neg hz] at h6
    rw [show (a2 - (i + 1)).toNat = (a2 - i - 1).toNat by omega]
    exact h6
  · rw [Go.IntWalk.i64_in (i + 1) (by omega)]
    show (a2 - (i + 1)).toNat < (a2 - i).toNat
    omega
  · rw [show (a2 - i).toNat = 0 by omega, varsGo] at h6
    exact h6

set_option maxRecDepth 100000 in
theorem spec_l13Vars.eq (i : El c_spec_l13Vars.I) (x : El c_spec_l13Vars.A) : vc tab (gam [(101, c_spec_ReadVar)]) (spec_l13Vars.L x.1 x.2.1 x.2.2) (match Try.f72.body with | some c => c | none => .skip) 1 (initSt c_spec_l13Vars Try.f72.ntmps i x) (bodyK tab c_spec_l13Vars Try.f72.results.toList [32, 3] i x) = spec_l13Vars.F x.1 x.2.1 x.2.2 := by kernel_rfl
theorem spec_l13Vars.ok : ConOk Try.prog 72 c_spec_l13Vars :=
  conOk_of_vc (con := c_spec_l13Vars) (tab := tab) (fun i x => spec_l13Vars.L x.1 x.2.1 x.2.2) rfl tabOk (gam_cons ⟨_, Try.func101, rfl, rfl⟩ spec_ReadVar.ok (gam_nil _)) Try.func72 rfl [32, 3] (by decide) fun i x h hi hw => (spec_l13Vars.eq i x).mpr (spec_l13Vars.pure x.1 x.2.1 x.2.2 h hw)

def c_laws_eqAnswer : Con := { io := false, I := .unit, A := (.pair (.pair (.int .i64) (.pair (.int .i64) (.pair (.int .i64) .str))) (.pair (.int .i64) (.pair (.int .i64) (.pair (.int .i64) .str)))), shA := [.agg 4, .agg 4], R := .bool, shR := [(false, 1)], fresh := [], pre := fun _ a => True, f := fun _ a => ((fEqA a.1 a.2), ()) }
def laws_eqAnswer.F  (a0 : (Int × (Int × (Int × (List UInt8))))) (a1 : (Int × (Int × (Int × (List UInt8))))) : Prop := (caseB (a0.1 != a1.1) ((false : Bool) = (fEqA a0 a1) ∧ True) (caseB (a0.2.1 != a1.2.1) ((false : Bool) = (fEqA a0 a1) ∧ True) (caseB (a0.2.2.1 != a1.2.2.1) ((false : Bool) = (fEqA a0 a1) ∧ True) (caseB (!(a0.2.2.2 == a1.2.2.2)) ((false : Bool) = (fEqA a0 a1) ∧ True) ((true : Bool) = (fEqA a0 a1) ∧ True)))))
def laws_eqAnswer.L  (a0 : (Int × (Int × (Int × (List UInt8))))) (a1 : (Int × (Int × (Int × (List UInt8))))) : Nat → Option LoopAnn := fun p => Go.Proofs.Ytcbehcpmojnnfaa.Bv.look p []

theorem laws_eqAnswer.pure  (a0 : (Int × (Int × (Int × (List UInt8))))) (a1 : (Int × (Int × (Int × (List UInt8))))) (h : True) (hw : Wf c_laws_eqAnswer.A (a0, a1)) : laws_eqAnswer.F a0 a1 := by
  unfold laws_eqAnswer.F
  simp only [and_true, caseB_iff, bne_iff_ne, ne_eq, Bool.not_eq_true', Bool.not_eq_false', beq_iff_eq, beq_eq_false_iff_ne, bne_eq_false_iff_eq]
  obtain ⟨x1, x2, x3, x4⟩ := a0
  obtain ⟨y1, y2, y3, y4⟩ := a1
  simp only [fEqA, Prod.mk.injEq]
  refine ⟨fun h => by simp [h], fun h1 => ⟨fun h => by simp [h], fun h2 => ⟨fun h => by simp [h], fun h3 => ⟨fun h => by simp [h], fun h4 => by simp [h1, h2, h3, h4]⟩⟩⟩⟩

set_option maxRecDepth 100000 in
theorem laws_eqAnswer.eq (i : El c_laws_eqAnswer.I) (x : El c_laws_eqAnswer.A) : vc tab (gam []) (laws_eqAnswer.L x.1 x.2) (match Try.f31.body with | some c => c | none => .skip) 1 (initSt c_laws_eqAnswer Try.f31.ntmps i x) (bodyK tab c_laws_eqAnswer Try.f31.results.toList [4] i x) = laws_eqAnswer.F x.1 x.2 := by kernel_rfl
theorem laws_eqAnswer.ok : ConOk Try.prog 31 c_laws_eqAnswer :=
  conOk_of_vc (con := c_laws_eqAnswer) (tab := tab) (fun i x => laws_eqAnswer.L x.1 x.2) rfl tabOk (gam_nil _) Try.func31 rfl [4] (by decide) fun i x h hi hw => (laws_eqAnswer.eq i x).mpr (laws_eqAnswer.pure x.1 x.2 h hw)

theorem num_zero {s : List UInt8} (h : (fReadVar s).2 = 0) : fNum (s, true) = (0, (s, false)) := by
  unfold fNum; rw [if_neg (by simp [h])]
theorem num_more {s : List UInt8} (h : (fReadVar s).2 ≠ 0) : fNum (s, true) = ((fReadVar s).1, (s.drop (fReadVar s).2.toNat, true)) := by
  have := readVar_bound s
  unfold fNum; rw [if_pos ⟨rfl, by show (fReadVar s).2 > 0; omega⟩]
theorem num_false (s : List UInt8) : fNum (s, false) = (0, (s, false)) := by
  unfold fNum; rw [if_neg (by simp)]

theorem go_step {s : List UInt8} {n : Nat} {p : Int} {out : List Int} (hp : p ≤ (s.length : Int)) (hz : (fReadVar (s.drop p.toNat)).2 ≠ 0) : varsGo s (n + 1) p out = varsGo s n (p + (fReadVar (s.drop p.toNat)).2) (out ++ [(fReadVar (s.drop p.toNat)).1]) := by
  rw [varsGo, if_neg (by omega), if_neg hz]
theorem go_stop {s : List UInt8} {n : Nat} {p : Int} {out : List Int} (hp : p ≤ (s.length : Int)) (hz : (fReadVar (s.drop p.toNat)).2 = 0) : varsGo s (n + 1) p out = (out, -1) := by
  rw [varsGo, if_neg (by omega), if_pos hz]

theorem drop_more {s : List UInt8} {p q : Int} (hp : 0 ≤ p) (hq : 0 ≤ q) : s.drop (p + q).toNat = (s.drop p.toNat).drop q.toNat := by
  rw [List.drop_drop]; congr 1; omega

theorem vars_one {s : List UInt8} (h : (fReadVar s).2 = 0) : (fVars s 0 3).2 = -1 := by
  show (varsGo s 3 0 []).2 = -1
  rw [go_stop (by omega) (by simpa using h)]
theorem vars_two {s s1 : List UInt8} (h : (fReadVar s).2 ≠ 0) (e1 : s1 = s.drop (fReadVar s).2.toNat) (h1 : (fReadVar s1).2 = 0) : (fVars s 0 3).2 = -1 := by
  subst e1
  have b := readVar_bound s
  show (varsGo s 3 0 []).2 = -1
  have d0 : s.drop (0 : Int).toNat = s := rfl
  rw [go_step (by omega) (by rw [d0]; exact h), d0, Int.zero_add, go_stop (by omega) h1]
theorem vars_three {s s1 s2 : List UInt8} (h : (fReadVar s).2 ≠ 0) (e1 : s1 = s.drop (fReadVar s).2.toNat) (h1 : (fReadVar s1).2 ≠ 0) (e2 : s2 = s1.drop (fReadVar s1).2.toNat) (h2 : (fReadVar s2).2 = 0) : (fVars s 0 3).2 = -1 := by
  have b := readVar_bound s
  have b1 := readVar_bound s1
  have l1 : s1.length = s.length - (fReadVar s).2.toNat := by rw [e1]; simp
  show (varsGo s 3 0 []).2 = -1
  have d0 : s.drop (0 : Int).toNat = s := rfl
  rw [go_step (by omega) (by rw [d0]; exact h), d0, Int.zero_add, go_step (by omega) (by rw [← e1]; exact h1), ← e1, go_stop (by omega) (by rw [drop_more (by omega) (by omega), ← e1, ← e2]; exact h2)]
theorem vars_all {s s1 s2 : List UInt8} (h : (fReadVar s).2 ≠ 0) (e1 : s1 = s.drop (fReadVar s).2.toNat) (h1 : (fReadVar s1).2 ≠ 0) (e2 : s2 = s1.drop (fReadVar s1).2.toNat) (h2 : (fReadVar s2).2 ≠ 0) :
    fVars s 0 3 = ([(fReadVar s).1, (fReadVar s1).1, (fReadVar s2).1], (fReadVar s).2 + (fReadVar s1).2 + (fReadVar s2).2) := by
  have b := readVar_bound s
  have b1 := readVar_bound s1
  have l1 : s1.length = s.length - (fReadVar s).2.toNat := by rw [e1]; simp
  show varsGo s 3 0 [] = _
  have d0 : s.drop (0 : Int).toNat = s := rfl
  rw [go_step (by omega) (by rw [d0]; exact h), d0, Int.zero_add, go_step (by omega) (by rw [← e1]; exact h1), ← e1, go_step (by omega) (by rw [drop_more (by omega) (by omega), ← e1, ← e2]; exact h2), drop_more (by omega) (by omega), ← e1, ← e2, varsGo]
  rfl

def c_spec_ReadAnswer : Con := { io := false, I := .unit, A := .str, shA := [.one], R := (.pair (.pair (.int .i64) (.pair (.int .i64) (.pair (.int .i64) .str))) .bool), shR := [(true, 4), (false, 1)], fresh := [], pre := fun _ a => (pRA a), f := fun _ a => ((fRA a), ()) }
def spec_ReadAnswer.F  (a0 : (List UInt8)) : Prop := ((pVars a0 0 3) ∧ ∀ (r1 : ((List Int) × Int) × Unit), r1 = ((fVars a0 0 3), ()) → (caseB (decide (r1.1.2 < (0 : Int))) ((((0, (0, (0, []))), false) : ((Int × (Int × (Int × (List UInt8)))) × Bool)) = (fRA a0) ∧ True) (0 ≤ (0 : Int) ∧ ((0 : Int) < ((List.length r1.1.1 : Nat) : Int) ∧ (0 ≤ (1 : Int) ∧ ((1 : Int) < ((List.length r1.1.1 : Nat) : Int) ∧ (0 ≤ (2 : Int) ∧ ((2 : Int) < ((List.length r1.1.1 : Nat) : Int) ∧ (0 ≤ r1.1.2 ∧ (r1.1.2 ≤ ((List.length a0 : Nat) : Int) ∧ (True ∧ ∀ (r2 : (List UInt8) × Unit), r2 = ((fShow ((List.getD r1.1.1 (Int.toNat (0 : Int)) (0 : Int)), ((List.getD r1.1.1 (Int.toNat (1 : Int)) (0 : Int)), ((List.getD r1.1.1 (Int.toNat (2 : Int)) (0 : Int)), (List.drop (Int.toNat r1.1.2) a0))))), ()) → (caseB (!(r2.1 == a0)) ((((0, (0, (0, []))), false) : ((Int × (Int × (Int × (List UInt8)))) × Bool)) = (fRA a0) ∧ True) (((((List.getD r1.1.1 (Int.toNat (0 : Int)) (0 : Int)), ((List.getD r1.1.1 (Int.toNat (1 : Int)) (0 : Int)), ((List.getD r1.1.1 (Int.toNat (2 : Int)) (0 : Int)), (List.drop (Int.toNat r1.1.2) a0)))), true) : ((Int × (Int × (Int × (List UInt8)))) × Bool)) = (fRA a0) ∧ True)))))))))))))
def spec_ReadAnswer.L  (a0 : (List UInt8)) : Nat → Option LoopAnn := fun p => Go.Proofs.Ytcbehcpmojnnfaa.Bv.look p []

theorem spec_ReadAnswer.pure  (a0 : (List UInt8)) (h : (pRA a0)) (hw : Wf c_spec_ReadAnswer.A a0) : spec_ReadAnswer.F a0 := by
  unfold spec_ReadAnswer.F
  simp only [forall_eq, true_and, and_true, caseB_iff, decide_eq_true_eq, decide_eq_false_iff_not, Bool.not_eq_true', Bool.not_eq_false', beq_iff_eq, beq_eq_false_iff_ne]
  refine ⟨⟨h, by omega, by omega, by omega, by omega⟩, ?_⟩
  by_cases h0 : (fReadVar a0).2 = 0
  · have := vars_one h0
    rw [this]
    exact ⟨fun _ => by simp only [fRA, if_pos h0]; rfl, fun hc => absurd (by omega) hc⟩
  by_cases h1 : (fReadVar (a0.drop (fReadVar a0).2.toNat)).2 = 0
  · have := vars_two h0 rfl h1
    rw [this]
    exact ⟨fun _ => by simp only [fRA, if_neg h0, if_pos h1]; rfl, fun hc => absurd (by omega) hc⟩
  by_cases h2 : (fReadVar ((a0.drop (fReadVar a0).2.toNat).drop (fReadVar (a0.drop (fReadVar a0).2.toNat)).2.toNat)).2 = 0
  · have := vars_three h0 rfl h1 rfl h2
    rw [this]
    exact ⟨fun _ => by simp only [fRA, if_neg h0, if_neg h1, if_pos h2]; rfl, fun hc => absurd (by omega) hc⟩
  have b0 := readVar_bound a0
  generalize e1 : a0.drop (fReadVar a0).2.toNat = s1 at h1 h2
  have b1 := readVar_bound s1
  generalize e2 : s1.drop (fReadVar s1).2.toNat = s2 at h2
  have b2 := readVar_bound s2
  have l1 : s1.length = a0.length - (fReadVar a0).2.toNat := by rw [← e1]; simp
  have l2 : s2.length = s1.length - (fReadVar s1).2.toNat := by rw [← e2]; simp
  rw [vars_all h0 e1.symm h1 e2.symm h2]
  refine ⟨fun hc => absurd hc (by show ¬ (fReadVar a0).2 + (fReadVar s1).2 + (fReadVar s2).2 < 0; omega), fun _ => ⟨by omega, by simp, by omega, by simp, by omega, by simp, by show 0 ≤ (fReadVar a0).2 + (fReadVar s1).2 + (fReadVar s2).2; omega, by show (fReadVar a0).2 + (fReadVar s1).2 + (fReadVar s2).2 ≤ _; omega, ?_⟩⟩
  have hd : a0.drop ((fReadVar a0).2 + (fReadVar s1).2 + (fReadVar s2).2).toNat = s2.drop (fReadVar s2).2.toNat := by
    rw [drop_more (by omega) (by omega), drop_more (by omega) (by omega), e1, e2]
  have hfr : fRA a0 = if fShow ((fReadVar a0).1, (fReadVar s1).1, (fReadVar s2).1, s2.drop (fReadVar s2).2.toNat) = a0 then (((fReadVar a0).1, (fReadVar s1).1, (fReadVar s2).1, s2.drop (fReadVar s2).2.toNat), true) else (zeroAns, false) := by
    simp only [fRA, if_neg h0, e1, if_neg h1, e2, if_neg h2]
  rw [hfr]
  simp only [hd, show ((0 : Int).toNat) = 0 from rfl, show ((1 : Int).toNat) = 1 from rfl, show ((2 : Int).toNat) = 2 from rfl, List.getD_cons_zero, List.getD_cons_succ]
  exact ⟨fun hc => by rw [if_neg hc]; rfl, fun hc => by rw [if_pos hc]⟩

set_option maxRecDepth 100000 in
theorem spec_ReadAnswer.eq (i : El c_spec_ReadAnswer.I) (x : El c_spec_ReadAnswer.A) : vc tab (gam [(22, c_spec_ShowAnswer), (72, c_spec_l13Vars)]) (spec_ReadAnswer.L x) (match Try.f29.body with | some c => c | none => .skip) 1 (initSt c_spec_ReadAnswer Try.f29.ntmps i x) (bodyK tab c_spec_ReadAnswer Try.f29.results.toList [28, 4] i x) = spec_ReadAnswer.F x := by kernel_rfl
theorem spec_ReadAnswer.ok : ConOk Try.prog 29 c_spec_ReadAnswer :=
  conOk_of_vc (con := c_spec_ReadAnswer) (tab := tab) (fun i x => spec_ReadAnswer.L x) rfl tabOk (gam_cons ⟨_, Try.func22, rfl, rfl⟩ spec_ShowAnswer.ok (gam_cons ⟨_, Try.func72, rfl, rfl⟩ spec_l13Vars.ok (gam_nil _))) Try.func29 rfl [28, 4] (by decide) fun i x h hi hw => (spec_ReadAnswer.eq i x).mpr (spec_ReadAnswer.pure x h hw)

def c_impl_ReadAnswer : Con := { io := false, I := .unit, A := .str, shA := [.one], R := (.pair (.pair (.int .i64) (.pair (.int .i64) (.pair (.int .i64) .str))) .bool), shR := [(true, 4), (false, 1)], fresh := [], pre := fun _ a => True, f := fun _ a => ((fRA a), ()) }
def impl_ReadAnswer.F  (a0 : (List UInt8)) : Prop := (True ∧ ∀ (r1 : Int × ((List UInt8) × Bool)), r1 = (fNum (a0, true)) → (True ∧ ∀ (r2 : Int × ((List UInt8) × Bool)), r2 = (fNum (r1.2.1, r1.2.2)) → (True ∧ ∀ (r3 : Int × ((List UInt8) × Bool)), r3 = (fNum (r2.2.1, r2.2.2)) → (caseB (!r3.2.2) ((((0, (0, (0, []))), false) : ((Int × (Int × (Int × (List UInt8)))) × Bool)) = (fRA a0) ∧ True) (True ∧ ∀ (r4 : (List UInt8) × Unit), r4 = ((fShow (r1.1, (r2.1, (r3.1, r3.2.1)))), ()) → (caseB (!(r4.1 == a0)) ((((0, (0, (0, []))), false) : ((Int × (Int × (Int × (List UInt8)))) × Bool)) = (fRA a0) ∧ True) ((((r1.1, (r2.1, (r3.1, r3.2.1))), true) : ((Int × (Int × (Int × (List UInt8)))) × Bool)) = (fRA a0) ∧ True)))))))
def impl_ReadAnswer.L  (a0 : (List UInt8)) : Nat → Option LoopAnn := fun p => Go.Proofs.Ytcbehcpmojnnfaa.Bv.look p []

theorem impl_ReadAnswer.pure  (a0 : (List UInt8)) (h : True) (hw : Wf c_impl_ReadAnswer.A a0) : impl_ReadAnswer.F a0 := by
  unfold impl_ReadAnswer.F
  simp only [forall_eq, true_and, and_true, caseB_iff, Bool.not_eq_true', Bool.not_eq_false', beq_iff_eq, beq_eq_false_iff_ne]
  by_cases h0 : (fReadVar a0).2 = 0
  · simp only [num_zero h0, num_false]
    exact ⟨fun _ => by simp only [fRA, if_pos h0]; rfl, fun hc => absurd hc (by simp)⟩
  simp only [num_more h0]
  by_cases h1 : (fReadVar (a0.drop (fReadVar a0).2.toNat)).2 = 0
  · simp only [num_zero h1, num_false]
    exact ⟨fun _ => by simp only [fRA, if_neg h0, if_pos h1]; rfl, fun hc => absurd hc (by simp)⟩
  simp only [num_more h1]
  by_cases h2 : (fReadVar ((a0.drop (fReadVar a0).2.toNat).drop (fReadVar (a0.drop (fReadVar a0).2.toNat)).2.toNat)).2 = 0
  · simp only [num_zero h2]
    exact ⟨fun _ => by simp only [fRA, if_neg h0, if_neg h1, if_pos h2]; rfl, fun hc => absurd hc (by simp)⟩
  simp only [num_more h2]
  refine ⟨fun hc => absurd hc (by simp), fun _ => ?_⟩
  simp only [fRA, if_neg h0, if_neg h1, if_neg h2]
  exact ⟨fun hc => by rw [if_neg hc]; rfl, fun hc => by rw [if_pos hc]⟩

set_option maxRecDepth 100000 in
theorem impl_ReadAnswer.eq (i : El c_impl_ReadAnswer.I) (x : El c_impl_ReadAnswer.A) : vc tab (gam [(23, c_impl_ShowAnswer), (73, c_impl_rd_num)]) (impl_ReadAnswer.L x) (match Try.f30.body with | some c => c | none => .skip) 1 (initSt c_impl_ReadAnswer Try.f30.ntmps i x) (bodyK tab c_impl_ReadAnswer Try.f30.results.toList [28, 4] i x) = impl_ReadAnswer.F x := by kernel_rfl
theorem impl_ReadAnswer.ok : ConOk Try.prog 30 c_impl_ReadAnswer :=
  conOk_of_vc (con := c_impl_ReadAnswer) (tab := tab) (fun i x => impl_ReadAnswer.L x) rfl tabOk (gam_cons ⟨_, Try.func23, rfl, rfl⟩ impl_ShowAnswer.ok (gam_cons ⟨_, Try.func73, rfl, rfl⟩ impl_rd_num.ok (gam_nil _))) Try.func30 rfl [28, 4] (by decide) fun i x h hi hw => (impl_ReadAnswer.eq i x).mpr (impl_ReadAnswer.pure x h hw)

def laws_FnExactReadAnswer.F  (a0 : (List UInt8)) : Prop := (caseB (decide (((List.length a0 : Nat) : Int) > (1048576 : Int))) ((true : Bool) = true ∧ True) ((pRA a0) ∧ ∀ (r1 : ((Int × (Int × (Int × (List UInt8)))) × Bool) × Unit), r1 = ((fRA a0), ()) → (True ∧ ∀ (r2 : ((Int × (Int × (Int × (List UInt8)))) × Bool) × Unit), r2 = ((fRA a0), ()) → (True ∧ ∀ (r3 : Bool × Unit), r3 = ((fEqA (r2.1.1.1, (r2.1.1.2.1, (r2.1.1.2.2.1, r2.1.1.2.2.2))) (r1.1.1.1, (r1.1.1.2.1, (r1.1.1.2.2.1, r1.1.1.2.2.2)))), ()) → (caseB (!r3.1) ((false : Bool) = true ∧ True) (caseB (!(r2.1.2 == r1.1.2)) ((false : Bool) = true ∧ True) ((true : Bool) = true ∧ True)))))))
def laws_FnExactReadAnswer.L  (a0 : (List UInt8)) : Nat → Option LoopAnn := fun p => Go.Proofs.Ytcbehcpmojnnfaa.Bv.look p []

theorem laws_FnExactReadAnswer.pure  (a0 : (List UInt8)) (h : WfD .str a0) (hw : Wf (lawCon .str [.one]).A a0) : laws_FnExactReadAnswer.F a0 := by
  unfold laws_FnExactReadAnswer.F
  simp only [forall_eq, true_and, and_true, caseB_iff, decide_eq_true_eq, decide_eq_false_iff_not, Bool.not_eq_true', Bool.not_eq_false']
  refine ⟨fun _ => trivial, fun _ => ⟨h, fun hc => ?_, fun _ => ⟨fun hc => ?_, fun _ => trivial⟩⟩⟩
  · simp [fEqA] at hc
  · simp at hc

set_option maxRecDepth 100000 in
theorem laws_FnExactReadAnswer.eq (i : El (lawCon .str [.one]).I) (x : El (lawCon .str [.one]).A) : vc tab (gam [(29, c_spec_ReadAnswer), (30, c_impl_ReadAnswer), (31, c_laws_eqAnswer)]) (laws_FnExactReadAnswer.L x) (match Try.f7.body with | some c => c | none => .skip) 1 (initSt (lawCon .str [.one]) Try.f7.ntmps i x) (bodyK tab (lawCon .str [.one]) Try.f7.results.toList [4] i x) = laws_FnExactReadAnswer.F x := by kernel_rfl
theorem laws_FnExactReadAnswer.ok : ConOk Try.prog 7 (lawCon .str [.one]) :=
  conOk_of_vc (con := (lawCon .str [.one])) (tab := tab) (fun i x => laws_FnExactReadAnswer.L x) rfl tabOk (gam_cons ⟨_, Try.func29, rfl, rfl⟩ spec_ReadAnswer.ok (gam_cons ⟨_, Try.func30, rfl, rfl⟩ impl_ReadAnswer.ok (gam_cons ⟨_, Try.func31, rfl, rfl⟩ laws_eqAnswer.ok (gam_nil _)))) Try.func7 rfl [4] (by decide) fun i x h hi hw => (laws_FnExactReadAnswer.eq i x).mpr (laws_FnExactReadAnswer.pure x h hw)

end Go.Proofs.Ytcbehcpmojnnfaa.B
