/- Answers: are they right, and how are they shown? -/
import Derived.Test.YtcbehcpmojnnfaaBNum
namespace Go.Proofs.Ytcbehcpmojnnfaa.B
set_option linter.unusedVariables false
set_option linter.unusedSimpArgs false
open Go Go.Proofs.Ytcbehcpmojnnfaa.Bv

abbrev Ans := Int × Int × Int × List UInt8
def fSz (a : Ans) (l : Int) : Int := if l - (a.2.2.2.length : Int) < 0 then -1 else l - (a.2.2.2.length : Int)
def pSz (a : Ans) (l : Int) : Prop := a.2.2.2.length ≤ maxLen ∧ 0 ≤ l ∧ l ≤ 1048576
def fTo (a : Ans) : Ans := a
def fAnswerOk (a : Ans) : Bool := fIn a.1 0 4 && fIn a.2.1 0 100000 && fIn a.2.2.1 0 1099511627776 && decide ((a.2.2.2.length : Int) ≤ 900)
def fShow (a : Ans) : List UInt8 := if fAnswerOk a then fVar a.1 ++ fVar a.2.1 ++ fVar a.2.2.1 ++ a.2.2.2 else []

def c_laws_szAnswer : Con := { io := false, I := .unit, A := (.pair (.pair (.int .i64) (.pair (.int .i64) (.pair (.int .i64) .str))) (.int .i64)), shA := [.agg 4, .one], R := (.int .i64), shR := [(false, 1)], fresh := [], pre := fun _ a => (pSz a.1 a.2), f := fun _ a => ((fSz a.1 a.2), ()) }
def laws_szAnswer.F  (a0 : (Int × (Int × (Int × (List UInt8))))) (a1 : Int) : Prop := (caseB (decide ((IntKind.wrap .i64 (a1 - ((List.length a0.2.2.2 : Nat) : Int))) < (0 : Int))) (((-1) : Int) = (fSz a0 a1) ∧ True) (((IntKind.wrap .i64 (a1 - ((List.length a0.2.2.2 : Nat) : Int))) : Int) = (fSz a0 a1) ∧ True))
def laws_szAnswer.L  (a0 : (Int × (Int × (Int × (List UInt8))))) (a1 : Int) : Nat → Option LoopAnn := fun p => Go.Proofs.Ytcbehcpmojnnfaa.Bv.look p []

theorem laws_szAnswer.pure  (a0 : (Int × (Int × (Int × (List UInt8))))) (a1 : Int) (h : (pSz a0 a1)) (hw : Wf c_laws_szAnswer.A (a0, a1)) : laws_szAnswer.F a0 a1 := by
  unfold laws_szAnswer.F
  obtain ⟨h1, h2, h3⟩ := h
  unfold maxLen at h1
  have e : IntKind.wrap .i64 (a1 - ((List.length a0.2.2.2 : Nat) : Int)) = a1 - ((List.length a0.2.2.2 : Nat) : Int) := Go.IntWalk.i64_in _ (by omega)
  simp only [e, caseB_iff, and_true, decide_eq_true_eq, decide_eq_false_iff_not]
  exact ⟨fun h => by simp [fSz, h], fun h => by simp [fSz, h]⟩

set_option maxRecDepth 100000 in
theorem laws_szAnswer.eq (i : El c_laws_szAnswer.I) (x : El c_laws_szAnswer.A) : vc tab (gam []) (laws_szAnswer.L x.1 x.2) (match Try.f18.body with | some c => c | none => .skip) 1 (initSt c_laws_szAnswer Try.f18.ntmps i x) (bodyK tab c_laws_szAnswer Try.f18.results.toList [3] i x) = laws_szAnswer.F x.1 x.2 := by kernel_rfl
theorem laws_szAnswer.ok : ConOk Try.prog 18 c_laws_szAnswer :=
  conOk_of_vc (con := c_laws_szAnswer) (tab := tab) (fun i x => laws_szAnswer.L x.1 x.2) rfl tabOk (gam_nil _) Try.func18 rfl [3] (by decide) fun i x h hi hw => (laws_szAnswer.eq i x).mpr (laws_szAnswer.pure x.1 x.2 h hw)

def c_laws_toAnswer : Con := { io := false, I := .unit, A := (.pair (.int .i64) (.pair (.int .i64) (.pair (.int .i64) .str))), shA := [.agg 4], R := (.pair (.int .i64) (.pair (.int .i64) (.pair (.int .i64) .str))), shR := [(true, 4)], fresh := [], pre := fun _ a => True, f := fun _ a => ((fTo a), ()) }
def laws_toAnswer.F  (a0 : (Int × (Int × (Int × (List UInt8))))) : Prop := (((a0.1, (a0.2.1, (a0.2.2.1, a0.2.2.2))) : (Int × (Int × (Int × (List UInt8))))) = (fTo a0) ∧ True)
def laws_toAnswer.L  (a0 : (Int × (Int × (Int × (List UInt8))))) : Nat → Option LoopAnn := fun p => Go.Proofs.Ytcbehcpmojnnfaa.Bv.look p []

theorem laws_toAnswer.pure  (a0 : (Int × (Int × (Int × (List UInt8))))) (h : True) (hw : Wf c_laws_toAnswer.A a0) : laws_toAnswer.F a0 := by
  unfold laws_toAnswer.F
  exact ⟨rfl, trivial⟩

set_option maxRecDepth 100000 in
theorem laws_toAnswer.eq (i : El c_laws_toAnswer.I) (x : El c_laws_toAnswer.A) : vc tab (gam []) (laws_toAnswer.L x) (match Try.f20.body with | some c => c | none => .skip) 1 (initSt c_laws_toAnswer Try.f20.ntmps i x) (bodyK tab c_laws_toAnswer Try.f20.results.toList [28] i x) = laws_toAnswer.F x := by kernel_rfl
theorem laws_toAnswer.ok : ConOk Try.prog 20 c_laws_toAnswer :=
  conOk_of_vc (con := c_laws_toAnswer) (tab := tab) (fun i x => laws_toAnswer.L x) rfl tabOk (gam_nil _) Try.func20 rfl [28] (by decide) fun i x h hi hw => (laws_toAnswer.eq i x).mpr (laws_toAnswer.pure x h hw)

def c_spec_AnswerOk : Con := { io := false, I := .unit, A := (.pair (.int .i64) (.pair (.int .i64) (.pair (.int .i64) .str))), shA := [.agg 4], R := .bool, shR := [(false, 1)], fresh := [], pre := fun _ a => True, f := fun _ a => ((fAnswerOk a), ()) }
def spec_AnswerOk.F  (a0 : (Int × (Int × (Int × (List UInt8))))) : Prop := (True ∧ ∀ (r1 : Bool × Unit), r1 = ((fIn a0.1 0 4), ()) → (caseB r1.1 (True ∧ ∀ (r2 : Bool × Unit), r2 = ((fIn a0.2.1 0 100000), ()) → (caseB r2.1 (True ∧ ∀ (r3 : Bool × Unit), r3 = ((fIn a0.2.2.1 0 1099511627776), ()) → (caseB r3.1 (((decide (((List.length a0.2.2.2 : Nat) : Int) ≤ (900 : Int))) : Bool) = (fAnswerOk a0) ∧ True) ((false : Bool) = (fAnswerOk a0) ∧ True))) ((false : Bool) = (fAnswerOk a0) ∧ True))) ((false : Bool) = (fAnswerOk a0) ∧ True)))
def spec_AnswerOk.L  (a0 : (Int × (Int × (Int × (List UInt8))))) : Nat → Option LoopAnn := fun p => Go.Proofs.Ytcbehcpmojnnfaa.Bv.look p []

theorem spec_AnswerOk.pure  (a0 : (Int × (Int × (Int × (List UInt8))))) (h : True) (hw : Wf c_spec_AnswerOk.A a0) : spec_AnswerOk.F a0 := by
  unfold spec_AnswerOk.F
  simp only [forall_eq, true_and, and_true, caseB_iff]
  refine ⟨fun h1 => ⟨fun h2 => ⟨fun h3 => ?_, fun h3 => ?_⟩, fun h2 => ?_⟩, fun h1 => ?_⟩ <;> (try simp only [fTime] at h3) <;> simp [fAnswerOk, *]

set_option maxRecDepth 100000 in
theorem spec_AnswerOk.eq (i : El c_spec_AnswerOk.I) (x : El c_spec_AnswerOk.A) : vc tab (gam [(67, c_spec_l1In)]) (spec_AnswerOk.L x) (match Try.f19.body with | some c => c | none => .skip) 1 (initSt c_spec_AnswerOk Try.f19.ntmps i x) (bodyK tab c_spec_AnswerOk Try.f19.results.toList [4] i x) = spec_AnswerOk.F x := by kernel_rfl
theorem spec_AnswerOk.ok : ConOk Try.prog 19 c_spec_AnswerOk :=
  conOk_of_vc (con := c_spec_AnswerOk) (tab := tab) (fun i x => spec_AnswerOk.L x) rfl tabOk (gam_cons ⟨_, Try.func67, rfl, rfl⟩ spec_l1In.ok (gam_nil _)) Try.func19 rfl [4] (by decide) fun i x h hi hw => (spec_AnswerOk.eq i x).mpr (spec_AnswerOk.pure x h hw)

def c_impl_AnswerOk : Con := { io := false, I := .unit, A := (.pair (.int .i64) (.pair (.int .i64) (.pair (.int .i64) .str))), shA := [.agg 4], R := .bool, shR := [(false, 1)], fresh := [], pre := fun _ a => True, f := fun _ a => ((fAnswerOk a), ()) }
def impl_AnswerOk.F  (a0 : (Int × (Int × (Int × (List UInt8))))) : Prop := (True ∧ ∀ (r1 : Bool × Unit), r1 = ((fIn a0.1 0 4), ()) → (caseB r1.1 (True ∧ ∀ (r2 : Bool × Unit), r2 = ((fIn a0.2.1 0 100000), ()) → (caseB r2.1 (True ∧ ∀ (r3 : Bool × Unit), r3 = ((fTime a0.2.2.1), ()) → (caseB r3.1 (((decide (((List.length a0.2.2.2 : Nat) : Int) ≤ (900 : Int))) : Bool) = (fAnswerOk a0) ∧ True) ((false : Bool) = (fAnswerOk a0) ∧ True))) ((false : Bool) = (fAnswerOk a0) ∧ True))) ((false : Bool) = (fAnswerOk a0) ∧ True)))
def impl_AnswerOk.L  (a0 : (Int × (Int × (Int × (List UInt8))))) : Nat → Option LoopAnn := fun p => Go.Proofs.Ytcbehcpmojnnfaa.Bv.look p []

theorem impl_AnswerOk.pure  (a0 : (Int × (Int × (Int × (List UInt8))))) (h : True) (hw : Wf c_impl_AnswerOk.A a0) : impl_AnswerOk.F a0 := by
  unfold impl_AnswerOk.F
  simp only [forall_eq, true_and, and_true, caseB_iff]
  refine ⟨fun h1 => ⟨fun h2 => ⟨fun h3 => ?_, fun h3 => ?_⟩, fun h2 => ?_⟩, fun h1 => ?_⟩ <;> (try simp only [fTime] at h3) <;> simp [fAnswerOk, *]

set_option maxRecDepth 100000 in
theorem impl_AnswerOk.eq (i : El c_impl_AnswerOk.I) (x : El c_impl_AnswerOk.A) : vc tab (gam [(68, c_impl_from), (69, c_impl_isTime)]) (impl_AnswerOk.L x) (match Try.f21.body with | some c => c | none => .skip) 1 (initSt c_impl_AnswerOk Try.f21.ntmps i x) (bodyK tab c_impl_AnswerOk Try.f21.results.toList [4] i x) = impl_AnswerOk.F x := by kernel_rfl
theorem impl_AnswerOk.ok : ConOk Try.prog 21 c_impl_AnswerOk :=
  conOk_of_vc (con := c_impl_AnswerOk) (tab := tab) (fun i x => impl_AnswerOk.L x) rfl tabOk (gam_cons ⟨_, Try.func68, rfl, rfl⟩ impl_from.ok (gam_cons ⟨_, Try.func69, rfl, rfl⟩ impl_isTime.ok (gam_nil _))) Try.func21 rfl [4] (by decide) fun i x h hi hw => (impl_AnswerOk.eq i x).mpr (impl_AnswerOk.pure x h hw)

def c_spec_ShowAnswer : Con := { io := false, I := .unit, A := (.pair (.int .i64) (.pair (.int .i64) (.pair (.int .i64) .str))), shA := [.agg 4], R := .str, shR := [(false, 1)], fresh := [], pre := fun _ a => True, f := fun _ a => ((fShow a), ()) }
def spec_ShowAnswer.F  (a0 : (Int × (Int × (Int × (List UInt8))))) : Prop := (True ∧ ∀ (r1 : Bool × Unit), r1 = ((fAnswerOk (a0.1, (a0.2.1, (a0.2.2.1, a0.2.2.2)))), ()) → (caseB (!r1.1) (([] : (List UInt8)) = (fShow a0) ∧ True) (True ∧ ∀ (r2 : (List UInt8) × Unit), r2 = ((fVar a0.1), ()) → (True ∧ ∀ (r3 : (List UInt8) × Unit), r3 = ((fVar a0.2.1), ()) → (List.length r2.1 + List.length r3.1 ≤ 9223372036854775807 ∧ (True ∧ ∀ (r4 : (List UInt8) × Unit), r4 = ((fVar a0.2.2.1), ()) → (List.length (r2.1 ++ r3.1) + List.length r4.1 ≤ 9223372036854775807 ∧ (List.length ((r2.1 ++ r3.1) ++ r4.1) + List.length a0.2.2.2 ≤ 9223372036854775807 ∧ (((((r2.1 ++ r3.1) ++ r4.1) ++ a0.2.2.2) : (List UInt8)) = (fShow a0) ∧ True)))))))))
def spec_ShowAnswer.L  (a0 : (Int × (Int × (Int × (List UInt8))))) : Nat → Option LoopAnn := fun p => Go.Proofs.Ytcbehcpmojnnfaa.Bv.look p []

theorem spec_ShowAnswer.pure  (a0 : (Int × (Int × (Int × (List UInt8))))) (h : True) (hw : Wf c_spec_ShowAnswer.A a0) : spec_ShowAnswer.F a0 := by
  unfold spec_ShowAnswer.F
  simp only [forall_eq, true_and, and_true, caseB_iff, Bool.not_eq_true', Bool.not_eq_false', List.length_append]
  refine ⟨fun h1 => by simp [fShow, show fAnswerOk a0 = false from h1], fun h1 => ?_⟩
  have h2 : fAnswerOk a0 = true := h1
  have h3 : a0.2.2.2.length ≤ 900 := by
    simp only [fAnswerOk, Bool.and_eq_true, decide_eq_true_eq] at h2
    omega
  have l1 := fVar_length a0.1
  have l2 := fVar_length a0.2.1
  have l3 := fVar_length a0.2.2.1
  refine ⟨by omega, by omega, by omega, by simp [fShow, h2]⟩

set_option maxRecDepth 100000 in
theorem spec_ShowAnswer.eq (i : El c_spec_ShowAnswer.I) (x : El c_spec_ShowAnswer.A) : vc tab (gam [(19, c_spec_AnswerOk), (70, c_spec_Var)]) (spec_ShowAnswer.L x) (match Try.f22.body with | some c => c | none => .skip) 1 (initSt c_spec_ShowAnswer Try.f22.ntmps i x) (bodyK tab c_spec_ShowAnswer Try.f22.results.toList [9] i x) = spec_ShowAnswer.F x := by kernel_rfl
theorem spec_ShowAnswer.ok : ConOk Try.prog 22 c_spec_ShowAnswer :=
  conOk_of_vc (con := c_spec_ShowAnswer) (tab := tab) (fun i x => spec_ShowAnswer.L x) rfl tabOk (gam_cons ⟨_, Try.func19, rfl, rfl⟩ spec_AnswerOk.ok (gam_cons ⟨_, Try.func70, rfl, rfl⟩ spec_Var.ok (gam_nil _))) Try.func22 rfl [9] (by decide) fun i x h hi hw => (spec_ShowAnswer.eq i x).mpr (spec_ShowAnswer.pure x h hw)

def c_impl_ShowAnswer : Con := { io := false, I := .unit, A := (.pair (.int .i64) (.pair (.int .i64) (.pair (.int .i64) .str))), shA := [.agg 4], R := .str, shR := [(false, 1)], fresh := [], pre := fun _ a => True, f := fun _ a => ((fShow a), ()) }
def impl_ShowAnswer.F  (a0 : (Int × (Int × (Int × (List UInt8))))) : Prop := (True ∧ ∀ (r1 : Bool × Unit), r1 = ((fAnswerOk (a0.1, (a0.2.1, (a0.2.2.1, a0.2.2.2)))), ()) → (caseB (!r1.1) (([] : (List UInt8)) = (fShow a0) ∧ True) (True ∧ ∀ (r2 : (List UInt8) × Unit), r2 = ((fVar a0.1), ()) → (True ∧ ∀ (r3 : (List UInt8) × Unit), r3 = ((fVar a0.2.1), ()) → (List.length r2.1 + List.length r3.1 ≤ 9223372036854775807 ∧ (True ∧ ∀ (r4 : (List UInt8) × Unit), r4 = ((fVar a0.2.2.1), ()) → (List.length (r2.1 ++ r3.1) + List.length r4.1 ≤ 9223372036854775807 ∧ (List.length ((r2.1 ++ r3.1) ++ r4.1) + List.length a0.2.2.2 ≤ 9223372036854775807 ∧ (((((r2.1 ++ r3.1) ++ r4.1) ++ a0.2.2.2) : (List UInt8)) = (fShow a0) ∧ True)))))))))
def impl_ShowAnswer.L  (a0 : (Int × (Int × (Int × (List UInt8))))) : Nat → Option LoopAnn := fun p => Go.Proofs.Ytcbehcpmojnnfaa.Bv.look p []

theorem impl_ShowAnswer.pure  (a0 : (Int × (Int × (Int × (List UInt8))))) (h : True) (hw : Wf c_impl_ShowAnswer.A a0) : impl_ShowAnswer.F a0 := by
  unfold impl_ShowAnswer.F
  simp only [forall_eq, true_and, and_true, caseB_iff, Bool.not_eq_true', Bool.not_eq_false', List.length_append]
  refine ⟨fun h1 => by simp [fShow, show fAnswerOk a0 = false from h1], fun h1 => ?_⟩
  have h2 : fAnswerOk a0 = true := h1
  have h3 : a0.2.2.2.length ≤ 900 := by
    simp only [fAnswerOk, Bool.and_eq_true, decide_eq_true_eq] at h2
    omega
  have l1 := fVar_length a0.1
  have l2 := fVar_length a0.2.1
  have l3 := fVar_length a0.2.2.1
  refine ⟨by omega, by omega, by omega, by simp [fShow, h2]⟩

set_option maxRecDepth 100000 in
theorem impl_ShowAnswer.eq (i : El c_impl_ShowAnswer.I) (x : El c_impl_ShowAnswer.A) : vc tab (gam [(21, c_impl_AnswerOk), (71, c_impl_Var)]) (impl_ShowAnswer.L x) (match Try.f23.body with | some c => c | none => .skip) 1 (initSt c_impl_ShowAnswer Try.f23.ntmps i x) (bodyK tab c_impl_ShowAnswer Try.f23.results.toList [9] i x) = impl_ShowAnswer.F x := by kernel_rfl
theorem impl_ShowAnswer.ok : ConOk Try.prog 23 c_impl_ShowAnswer :=
  conOk_of_vc (con := c_impl_ShowAnswer) (tab := tab) (fun i x => impl_ShowAnswer.L x) rfl tabOk (gam_cons ⟨_, Try.func21, rfl, rfl⟩ impl_AnswerOk.ok (gam_cons ⟨_, Try.func71, rfl, rfl⟩ impl_Var.ok (gam_nil _))) Try.func23 rfl [9] (by decide) fun i x h hi hw => (impl_ShowAnswer.eq i x).mpr (impl_ShowAnswer.pure x h hw)

def laws_FnExactAnswerOk.F  (a0 : (Int × (Int × (Int × (List UInt8))))) : Prop := ((pSz (a0.1, (a0.2.1, (a0.2.2.1, a0.2.2.2))) 1048576) ∧ ∀ (r1 : Int × Unit), r1 = ((fSz (a0.1, (a0.2.1, (a0.2.2.1, a0.2.2.2))) 1048576), ()) → (caseB (decide (r1.1 < (0 : Int))) ((true : Bool) = true ∧ True) (True ∧ ∀ (r2 : (Int × (Int × (Int × (List UInt8)))) × Unit), r2 = ((fTo (a0.1, (a0.2.1, (a0.2.2.1, a0.2.2.2)))), ()) → (True ∧ ∀ (r3 : Bool × Unit), r3 = ((fAnswerOk (r2.1.1, (r2.1.2.1, (r2.1.2.2.1, r2.1.2.2.2)))), ()) → (True ∧ ∀ (r4 : (Int × (Int × (Int × (List UInt8)))) × Unit), r4 = ((fTo (a0.1, (a0.2.1, (a0.2.2.1, a0.2.2.2)))), ()) → (True ∧ ∀ (r5 : Bool × Unit), r5 = ((fAnswerOk (r4.1.1, (r4.1.2.1, (r4.1.2.2.1, r4.1.2.2.2)))), ()) → (caseB (!(r5.1 == r3.1)) ((false : Bool) = true ∧ True) ((true : Bool) = true ∧ True))))))))
def laws_FnExactAnswerOk.L  (a0 : (Int × (Int × (Int × (List UInt8))))) : Nat → Option LoopAnn := fun p => Go.Proofs.Ytcbehcpmojnnfaa.Bv.look p []

theorem laws_FnExactAnswerOk.pure  (a0 : (Int × (Int × (Int × (List UInt8))))) (h : WfD (.pair (.int .i64) (.pair (.int .i64) (.pair (.int .i64) .str))) a0) (hw : Wf (lawCon (.pair (.int .i64) (.pair (.int .i64) (.pair (.int .i64) .str))) [.agg 4]).A a0) : laws_FnExactAnswerOk.F a0 := by
  unfold laws_FnExactAnswerOk.F
  simp only [forall_eq, true_and, and_true, caseB_iff]
  refine ⟨⟨h.2.2.2, by omega, by omega⟩, fun _ => trivial, fun _ => ⟨fun h => ?_, fun _ => trivial⟩⟩
  simp [fTo] at h

set_option maxRecDepth 100000 in
theorem laws_FnExactAnswerOk.eq (i : El (lawCon (.pair (.int .i64) (.pair (.int .i64) (.pair (.int .i64) .str))) [.agg 4]).I) (x : El (lawCon (.pair (.int .i64) (.pair (.int .i64) (.pair (.int .i64) .str))) [.agg 4]).A) : vc tab (gam [(18, c_laws_szAnswer), (19, c_spec_AnswerOk), (20, c_laws_toAnswer), (21, c_impl_AnswerOk)]) (laws_FnExactAnswerOk.L x) (match Try.f4.body with | some c => c | none => .skip) 1 (initSt (lawCon (.pair (.int .i64) (.pair (.int .i64) (.pair (.int .i64) .str))) [.agg 4]) Try.f4.ntmps i x) (bodyK tab (lawCon (.pair (.int .i64) (.pair (.int .i64) (.pair (.int .i64) .str))) [.agg 4]) Try.f4.results.toList [4] i x) = laws_FnExactAnswerOk.F x := by kernel_rfl
theorem laws_FnExactAnswerOk.ok : ConOk Try.prog 4 (lawCon (.pair (.int .i64) (.pair (.int .i64) (.pair (.int .i64) .str))) [.agg 4]) :=
  conOk_of_vc (con := (lawCon (.pair (.int .i64) (.pair (.int .i64) (.pair (.int .i64) .str))) [.agg 4])) (tab := tab) (fun i x => laws_FnExactAnswerOk.L x) rfl tabOk (gam_cons ⟨_, Try.func18, rfl, rfl⟩ laws_szAnswer.ok (gam_cons ⟨_, Try.func19, rfl, rfl⟩ spec_AnswerOk.ok (gam_cons ⟨_, Try.func20, rfl, rfl⟩ laws_toAnswer.ok (gam_cons ⟨_, Try.func21, rfl, rfl⟩ impl_AnswerOk.ok (gam_nil _))))) Try.func4 rfl [4] (by decide) fun i x h hi hw => (laws_FnExactAnswerOk.eq i x).mpr (laws_FnExactAnswerOk.pure x h hw)

def laws_FnExactShowAnswer.F  (a0 : (Int × (Int × (Int × (List UInt8))))) : Prop := ((pSz (a0.1, (a0.2.1, (a0.2.2.1, a0.2.2.2))) 1048576) ∧ ∀ (r1 : Int × Unit), r1 = ((fSz (a0.1, (a0.2.1, (a0.2.2.1, a0.2.2.2))) 1048576), ()) → (caseB (decide (r1.1 < (0 : Int))) ((true : Bool) = true ∧ True) (True ∧ ∀ (r2 : (Int × (Int × (Int × (List UInt8)))) × Unit), r2 = ((fTo (a0.1, (a0.2.1, (a0.2.2.1, a0.2.2.2)))), ()) → (True ∧ ∀ (r3 : (List UInt8) × Unit), r3 = ((fShow (r2.1.1, (r2.1.2.1, (r2.1.2.2.1, r2.1.2.2.2)))), ()) → (True ∧ ∀ (r4 : (Int × (Int × (Int × (List UInt8)))) × Unit), r4 = ((fTo (a0.1, (a0.2.1, (a0.2.2.1, a0.2.2.2)))), ()) → (True ∧ ∀ (r5 : (List UInt8) × Unit), r5 = ((fShow (r4.1.1, (r4.1.2.1, (r4.1.2.2.1, r4.1.2.2.2)))), ()) → (caseB (!(r5.1 == r3.1)) ((false : Bool) = true ∧ True) ((true : Bool) = true ∧ True))))))))
def laws_FnExactShowAnswer.L  (a0 : (Int × (Int × (Int × (List UInt8))))) : Nat → Option LoopAnn := fun p => Go.Proofs.Ytcbehcpmojnnfaa.Bv.look p []

theorem laws_FnExactShowAnswer.pure  (a0 : (Int × (Int × (Int × (List UInt8))))) (h : WfD (.pair (.int .i64) (.pair (.int .i64) (.pair (.int .i64) .str))) a0) (hw : Wf (lawCon (.pair (.int .i64) (.pair (.int .i64) (.pair (.int .i64) .str))) [.agg 4]).A a0) : laws_FnExactShowAnswer.F a0 := by
  unfold laws_FnExactShowAnswer.F
  simp only [forall_eq, true_and, and_true, caseB_iff]
  refine ⟨⟨h.2.2.2, by omega, by omega⟩, fun _ => trivial, fun _ => ⟨fun h => ?_, fun _ => trivial⟩⟩
  simp [fTo] at h

set_option maxRecDepth 100000 in
theorem laws_FnExactShowAnswer.eq (i : El (lawCon (.pair (.int .i64) (.pair (.int .i64) (.pair (.int .i64) .str))) [.agg 4]).I) (x : El (lawCon (.pair (.int .i64) (.pair (.int .i64) (.pair (.int .i64) .str))) [.agg 4]).A) : vc tab (gam [(18, c_laws_szAnswer), (20, c_laws_toAnswer), (22, c_spec_ShowAnswer), (23, c_impl_ShowAnswer)]) (laws_FnExactShowAnswer.L x) (match Try.f5.body with | some c => c | none => .skip) 1 (initSt (lawCon (.pair (.int .i64) (.pair (.int .i64) (.pair (.int .i64) .str))) [.agg 4]) Try.f5.ntmps i x) (bodyK tab (lawCon (.pair (.int .i64) (.pair (.int .i64) (.pair (.int .i64) .str))) [.agg 4]) Try.f5.results.toList [4] i x) = laws_FnExactShowAnswer.F x := by kernel_rfl
theorem laws_FnExactShowAnswer.ok : ConOk Try.prog 5 (lawCon (.pair (.int .i64) (.pair (.int .i64) (.pair (.int .i64) .str))) [.agg 4]) :=
  conOk_of_vc (con := (lawCon (.pair (.int .i64) (.pair (.int .i64) (.pair (.int .i64) .str))) [.agg 4])) (tab := tab) (fun i x => laws_FnExactShowAnswer.L x) rfl tabOk (gam_cons ⟨_, Try.func18, rfl, rfl⟩ laws_szAnswer.ok (gam_cons ⟨_, Try.func20, rfl, rfl⟩ laws_toAnswer.ok (gam_cons ⟨_, Try.func22, rfl, rfl⟩ spec_ShowAnswer.ok (gam_cons ⟨_, Try.func23, rfl, rfl⟩ impl_ShowAnswer.ok (gam_nil _))))) Try.func5 rfl [4] (by decide) fun i x h hi hw => (laws_FnExactShowAnswer.eq i x).mpr (laws_FnExactShowAnswer.pure x h hw)

end Go.Proofs.Ytcbehcpmojnnfaa.B
