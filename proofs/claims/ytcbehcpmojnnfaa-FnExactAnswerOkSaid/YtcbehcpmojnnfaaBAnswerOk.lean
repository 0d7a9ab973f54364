/- The functions that this law runs, by value. -/
import Derived.Test.YtcbehcpmojnnfaaV24
import Derived.Test.YtcbehcpmojnnfaaChecked
namespace Go.Proofs.Ytcbehcpmojnnfaa.AnswerOk
open Go Go.Bv

def tab : Tab := [(2, { ty := (.int .i64), agg := false, fields := [], elem := 0, bytes := 8 }), (3, { ty := (.int .i64), agg := false, fields := [], elem := 0, bytes := 8 }), (4, { ty := .bool, agg := false, fields := [], elem := 0, bytes := 1 }), (5, { ty := (.int .u8), agg := false, fields := [], elem := 0, bytes := 1 }), (6, { ty := (.int .u8), agg := false, fields := [], elem := 0, bytes := 1 }), (8, { ty := (.pair (.int .i64) (.pair (.int .i64) (.pair .bool (.int .u8)))), agg := true, fields := [(0, 2), (1, 3), (2, 4), (3, 6)], elem := 0, bytes := 24 }), (9, { ty := .str, agg := false, fields := [], elem := 0, bytes := 16 }), (10, { ty := .str, agg := false, fields := [], elem := 0, bytes := 16 }), (11, { ty := .str, agg := false, fields := [], elem := 0, bytes := 16 }), (12, { ty := (.int .u64), agg := false, fields := [], elem := 0, bytes := 8 }), (13, { ty := (.pair .str (.int .u64)), agg := true, fields := [(0, 9), (1, 12)], elem := 0, bytes := 24 }), (14, { ty := (.pair .str (.int .u64)), agg := true, fields := [(0, 9), (1, 12)], elem := 0, bytes := 24 }), (21, { ty := (.int .i32), agg := false, fields := [], elem := 0, bytes := 4 }), (25, { ty := (.pair (.int .i64) (.pair (.int .i64) (.pair (.int .i64) .str))), agg := true, fields := [(0, 3), (1, 3), (2, 3), (3, 9)], elem := 0, bytes := 40 }), (28, { ty := (.pair (.int .i64) (.pair (.int .i64) (.pair (.int .i64) .str))), agg := true, fields := [(0, 3), (1, 3), (2, 3), (3, 9)], elem := 0, bytes := 40 })]
theorem tabOk : TabOk Try.prog tab := tabOk_of (by kernel_rfl)
theorem consist : consistB tab tab = true := by kernel_rfl

abbrev Ans := Int × Int × Int × List UInt8
def fIn (a l h : Int) : Bool := decide (l ≤ a) && decide (a ≤ h)
def fTime (a : Int) : Bool := fIn a 0 1099511627776
def fSz (a : Ans) (l : Int) : Int := if l - (a.2.2.2.length : Int) < 0 then -1 else l - (a.2.2.2.length : Int)
def pSz (a : Ans) (l : Int) : Prop := a.2.2.2.length ≤ maxLen ∧ 0 ≤ l ∧ l ≤ 1048576
def fTo (a : Ans) : Ans := a
def fAnswerOk (a : Ans) : Bool := fIn a.1 0 4 && fIn a.2.1 0 100000 && fIn a.2.2.1 0 1099511627776 && decide ((a.2.2.2.length : Int) ≤ 900)

def cIn : Con := { io := false, I := .unit, A := (.pair (.int .i64) (.pair (.int .i64) (.int .i64))), shA := [.one, .one, .one], R := .bool, shR := [(false, 1)], fresh := [], pre := fun _ a => True, f := fun _ a => ((fIn a.1 a.2.1 a.2.2), ()) }
def cFrom : Con := { io := false, I := .unit, A := (.pair (.int .i64) (.pair (.int .i64) (.int .i64))), shA := [.one, .one, .one], R := .bool, shR := [(false, 1)], fresh := [], pre := fun _ a => True, f := fun _ a => ((fIn a.1 a.2.1 a.2.2), ()) }
def cTime : Con := { io := false, I := .unit, A := (.int .i64), shA := [.one], R := .bool, shR := [(false, 1)], fresh := [], pre := fun _ a => True, f := fun _ a => ((fTime a), ()) }
def cSz : Con := { io := false, I := .unit, A := (.pair (.pair (.int .i64) (.pair (.int .i64) (.pair (.int .i64) .str))) (.int .i64)), shA := [.agg 4, .one], R := (.int .i64), shR := [(false, 1)], fresh := [], pre := fun _ a => (pSz a.1 a.2), f := fun _ a => ((fSz a.1 a.2), ()) }
def cTo : Con := { io := false, I := .unit, A := (.pair (.int .i64) (.pair (.int .i64) (.pair (.int .i64) .str))), shA := [.agg 4], R := (.pair (.int .i64) (.pair (.int .i64) (.pair (.int .i64) .str))), shR := [(true, 4)], fresh := [], pre := fun _ a => True, f := fun _ a => ((fTo a), ()) }
def cSA : Con := { io := false, I := .unit, A := (.pair (.int .i64) (.pair (.int .i64) (.pair (.int .i64) .str))), shA := [.agg 4], R := .bool, shR := [(false, 1)], fresh := [], pre := fun _ a => True, f := fun _ a => ((fAnswerOk a), ()) }
def cIA : Con := { io := false, I := .unit, A := (.pair (.int .i64) (.pair (.int .i64) (.pair (.int .i64) .str))), shA := [.agg 4], R := .bool, shR := [(false, 1)], fresh := [], pre := fun _ a => True, f := fun _ a => ((fAnswerOk a), ()) }
def sIn.F  (a0 : Int) (a1 : Int) (a2 : Int) : Prop := (caseB (decide (a0 ≥ a1)) (((decide (a0 ≤ a2)) : Bool) = (fIn a0 a1 a2) ∧ True) ((false : Bool) = (fIn a0 a1 a2) ∧ True))
def sIn.L  (a0 : Int) (a1 : Int) (a2 : Int) : Nat → Option LoopAnn := fun p => Go.Bv.look p []

theorem sIn.pure  (a0 : Int) (a1 : Int) (a2 : Int) (h : True) (hw : Wf cIn.A (a0, a1, a2)) : sIn.F a0 a1 a2 := by
  unfold sIn.F fIn
  simp only [caseB_iff, and_true, decide_eq_true_eq, decide_eq_false_iff_not]
  exact ⟨fun h => by simp [h], fun h => by simp [h]⟩

set_option maxRecDepth 100000 in
theorem sIn.eq (i : El cIn.I) (x : El cIn.A) : vc tab (gam []) (sIn.L x.1 x.2.1 x.2.2) (match Try.f67.body with | some c => c | none => .skip) 1 (initSt cIn Try.f67.ntmps i x) (bodyK tab cIn Try.f67.results.toList [4] i x) = sIn.F x.1 x.2.1 x.2.2 := by kernel_rfl
theorem sIn.ok : ConOk Try.prog 67 cIn :=
  conOk_of_vc (con := cIn) (tab := tab) (fun i x => sIn.L x.1 x.2.1 x.2.2) rfl tabOk (gam_nil _) Try.func67 rfl [4] (by decide) fun i x h hi hw => (sIn.eq i x).mpr (sIn.pure x.1 x.2.1 x.2.2 h hw)

def iIn.F  (a0 : Int) (a1 : Int) (a2 : Int) : Prop := (caseB (decide (a0 ≥ a1)) (((decide (a0 ≤ a2)) : Bool) = (fIn a0 a1 a2) ∧ True) ((false : Bool) = (fIn a0 a1 a2) ∧ True))
def iIn.L  (a0 : Int) (a1 : Int) (a2 : Int) : Nat → Option LoopAnn := fun p => Go.Bv.look p []

theorem iIn.pure  (a0 : Int) (a1 : Int) (a2 : Int) (h : True) (hw : Wf cFrom.A (a0, a1, a2)) : iIn.F a0 a1 a2 := by
  unfold iIn.F fIn
  simp only [caseB_iff, and_true, decide_eq_true_eq, decide_eq_false_iff_not]
  exact ⟨fun h => by simp [h], fun h => by simp [h]⟩

set_option maxRecDepth 100000 in
theorem iIn.eq (i : El cFrom.I) (x : El cFrom.A) : vc tab (gam []) (iIn.L x.1 x.2.1 x.2.2) (match Try.f68.body with | some c => c | none => .skip) 1 (initSt cFrom Try.f68.ntmps i x) (bodyK tab cFrom Try.f68.results.toList [4] i x) = iIn.F x.1 x.2.1 x.2.2 := by kernel_rfl
theorem iIn.ok : ConOk Try.prog 68 cFrom :=
  conOk_of_vc (con := cFrom) (tab := tab) (fun i x => iIn.L x.1 x.2.1 x.2.2) rfl tabOk (gam_nil _) Try.func68 rfl [4] (by decide) fun i x h hi hw => (iIn.eq i x).mpr (iIn.pure x.1 x.2.1 x.2.2 h hw)

def iTime.F  (a0 : Int) : Prop := (True ∧ ∀ (r1 : Bool × Unit), r1 = ((fIn a0 0 1099511627776), ()) → ((r1.1 : Bool) = (fTime a0) ∧ True))
def iTime.L  (a0 : Int) : Nat → Option LoopAnn := fun p => Go.Bv.look p []

theorem iTime.pure  (a0 : Int) (h : True) (hw : Wf cTime.A a0) : iTime.F a0 := by
  unfold iTime.F
  simp only [forall_eq, true_and, and_true]
  rfl

set_option maxRecDepth 100000 in
theorem iTime.eq (i : El cTime.I) (x : El cTime.A) : vc tab (gam [(68, cFrom)]) (iTime.L x) (match Try.f69.body with | some c => c | none => .skip) 1 (initSt cTime Try.f69.ntmps i x) (bodyK tab cTime Try.f69.results.toList [4] i x) = iTime.F x := by kernel_rfl
theorem iTime.ok : ConOk Try.prog 69 cTime :=
  conOk_of_vc (con := cTime) (tab := tab) (fun i x => iTime.L x) rfl tabOk (gam_cons ⟨_, Try.func68, rfl, rfl⟩ iIn.ok (gam_nil _)) Try.func69 rfl [4] (by decide) fun i x h hi hw => (iTime.eq i x).mpr (iTime.pure x h hw)

def sz.F  (a0 : (Int × (Int × (Int × (List UInt8))))) (a1 : Int) : Prop := (caseB (decide ((IntKind.wrap .i64 (a1 - ((List.length a0.2.2.2 : Nat) : Int))) < 0)) (((-1) : Int) = (fSz a0 a1) ∧ True) (((IntKind.wrap .i64 (a1 - ((List.length a0.2.2.2 : Nat) : Int))) : Int) = (fSz a0 a1) ∧ True))
def sz.L  (a0 : (Int × (Int × (Int × (List UInt8))))) (a1 : Int) : Nat → Option LoopAnn := fun p => Go.Bv.look p []

theorem sz.pure  (a0 : (Int × (Int × (Int × (List UInt8))))) (a1 : Int) (h : (pSz a0 a1)) (hw : Wf cSz.A (a0, a1)) : sz.F a0 a1 := by
  unfold sz.F
  obtain ⟨h1, h2, h3⟩ := h
  unfold maxLen at h1
  have e : IntKind.wrap .i64 (a1 - ((List.length a0.2.2.2 : Nat) : Int)) = a1 - ((List.length a0.2.2.2 : Nat) : Int) := Go.IntWalk.i64_in _ (by omega)
  simp only [e, caseB_iff, and_true, decide_eq_true_eq, decide_eq_false_iff_not]
  exact ⟨fun h => by simp [fSz, h], fun h => by simp [fSz, h]⟩

set_option maxRecDepth 100000 in
theorem sz.eq (i : El cSz.I) (x : El cSz.A) : vc tab (gam []) (sz.L x.1 x.2) (match Try.f18.body with | some c => c | none => .skip) 1 (initSt cSz Try.f18.ntmps i x) (bodyK tab cSz Try.f18.results.toList [3] i x) = sz.F x.1 x.2 := by kernel_rfl
theorem sz.ok : ConOk Try.prog 18 cSz :=
  conOk_of_vc (con := cSz) (tab := tab) (fun i x => sz.L x.1 x.2) rfl tabOk (gam_nil _) Try.func18 rfl [3] (by decide) fun i x h hi hw => (sz.eq i x).mpr (sz.pure x.1 x.2 h hw)

def to.F  (a0 : (Int × (Int × (Int × (List UInt8))))) : Prop := (((a0.1, (a0.2.1, (a0.2.2.1, a0.2.2.2))) : (Int × (Int × (Int × (List UInt8))))) = (fTo a0) ∧ True)
def to.L  (a0 : (Int × (Int × (Int × (List UInt8))))) : Nat → Option LoopAnn := fun p => Go.Bv.look p []

theorem to.pure  (a0 : (Int × (Int × (Int × (List UInt8))))) (h : True) (hw : Wf cTo.A a0) : to.F a0 := by
  unfold to.F
  exact ⟨rfl, trivial⟩

set_option maxRecDepth 100000 in
theorem to.eq (i : El cTo.I) (x : El cTo.A) : vc tab (gam []) (to.L x) (match Try.f20.body with | some c => c | none => .skip) 1 (initSt cTo Try.f20.ntmps i x) (bodyK tab cTo Try.f20.results.toList [28] i x) = to.F x := by kernel_rfl
theorem to.ok : ConOk Try.prog 20 cTo :=
  conOk_of_vc (con := cTo) (tab := tab) (fun i x => to.L x) rfl tabOk (gam_nil _) Try.func20 rfl [28] (by decide) fun i x h hi hw => (to.eq i x).mpr (to.pure x h hw)

def sA.F  (a0 : (Int × (Int × (Int × (List UInt8))))) : Prop := (True ∧ ∀ (r1 : Bool × Unit), r1 = ((fIn a0.1 0 4), ()) → (caseB r1.1 (True ∧ ∀ (r2 : Bool × Unit), r2 = ((fIn a0.2.1 0 100000), ()) → (caseB r2.1 (True ∧ ∀ (r3 : Bool × Unit), r3 = ((fIn a0.2.2.1 0 1099511627776), ()) → (caseB r3.1 (((decide (((List.length a0.2.2.2 : Nat) : Int) ≤ 900)) : Bool) = (fAnswerOk a0) ∧ True) ((false : Bool) = (fAnswerOk a0) ∧ True))) ((false : Bool) = (fAnswerOk a0) ∧ True))) ((false : Bool) = (fAnswerOk a0) ∧ True)))
def sA.L  (a0 : (Int × (Int × (Int × (List UInt8))))) : Nat → Option LoopAnn := fun p => Go.Bv.look p []

theorem sA.pure  (a0 : (Int × (Int × (Int × (List UInt8))))) (h : True) (hw : Wf cSA.A a0) : sA.F a0 := by
  unfold sA.F
  simp only [forall_eq, true_and, and_true, caseB_iff]
  refine ⟨fun h1 => ⟨fun h2 => ⟨fun h3 => ?_, fun h3 => ?_⟩, fun h2 => ?_⟩, fun h1 => ?_⟩ <;> (try simp only [fTime] at h3) <;> simp [fAnswerOk, *]

set_option maxRecDepth 100000 in
theorem sA.eq (i : El cSA.I) (x : El cSA.A) : vc tab (gam [(67, cIn)]) (sA.L x) (match Try.f19.body with | some c => c | none => .skip) 1 (initSt cSA Try.f19.ntmps i x) (bodyK tab cSA Try.f19.results.toList [4] i x) = sA.F x := by kernel_rfl
theorem sA.ok : ConOk Try.prog 19 cSA :=
  conOk_of_vc (con := cSA) (tab := tab) (fun i x => sA.L x) rfl tabOk (gam_cons ⟨_, Try.func67, rfl, rfl⟩ sIn.ok (gam_nil _)) Try.func19 rfl [4] (by decide) fun i x h hi hw => (sA.eq i x).mpr (sA.pure x h hw)

def iA.F  (a0 : (Int × (Int × (Int × (List UInt8))))) : Prop := (True ∧ ∀ (r1 : Bool × Unit), r1 = ((fIn a0.1 0 4), ()) → (caseB r1.1 (True ∧ ∀ (r2 : Bool × Unit), r2 = ((fIn a0.2.1 0 100000), ()) → (caseB r2.1 (True ∧ ∀ (r3 : Bool × Unit), r3 = ((fTime a0.2.2.1), ()) → (caseB r3.1 (((decide (((List.length a0.2.2.2 : Nat) : Int) ≤ 900)) : Bool) = (fAnswerOk a0) ∧ True) ((false : Bool) = (fAnswerOk a0) ∧ True))) ((false : Bool) = (fAnswerOk a0) ∧ True))) ((false : Bool) = (fAnswerOk a0) ∧ True)))
def iA.L  (a0 : (Int × (Int × (Int × (List UInt8))))) : Nat → Option LoopAnn := fun p => Go.Bv.look p []

theorem iA.pure  (a0 : (Int × (Int × (Int × (List UInt8))))) (h : True) (hw : Wf cIA.A a0) : iA.F a0 := by
  unfold iA.F
  simp only [forall_eq, true_and, and_true, caseB_iff]
  refine ⟨fun h1 => ⟨fun h2 => ⟨fun h3 => ?_, fun h3 => ?_⟩, fun h2 => ?_⟩, fun h1 => ?_⟩ <;> (try simp only [fTime] at h3) <;> simp [fAnswerOk, *]

set_option maxRecDepth 100000 in
theorem iA.eq (i : El cIA.I) (x : El cIA.A) : vc tab (gam [(68, cFrom), (69, cTime)]) (iA.L x) (match Try.f21.body with | some c => c | none => .skip) 1 (initSt cIA Try.f21.ntmps i x) (bodyK tab cIA Try.f21.results.toList [4] i x) = iA.F x := by kernel_rfl
theorem iA.ok : ConOk Try.prog 21 cIA :=
  conOk_of_vc (con := cIA) (tab := tab) (fun i x => iA.L x) rfl tabOk (gam_cons ⟨_, Try.func68, rfl, rfl⟩ iIn.ok (gam_cons ⟨_, Try.func69, rfl, rfl⟩ iTime.ok (gam_nil _))) Try.func21 rfl [4] (by decide) fun i x h hi hw => (iA.eq i x).mpr (iA.pure x h hw)

def law.F  (a0 : (Int × (Int × (Int × (List UInt8))))) : Prop := ((pSz (a0.1, (a0.2.1, (a0.2.2.1, a0.2.2.2))) 1048576) ∧ ∀ (r1 : Int × Unit), r1 = ((fSz (a0.1, (a0.2.1, (a0.2.2.1, a0.2.2.2))) 1048576), ()) → (caseB (decide (r1.1 < 0)) ((true : Bool) = true ∧ True) (True ∧ ∀ (r2 : (Int × (Int × (Int × (List UInt8)))) × Unit), r2 = ((fTo (a0.1, (a0.2.1, (a0.2.2.1, a0.2.2.2)))), ()) → (True ∧ ∀ (r3 : Bool × Unit), r3 = ((fAnswerOk (r2.1.1, (r2.1.2.1, (r2.1.2.2.1, r2.1.2.2.2)))), ()) → (True ∧ ∀ (r4 : (Int × (Int × (Int × (List UInt8)))) × Unit), r4 = ((fTo (a0.1, (a0.2.1, (a0.2.2.1, a0.2.2.2)))), ()) → (True ∧ ∀ (r5 : Bool × Unit), r5 = ((fAnswerOk (r4.1.1, (r4.1.2.1, (r4.1.2.2.1, r4.1.2.2.2)))), ()) → (caseB (!(r5.1 == r3.1)) ((false : Bool) = true ∧ True) ((true : Bool) = true ∧ True))))))))
def law.L  (a0 : (Int × (Int × (Int × (List UInt8))))) : Nat → Option LoopAnn := fun p => Go.Bv.look p []

theorem law.pure  (a0 : (Int × (Int × (Int × (List UInt8))))) (h : WfD (.pair (.int .i64) (.pair (.int .i64) (.pair (.int .i64) .str))) a0) (hw : Wf (lawCon (.pair (.int .i64) (.pair (.int .i64) (.pair (.int .i64) .str))) [.agg 4]).A a0) : law.F a0 := by
  unfold law.F
  simp only [forall_eq, true_and, and_true, caseB_iff]
  refine ⟨⟨h.2.2.2, by omega, by omega⟩, fun _ => trivial, fun _ => ⟨fun h => ?_, fun _ => trivial⟩⟩
  simp [fTo] at h

set_option maxRecDepth 100000 in
theorem law.eq (i : El (lawCon (.pair (.int .i64) (.pair (.int .i64) (.pair (.int .i64) .str))) [.agg 4]).I) (x : El (lawCon (.pair (.int .i64) (.pair (.int .i64) (.pair (.int .i64) .str))) [.agg 4]).A) : vc tab (gam [(18, cSz), (19, cSA), (20, cTo), (21, cIA)]) (law.L x) (match Try.f4.body with | some c => c | none => .skip) 1 (initSt (lawCon (.pair (.int .i64) (.pair (.int .i64) (.pair (.int .i64) .str))) [.agg 4]) Try.f4.ntmps i x) (bodyK tab (lawCon (.pair (.int .i64) (.pair (.int .i64) (.pair (.int .i64) .str))) [.agg 4]) Try.f4.results.toList [4] i x) = law.F x := by kernel_rfl
theorem law.ok : ConOk Try.prog 4 (lawCon (.pair (.int .i64) (.pair (.int .i64) (.pair (.int .i64) .str))) [.agg 4]) :=
  conOk_of_vc (con := (lawCon (.pair (.int .i64) (.pair (.int .i64) (.pair (.int .i64) .str))) [.agg 4])) (tab := tab) (fun i x => law.L x) rfl tabOk (gam_cons ⟨_, Try.func18, rfl, rfl⟩ sz.ok (gam_cons ⟨_, Try.func19, rfl, rfl⟩ sA.ok (gam_cons ⟨_, Try.func20, rfl, rfl⟩ to.ok (gam_cons ⟨_, Try.func21, rfl, rfl⟩ iA.ok (gam_nil _))))) Try.func4 rfl [4] (by decide) fun i x h hi hw => (law.eq i x).mpr (law.pure x h hw)

end Go.Proofs.Ytcbehcpmojnnfaa.AnswerOk
