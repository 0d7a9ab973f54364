/- Bits: numbers with a sign, times, values. -/
import Derived.Test.YthjlommbnfooaaaCSum
namespace Go.Proofs.Ythjlommbnfooaaa.B
set_option linter.unusedVariables false
set_option linter.unusedSimpArgs false
open Go Go.Proofs.Ythjlommbnfooaaa.Bv

def fZig (n : Int) : Int := if fIn n (-140737488355328) 140737488355328 then (if n < 0 then -2 * n - 1 else 2 * n) else -1
def fZigV (n : Int) : List UInt8 := fVar (fZig n)
def riseAt (l : List Int) (i : Nat) : Bool := fIn (l.getD i 0) 0 1099511627776 && (decide (i = 0) || decide (l.getD (i - 1) 0 < l.getD i 0))
def fRise (l : List Int) : Bool := fIn l.length 1 60 && allB (riseAt l) l.length
def valAt (l : List Int) (i : Nat) : Bool := fIn (l.getD i 0) (-1099511627776) 1099511627776
def fVals (l : List Int) : Bool := fIn l.length 1 60 && allB (valAt l) l.length
theorem allB_iff {p : Nat → Bool} {n : Nat} : allB p n = true ↔ ∀ j, j < n → p j = true := by simp [allB]
theorem fRise_iff {l : List Int} : fRise l = true ↔ (1 ≤ l.length ∧ l.length ≤ 60) ∧ ∀ j, j < l.length → riseAt l j = true := by
  simp only [fRise, Bool.and_eq_true, fIn_iff, allB_iff]
  exact ⟨fun h => ⟨by omega, h.2⟩, fun h => ⟨by omega, h.2⟩⟩
theorem fVals_iff {l : List Int} : fVals l = true ↔ (1 ≤ l.length ∧ l.length ≤ 60) ∧ ∀ j, j < l.length → valAt l j = true := by
  simp only [fVals, Bool.and_eq_true, fIn_iff, allB_iff]
  exact ⟨fun h => ⟨by omega, h.2⟩, fun h => ⟨by omega, h.2⟩⟩
theorem riseAt_iff {l : List Int} {i : Nat} : riseAt l i = true ↔ (0 ≤ l.getD i 0 ∧ l.getD i 0 ≤ 1099511627776) ∧ (i = 0 ∨ l.getD (i - 1) 0 < l.getD i 0) := by
  simp [riseAt, fIn]
theorem valAt_iff {l : List Int} {i : Nat} : valAt l i = true ↔ -1099511627776 ≤ l.getD i 0 ∧ l.getD i 0 ≤ 1099511627776 := by simp [valAt, fIn]
def scI (p : List Int → Nat → Bool) (l : List Int) (i : Int) : Prop := 0 ≤ i ∧ i ≤ l.length ∧ l.length ≤ 60 ∧ 1 ≤ l.length ∧ ∀ j, j < i.toNat → p l j = true
def scM (l : List Int) (i : Int) : Nat := (l.length - i).toNat
def tmPiece (l : List Int) (i : Nat) : List UInt8 := if i = 0 then fVar (l.getD 0 0) else if i = 1 then fVar (l.getD 1 0 - l.getD 0 0) else fVar (fZig (l.getD i 0 - l.getD (i - 1) 0 - (l.getD (i - 1) 0 - l.getD (i - 2) 0)))
def tmS (l : List Int) : Nat → List UInt8
  | 0 => []
  | i + 1 => tmS l i ++ tmPiece l i
theorem tmS_succ (l : List Int) (i : Nat) : tmS l (i + 1) = tmS l i ++ tmPiece l i := rfl
def fShowTimes (l : List Int) : List UInt8 := if fRise l then tmS l l.length else []
def vlPiece (l : List Int) (i : Nat) : List UInt8 := fVar (fZig (l.getD i 0 - (if i = 0 then 0 else l.getD (i - 1) 0)))
def vlS (l : List Int) : Nat → List UInt8
  | 0 => []
  | i + 1 => vlS l i ++ vlPiece l i
theorem vlS_succ (l : List Int) (i : Nat) : vlS l (i + 1) = vlS l i ++ vlPiece l i := rfl
def fShowValues (l : List Int) : List UInt8 := if fVals l then vlS l l.length else []
theorem fVar_length7 (n : Int) : (fVar n).length ≤ 7 := fVar_length n
theorem tmS_length (l : List Int) : ∀ i, (tmS l i).length ≤ 7 * i
  | 0 => by simp [tmS]
  | i + 1 => by
    have h := tmS_length l i
    have h1 : (tmPiece l i).length ≤ 7 := by unfold tmPiece; split; · exact fVar_length _
                                             split <;> exact fVar_length _
    rw [tmS_succ, List.length_append]; omega
theorem vlS_length (l : List Int) : ∀ i, (vlS l i).length ≤ 7 * i
  | 0 => by simp [vlS]
  | i + 1 => by
    have h := vlS_length l i
    have h1 : (vlPiece l i).length ≤ 7 := fVar_length _
    rw [vlS_succ, List.length_append]; omega
theorem fShowTimes_length (l : List Int) : (fShowTimes l).length ≤ 420 := by
  unfold fShowTimes; split
  · rename_i h
    have := tmS_length l l.length
    have := (fRise_iff.1 h).1; omega
  · simp
theorem fShowValues_length (l : List Int) : (fShowValues l).length ≤ 420 := by
  unfold fShowValues; split
  · rename_i h
    have := vlS_length l l.length
    have := (fVals_iff.1 h).1; omega
  · simp
def tmI (l : List Int) (s : List UInt8) (i : Int) : Prop := 0 ≤ i ∧ i ≤ l.length ∧ (∀ j, j < i.toNat → riseAt l j = true) ∧ (1 ≤ i → (0 ≤ l.getD 0 0 ∧ l.getD 0 0 ≤ 1099511627776) ∧ 0 ≤ l.getD (i.toNat - 1) 0 ∧ l.getD (i.toNat - 1) 0 ≤ 1099511627776) ∧ (2 ≤ i → 0 ≤ l.getD (i.toNat - 2) 0 ∧ l.getD (i.toNat - 2) 0 ≤ 1099511627776) ∧ (s.length : Int) ≤ 7 * i ∧ s = tmS l i.toNat
def tmJ (l : List Int) (s : List UInt8) (i : Int) : Prop := 1 ≤ i ∧ fRise l = true ∧ (i < l.length → 0 ≤ l.getD i.toNat 0 ∧ l.getD i.toNat 0 ≤ 1099511627776) ∧ tmI l s i
def tmM (l : List Int) (s : List UInt8) (i : Int) : Nat := (l.length - i).toNat
def vlI (l : List Int) (s : List UInt8) (last i : Int) : Prop := 0 ≤ i ∧ i ≤ l.length ∧ (∀ j, j < i.toNat → valAt l j = true) ∧ (-1099511627776 ≤ last ∧ last ≤ 1099511627776) ∧ last = (if i.toNat = 0 then 0 else l.getD (i.toNat - 1) 0) ∧ (s.length : Int) ≤ 7 * i ∧ s = vlS l i.toNat
def vlJ (l : List Int) (s : List UInt8) (last i : Int) : Prop := fVals l = true ∧ (i < l.length → -1099511627776 ≤ l.getD i.toNat 0 ∧ l.getD i.toNat 0 ≤ 1099511627776) ∧ vlI l s last i
def vlM (l : List Int) (s : List UInt8) (last i : Int) : Nat := (l.length - i).toNat
def pInts (l : List Int) : Prop := l.length ≤ 1099511627776
def pZig (n : Int) : Prop := True
theorem n11 (n : Nat) : n + 1 - 1 = n := rfl
theorem n12 (n : Nat) : n + 1 - 2 = n - 1 := rfl
theorem tn_0 : Int.toNat 0 = 0 := rfl
theorem tn_1 : Int.toNat 1 = 1 := rfl
theorem riseI_of {l : List Int} {i : Nat} (h : fRise l = true) (hi : i < l.length) : 0 ≤ l.getD i 0 ∧ l.getD i 0 ≤ 1099511627776 := (riseAt_iff.1 ((fRise_iff.1 h).2 i hi)).1
theorem valI_of {l : List Int} {i : Nat} (h : fVals l = true) (hi : i < l.length) : -1099511627776 ≤ l.getD i 0 ∧ l.getD i 0 ≤ 1099511627776 := valAt_iff.1 ((fVals_iff.1 h).2 i hi)

def c_spec_ZigZag : Con := { io := false, I := .unit, ownI := [], A := (.int .i64), shA := [.one], ownA := [], backA := [], B := .unit, R := (.int .i64), shR := [(false, 1)], fresh := [], newR := false, pre := fun _ a => True, f := some fun _ a => ((fZig a), ((), ())) }
def spec_ZigZag.F  (a0 : Int) : Prop := (True ∧ ∀ (r1 : Bool × (Unit × Unit)), ((r1 : Bool × (Unit × Unit)) = ((fIn a0 (-140737488355328) 140737488355328), ((), ()))) → (caseB (!r1.1) ((((-1), ((), ())) : Int × (Unit × Unit)) = ((fZig a0), ((), ()))) (caseB (decide (a0 < (0 : Int))) ((((IntKind.wrap .i64 ((IntKind.wrap .i64 (((-2) : Int) * a0)) - (1 : Int))), ((), ())) : Int × (Unit × Unit)) = ((fZig a0), ((), ()))) ((((IntKind.wrap .i64 ((2 : Int) * a0)), ((), ())) : Int × (Unit × Unit)) = ((fZig a0), ((), ()))))))
def spec_ZigZag.L  (a0 : Int) : Nat → Option LoopAnn := fun p => Go.Proofs.Ythjlommbnfooaaa.Bv.look p []

theorem spec_ZigZag.pure  (a0 : Int) (h : True) (hw : Wf c_spec_ZigZag.A a0) : spec_ZigZag.F a0 := by
  unfold spec_ZigZag.F
  simp only [forall_eq, true_and, and_true, caseB_iff, Prod.mk.injEq, decide_eq_true_eq, decide_eq_false_iff_not, Bool.not_eq_true', Bool.not_eq_false', bne_iff_ne, ne_eq, beq_iff_eq, Bool.not_true, Bool.not_false, beq_eq_false_iff_ne, bne_eq_false_iff_eq, List.length_append, List.length_cons, List.length_nil, List.append_nil, Nat.zero_add, decide_true, decide_false, eq_self_iff_true, fIn_iff, fIn_no]
  repeat' (with_reducible (first | (refine And.intro ?_ ?_) | intro _))
  all_goals (try simp (disch := omega) only [w64, wu8, tn0, tn1, tm1, tm2, List.length_append, List.length_cons, List.length_nil] at *)
  all_goals (try simp (disch := omega) only [w64, wu8, tn0, tn1, tm1, tm2, List.length_append, List.length_cons, List.length_nil] at *)
  all_goals (try omega)
  all_goals (try grind [fZig, fIn_iff])

set_option maxRecDepth 100000 in
theorem spec_ZigZag.eq (i : El c_spec_ZigZag.I) (x : El c_spec_ZigZag.A) : vc tab (gam [(61, c_spec_l1In)] [] eqs) (spec_ZigZag.L x) (match Try.f157.body with | some c => c | none => .skip) 1 (initSt c_spec_ZigZag Try.f157.ntmps i x) (bodyK tab c_spec_ZigZag Try.f157.results.toList [3] i x) = spec_ZigZag.F x := by kernel_rfl
theorem spec_ZigZag.ok : ConOk Try.prog 157 c_spec_ZigZag :=
  conOk_of_eq (con := c_spec_ZigZag) (tab := tab) (Γ := (gam [(61, c_spec_l1In)] [] eqs)) (fn := Try.f157) (c := (match Try.f157.body with | some c => c | none => .skip)) (fun i x => spec_ZigZag.L x) (fun i x => spec_ZigZag.F x) rfl tabOk (gam_cons ⟨_, Try.func61, rfl, rfl⟩ spec_l1In.ok (gam_nil _ [] eqsOk)) Try.func157 rfl [3] (by kernel_rfl) spec_ZigZag.eq fun i x h hi hw => spec_ZigZag.pure x h hw

def c_impl_ZigZag : Con := { io := false, I := .unit, ownI := [], A := (.int .i64), shA := [.one], ownA := [], backA := [], B := .unit, R := (.int .i64), shR := [(false, 1)], fresh := [], newR := false, pre := fun _ a => True, f := some fun _ a => ((fZig a), ((), ())) }
def impl_ZigZag.F  (a0 : Int) : Prop := (True ∧ ∀ (r1 : Bool × (Unit × Unit)), ((r1 : Bool × (Unit × Unit)) = ((fIn a0 0 140737488355328), ((), ()))) → (caseB r1.1 ((((IntKind.wrap .i64 ((2 : Int) * a0)), ((), ())) : Int × (Unit × Unit)) = ((fZig a0), ((), ()))) (True ∧ ∀ (r2 : Bool × (Unit × Unit)), ((r2 : Bool × (Unit × Unit)) = ((fIn a0 (-140737488355328) (-1)), ((), ()))) → (caseB r2.1 ((((IntKind.wrap .i64 ((IntKind.wrap .i64 (((-2) : Int) * a0)) - (1 : Int))), ((), ())) : Int × (Unit × Unit)) = ((fZig a0), ((), ()))) ((((-1), ((), ())) : Int × (Unit × Unit)) = ((fZig a0), ((), ())))))))
def impl_ZigZag.L  (a0 : Int) : Nat → Option LoopAnn := fun p => Go.Proofs.Ythjlommbnfooaaa.Bv.look p []

theorem impl_ZigZag.pure  (a0 : Int) (h : True) (hw : Wf c_impl_ZigZag.A a0) : impl_ZigZag.F a0 := by
  unfold impl_ZigZag.F
  simp only [forall_eq, true_and, and_true, caseB_iff, Prod.mk.injEq, decide_eq_true_eq, decide_eq_false_iff_not, Bool.not_eq_true', Bool.not_eq_false', bne_iff_ne, ne_eq, beq_iff_eq, Bool.not_true, Bool.not_false, beq_eq_false_iff_ne, bne_eq_false_iff_eq, List.length_append, List.length_cons, List.length_nil, List.append_nil, Nat.zero_add, decide_true, decide_false, eq_self_iff_true, fIn_iff, fIn_no]
  repeat' (with_reducible (first | (refine And.intro ?_ ?_) | intro _))
  all_goals (try simp (disch := omega) only [w64, wu8, tn0, tn1, tm1, tm2, List.length_append, List.length_cons, List.length_nil] at *)
  all_goals (try simp (disch := omega) only [w64, wu8, tn0, tn1, tm1, tm2, List.length_append, List.length_cons, List.length_nil] at *)
  all_goals (try omega)
  all_goals (try grind [fZig, fIn_iff])

set_option maxRecDepth 100000 in
theorem impl_ZigZag.eq (i : El c_impl_ZigZag.I) (x : El c_impl_ZigZag.A) : vc tab (gam [(68, c_impl_from)] [] eqs) (impl_ZigZag.L x) (match Try.f164.body with | some c => c | none => .skip) 1 (initSt c_impl_ZigZag Try.f164.ntmps i x) (bodyK tab c_impl_ZigZag Try.f164.results.toList [3] i x) = impl_ZigZag.F x := by kernel_rfl
theorem impl_ZigZag.ok : ConOk Try.prog 164 c_impl_ZigZag :=
  conOk_of_eq (con := c_impl_ZigZag) (tab := tab) (Γ := (gam [(68, c_impl_from)] [] eqs)) (fn := Try.f164) (c := (match Try.f164.body with | some c => c | none => .skip)) (fun i x => impl_ZigZag.L x) (fun i x => impl_ZigZag.F x) rfl tabOk (gam_cons ⟨_, Try.func68, rfl, rfl⟩ impl_from.ok (gam_nil _ [] eqsOk)) Try.func164 rfl [3] (by kernel_rfl) impl_ZigZag.eq fun i x h hi hw => impl_ZigZag.pure x h hw

def c_impl_zig : Con := { io := false, I := .unit, ownI := [], A := (.int .i64), shA := [.one], ownA := [], backA := [], B := .unit, R := .str, shR := [(false, 1)], fresh := [], newR := false, pre := fun _ a => True, f := some fun _ a => ((fZigV a), ((), ())) }
def impl_zig.F  (a0 : Int) : Prop := (True ∧ ∀ (r1 : Int × (Unit × Unit)), ((r1 : Int × (Unit × Unit)) = ((fZig a0), ((), ()))) → (True ∧ ∀ (r2 : (List UInt8) × (Unit × Unit)), ((r2 : (List UInt8) × (Unit × Unit)) = ((fVar r1.1), ((), ()))) → (((r2.1, ((), ())) : (List UInt8) × (Unit × Unit)) = ((fZigV a0), ((), ())))))
def impl_zig.L  (a0 : Int) : Nat → Option LoopAnn := fun p => Go.Proofs.Ythjlommbnfooaaa.Bv.look p []

theorem impl_zig.pure  (a0 : Int) (h : True) (hw : Wf c_impl_zig.A a0) : impl_zig.F a0 := by
  unfold impl_zig.F
  simp only [forall_eq, true_and, and_true, caseB_iff, Prod.mk.injEq, decide_eq_true_eq, decide_eq_false_iff_not, Bool.not_eq_true', Bool.not_eq_false', bne_iff_ne, ne_eq, beq_iff_eq, Bool.not_true, Bool.not_false, beq_eq_false_iff_ne, bne_eq_false_iff_eq, List.length_append, List.length_cons, List.length_nil, List.append_nil, Nat.zero_add, decide_true, decide_false, eq_self_iff_true]
  repeat' (with_reducible (first | (refine And.intro ?_ ?_) | intro _))
  all_goals (try simp (disch := omega) only [w64, wu8, tn0, tn1, tm1, tm2, List.length_append, List.length_cons, List.length_nil] at *)
  all_goals (try simp (disch := omega) only [w64, wu8, tn0, tn1, tm1, tm2, List.length_append, List.length_cons, List.length_nil] at *)
  all_goals (try omega)
  all_goals (try grind [fZigV])

set_option maxRecDepth 100000 in
theorem impl_zig.eq (i : El c_impl_zig.I) (x : El c_impl_zig.A) : vc tab (gam [(95, c_impl_Var), (164, c_impl_ZigZag)] [] eqs) (impl_zig.L x) (match Try.f160.body with | some c => c | none => .skip) 1 (initSt c_impl_zig Try.f160.ntmps i x) (bodyK tab c_impl_zig Try.f160.results.toList [9] i x) = impl_zig.F x := by kernel_rfl
theorem impl_zig.ok : ConOk Try.prog 160 c_impl_zig :=
  conOk_of_eq (con := c_impl_zig) (tab := tab) (Γ := (gam [(95, c_impl_Var), (164, c_impl_ZigZag)] [] eqs)) (fn := Try.f160) (c := (match Try.f160.body with | some c => c | none => .skip)) (fun i x => impl_zig.L x) (fun i x => impl_zig.F x) rfl tabOk (gam_cons ⟨_, Try.func95, rfl, rfl⟩ impl_Var.ok (gam_cons ⟨_, Try.func164, rfl, rfl⟩ impl_ZigZag.ok (gam_nil _ [] eqsOk))) Try.func160 rfl [9] (by kernel_rfl) impl_zig.eq fun i x h hi hw => impl_zig.pure x h hw

def c_spec_l7Rise : Con := { io := false, I := .unit, ownI := [], A := (.list (.int .i64)), shA := [.one], ownA := [], backA := [], B := .unit, R := .bool, shR := [(false, 1)], fresh := [], newR := false, pre := fun _ a => True, f := some fun _ a => ((fRise a), ((), ())) }
def spec_l7Rise.F  (a0 : (List Int)) : Prop := (True ∧ ∀ (r1 : Bool × (Unit × Unit)), ((r1 : Bool × (Unit × Unit)) = ((fIn ((List.length a0 : Nat) : Int) 1 60), ((), ()))) → (caseB (!r1.1) (((false, ((), ())) : Bool × (Unit × Unit)) = ((fRise a0), ((), ()))) (([(0, .val false [.lst (.int .i64) a0 none])] : List (Nat × Sv)) = [(0, .val false [.lst (.int .i64) a0 none])] ∧ ((scI riseAt a0 0) ∧ ∀ (y2 : Int), (scI riseAt a0 y2) → (caseB (decide (y2 < ((List.length a0 : Nat) : Int))) (0 ≤ y2 ∧ (y2 < ((List.length a0 : Nat) : Int) ∧ (True ∧ ∀ (r3 : Bool × (Unit × Unit)), ((r3 : Bool × (Unit × Unit)) = ((fIn (List.getD a0 (Int.toNat y2) (0 : Int)) 0 1099511627776), ((), ()))) → (caseB (!r3.1) (((false, ((), ())) : Bool × (Unit × Unit)) = ((fRise a0), ((), ()))) (caseB (decide (y2 > (0 : Int))) (0 ≤ (IntKind.wrap .i64 (y2 - (1 : Int))) ∧ ((IntKind.wrap .i64 (y2 - (1 : Int))) < ((List.length a0 : Nat) : Int) ∧ (0 ≤ y2 ∧ (y2 < ((List.length a0 : Nat) : Int) ∧ (caseB (decide ((List.getD a0 (Int.toNat (IntKind.wrap .i64 (y2 - (1 : Int)))) (0 : Int)) ≥ (List.getD a0 (Int.toNat y2) (0 : Int)))) (((false, ((), ())) : Bool × (Unit × Unit)) = ((fRise a0), ((), ()))) (([(0, .val false [.lst (.int .i64) a0 none])] : List (Nat × Sv)) = [(0, .val false [.lst (.int .i64) a0 none])] ∧ (scI riseAt a0 (IntKind.wrap .i64 (y2 + (1 : Int)))) ∧ (scM a0 (IntKind.wrap .i64 (y2 + (1 : Int)))) < (scM a0 y2))))))) (([(0, .val false [.lst (.int .i64) a0 none])] : List (Nat × Sv)) = [(0, .val false [.lst (.int .i64) a0 none])] ∧ (scI riseAt a0 (IntKind.wrap .i64 (y2 + (1 : Int)))) ∧ (scM a0 (IntKind.wrap .i64 (y2 + (1 : Int)))) < (scM a0 y2))))))) (((true, ((), ())) : Bool × (Unit × Unit)) = ((fRise a0), ((), ()))))))))
def spec_l7Rise.L  (a0 : (List Int)) : Nat → Option LoopAnn := fun p => Go.Proofs.Ythjlommbnfooaaa.Bv.look p [(58, { kp := { hold := [0], slots := [3], boxes := [], rows := [] }, T := (.int .i64), I := fun st y => scI riseAt a0 y, μ := fun st y => scM a0 y })]

theorem spec_l7Rise.pure  (a0 : (List Int)) (h : True) (hw : Wf c_spec_l7Rise.A a0) : spec_l7Rise.F a0 := by
  unfold spec_l7Rise.F
  have hw1 : a0.length ≤ maxLen := hw.1
  unfold maxLen at hw1
  simp only [forall_eq, true_and, and_true, caseB_iff, Prod.mk.injEq, decide_eq_true_eq, decide_eq_false_iff_not, Bool.not_eq_true', Bool.not_eq_false', bne_iff_ne, ne_eq, beq_iff_eq, Bool.not_true, Bool.not_false, beq_eq_false_iff_ne, bne_eq_false_iff_eq, List.length_append, List.length_cons, List.length_nil, List.append_nil, Nat.zero_add, decide_true, decide_false, eq_self_iff_true, scI, scM, fIn_iff, fIn_no]
  repeat' (with_reducible (first | (refine And.intro ?_ ?_) | intro _))
  all_goals (try simp (disch := omega) only [w64, wu8, tn0, tn1, tm1, tm2, List.length_append, List.length_cons, List.length_nil] at *)
  all_goals (try simp (disch := omega) only [w64, wu8, tn0, tn1, tm1, tm2, List.length_append, List.length_cons, List.length_nil] at *)
  all_goals (try omega)
  all_goals (try grind [fRise_iff, riseAt_iff])

set_option maxRecDepth 100000 in
theorem spec_l7Rise.eq (i : El c_spec_l7Rise.I) (x : El c_spec_l7Rise.A) : vc tab (gam [(61, c_spec_l1In)] [] eqs) (spec_l7Rise.L x) (match Try.f156.body with | some c => c | none => .skip) 1 (initSt c_spec_l7Rise Try.f156.ntmps i x) (bodyK tab c_spec_l7Rise Try.f156.results.toList [4] i x) = spec_l7Rise.F x := by kernel_rfl
theorem spec_l7Rise.ok : ConOk Try.prog 156 c_spec_l7Rise :=
  conOk_of_eq (con := c_spec_l7Rise) (tab := tab) (Γ := (gam [(61, c_spec_l1In)] [] eqs)) (fn := Try.f156) (c := (match Try.f156.body with | some c => c | none => .skip)) (fun i x => spec_l7Rise.L x) (fun i x => spec_l7Rise.F x) rfl tabOk (gam_cons ⟨_, Try.func61, rfl, rfl⟩ spec_l1In.ok (gam_nil _ [] eqsOk)) Try.func156 rfl [4] (by kernel_rfl) spec_l7Rise.eq fun i x h hi hw => spec_l7Rise.pure x h hw

def c_spec_l7Values : Con := { io := false, I := .unit, ownI := [], A := (.list (.int .i64)), shA := [.one], ownA := [], backA := [], B := .unit, R := .bool, shR := [(false, 1)], fresh := [], newR := false, pre := fun _ a => True, f := some fun _ a => ((fVals a), ((), ())) }
def spec_l7Values.F  (a0 : (List Int)) : Prop := (True ∧ ∀ (r1 : Bool × (Unit × Unit)), ((r1 : Bool × (Unit × Unit)) = ((fIn ((List.length a0 : Nat) : Int) 1 60), ((), ()))) → (caseB (!r1.1) (((false, ((), ())) : Bool × (Unit × Unit)) = ((fVals a0), ((), ()))) (([(0, .val false [.lst (.int .i64) a0 none])] : List (Nat × Sv)) = [(0, .val false [.lst (.int .i64) a0 none])] ∧ ((scI valAt a0 0) ∧ ∀ (y2 : Int), (scI valAt a0 y2) → (caseB (decide (y2 < ((List.length a0 : Nat) : Int))) (0 ≤ y2 ∧ (y2 < ((List.length a0 : Nat) : Int) ∧ (True ∧ ∀ (r3 : Bool × (Unit × Unit)), ((r3 : Bool × (Unit × Unit)) = ((fIn (List.getD a0 (Int.toNat y2) (0 : Int)) (-1099511627776) 1099511627776), ((), ()))) → (caseB (!r3.1) (((false, ((), ())) : Bool × (Unit × Unit)) = ((fVals a0), ((), ()))) (([(0, .val false [.lst (.int .i64) a0 none])] : List (Nat × Sv)) = [(0, .val false [.lst (.int .i64) a0 none])] ∧ (scI valAt a0 (IntKind.wrap .i64 (y2 + (1 : Int)))) ∧ (scM a0 (IntKind.wrap .i64 (y2 + (1 : Int)))) < (scM a0 y2)))))) (((true, ((), ())) : Bool × (Unit × Unit)) = ((fVals a0), ((), ()))))))))
def spec_l7Values.L  (a0 : (List Int)) : Nat → Option LoopAnn := fun p => Go.Proofs.Ythjlommbnfooaaa.Bv.look p [(58, { kp := { hold := [0], slots := [3], boxes := [], rows := [] }, T := (.int .i64), I := fun st y => scI valAt a0 y, μ := fun st y => scM a0 y })]

theorem spec_l7Values.pure  (a0 : (List Int)) (h : True) (hw : Wf c_spec_l7Values.A a0) : spec_l7Values.F a0 := by
  unfold spec_l7Values.F
  have hw1 : a0.length ≤ maxLen := hw.1
  unfold maxLen at hw1
  simp only [forall_eq, true_and, and_true, caseB_iff, Prod.mk.injEq, decide_eq_true_eq, decide_eq_false_iff_not, Bool.not_eq_true', Bool.not_eq_false', bne_iff_ne, ne_eq, beq_iff_eq, Bool.not_true, Bool.not_false, beq_eq_false_iff_ne, bne_eq_false_iff_eq, List.length_append, List.length_cons, List.length_nil, List.append_nil, Nat.zero_add, decide_true, decide_false, eq_self_iff_true, scI, scM, fIn_iff, fIn_no]
  repeat' (with_reducible (first | (refine And.intro ?_ ?_) | intro _))
  all_goals (try simp (disch := omega) only [w64, wu8, tn0, tn1, tm1, tm2, List.length_append, List.length_cons, List.length_nil] at *)
  all_goals (try simp (disch := omega) only [w64, wu8, tn0, tn1, tm1, tm2, List.length_append, List.length_cons, List.length_nil] at *)
  all_goals (try omega)
  all_goals (try grind [fVals_iff, valAt_iff])

set_option maxRecDepth 100000 in
theorem spec_l7Values.eq (i : El c_spec_l7Values.I) (x : El c_spec_l7Values.A) : vc tab (gam [(61, c_spec_l1In)] [] eqs) (spec_l7Values.L x) (match Try.f158.body with | some c => c | none => .skip) 1 (initSt c_spec_l7Values Try.f158.ntmps i x) (bodyK tab c_spec_l7Values Try.f158.results.toList [4] i x) = spec_l7Values.F x := by kernel_rfl
theorem spec_l7Values.ok : ConOk Try.prog 158 c_spec_l7Values :=
  conOk_of_eq (con := c_spec_l7Values) (tab := tab) (Γ := (gam [(61, c_spec_l1In)] [] eqs)) (fn := Try.f158) (c := (match Try.f158.body with | some c => c | none => .skip)) (fun i x => spec_l7Values.L x) (fun i x => spec_l7Values.F x) rfl tabOk (gam_cons ⟨_, Try.func61, rfl, rfl⟩ spec_l1In.ok (gam_nil _ [] eqsOk)) Try.func158 rfl [4] (by kernel_rfl) spec_l7Values.eq fun i x h hi hw => spec_l7Values.pure x h hw

def c_spec_ShowTimes : Con := { io := false, I := .unit, ownI := [], A := (.list (.int .i64)), shA := [.one], ownA := [], backA := [], B := .unit, R := .str, shR := [(false, 1)], fresh := [], newR := false, pre := fun _ a => True, f := some fun _ a => ((fShowTimes a), ((), ())) }
def spec_ShowTimes.F  (a0 : (List Int)) : Prop := (True ∧ ∀ (r1 : Bool × (Unit × Unit)), ((r1 : Bool × (Unit × Unit)) = ((fRise a0), ((), ()))) → (caseB (!r1.1) ((([], ((), ())) : (List UInt8) × (Unit × Unit)) = ((fShowTimes a0), ((), ()))) (0 ≤ (0 : Int) ∧ ((0 : Int) < ((List.length a0 : Nat) : Int) ∧ (True ∧ ∀ (r2 : (List UInt8) × (Unit × Unit)), ((r2 : (List UInt8) × (Unit × Unit)) = ((fVar (List.getD a0 (Int.toNat (0 : Int)) (0 : Int))), ((), ()))) → (([(0, .val false [.lst (.int .i64) a0 none])] : List (Nat × Sv)) = [(0, .val false [.lst (.int .i64) a0 none])] ∧ ((tmJ a0 r2.1 1) ∧ ∀ (y3 : ((List UInt8) × Int)), (tmJ a0 y3.1 y3.2) → (caseB (decide (y3.2 < ((List.length a0 : Nat) : Int))) (0 ≤ y3.2 ∧ (y3.2 < ((List.length a0 : Nat) : Int) ∧ (0 ≤ (IntKind.wrap .i64 (y3.2 - (1 : Int))) ∧ ((IntKind.wrap .i64 (y3.2 - (1 : Int))) < ((List.length a0 : Nat) : Int) ∧ (caseB (y3.2 == (1 : Int)) (True ∧ ∀ (r4 : (List UInt8) × (Unit × Unit)), ((r4 : (List UInt8) × (Unit × Unit)) = ((fVar (IntKind.wrap .i64 ((List.getD a0 (Int.toNat y3.2) (0 : Int)) - (List.getD a0 (Int.toNat (IntKind.wrap .i64 (y3.2 - (1 : Int)))) (0 : Int))))), ((), ()))) → (List.length y3.1 + List.length r4.1 ≤ 9223372036854775807 ∧ (([(0, .val false [.lst (.int .i64) a0 none])] : List (Nat × Sv)) = [(0, .val false [.lst (.int .i64) a0 none])] ∧ (tmJ a0 (y3.1 ++ r4.1) (IntKind.wrap .i64 (y3.2 + (1 : Int)))) ∧ (tmM a0 (y3.1 ++ r4.1) (IntKind.wrap .i64 (y3.2 + (1 : Int)))) < (tmM a0 y3.1 y3.2)))) (0 ≤ (IntKind.wrap .i64 (y3.2 - (1 : Int))) ∧ ((IntKind.wrap .i64 (y3.2 - (1 : Int))) < ((List.length a0 : Nat) : Int) ∧ (0 ≤ (IntKind.wrap .i64 (y3.2 - (2 : Int))) ∧ ((IntKind.wrap .i64 (y3.2 - (2 : Int))) < ((List.length a0 : Nat) : Int) ∧ (True ∧ ∀ (r5 : Int × (Unit × Unit)), ((r5 : Int × (Unit × Unit)) = ((fZig (IntKind.wrap .i64 ((IntKind.wrap .i64 ((List.getD a0 (Int.toNat y3.2) (0 : Int)) - (List.getD a0 (Int.toNat (IntKind.wrap .i64 (y3.2 - (1 : Int)))) (0 : Int)))) - (IntKind.wrap .i64 ((List.getD a0 (Int.toNat (IntKind.wrap .i64 (y3.2 - (1 : Int)))) (0 : Int)) - (List.getD a0 (Int.toNat (IntKind.wrap .i64 (y3.2 - (2 : Int)))) (0 : Int))))))), ((), ()))) → (True ∧ ∀ (r6 : (List UInt8) × (Unit × Unit)), ((r6 : (List UInt8) × (Unit × Unit)) = ((fVar r5.1), ((), ()))) → (List.length y3.1 + List.length r6.1 ≤ 9223372036854775807 ∧ (([(0, .val false [.lst (.int .i64) a0 none])] : List (Nat × Sv)) = [(0, .val false [.lst (.int .i64) a0 none])] ∧ (tmJ a0 (y3.1 ++ r6.1) (IntKind.wrap .i64 (y3.2 + (1 : Int)))) ∧ (tmM a0 (y3.1 ++ r6.1) (IntKind.wrap .i64 (y3.2 + (1 : Int)))) < (tmM a0 y3.1 y3.2)))))))))))))) (((y3.1, ((), ())) : (List UInt8) × (Unit × Unit)) = ((fShowTimes a0), ((), ())))))))))))
def spec_ShowTimes.L  (a0 : (List Int)) : Nat → Option LoopAnn := fun p => Go.Proofs.Ythjlommbnfooaaa.Bv.look p [(122, { kp := { hold := [0], slots := [3, 4], boxes := [], rows := [] }, T := (.pair .str (.int .i64)), I := fun st y => tmJ a0 y.1 y.2, μ := fun st y => tmM a0 y.1 y.2 })]

theorem spec_ShowTimes.pure  (a0 : (List Int)) (h : True) (hw : Wf c_spec_ShowTimes.A a0) : spec_ShowTimes.F a0 := by
  unfold spec_ShowTimes.F
  have hw1 : a0.length ≤ maxLen := hw.1
  unfold maxLen at hw1
  simp only [forall_eq, true_and, and_true, caseB_iff, Prod.mk.injEq, decide_eq_true_eq, decide_eq_false_iff_not, Bool.not_eq_true', Bool.not_eq_false', bne_iff_ne, ne_eq, beq_iff_eq, Bool.not_true, Bool.not_false, beq_eq_false_iff_ne, bne_eq_false_iff_eq, List.length_append, List.length_cons, List.length_nil, List.append_nil, Nat.zero_add, decide_true, decide_false, eq_self_iff_true, tmJ, tmI, tmM]
  repeat' (with_reducible (first | (refine And.intro ?_ ?_) | intro _))
  all_goals (try simp (disch := omega) only [w64, wu8, tn0, tn1, tm1, tm2, List.length_append, List.length_cons, List.length_nil, n11, n12, tn_0, tn_1] at *)
  all_goals (try simp (disch := omega) only [w64, wu8, tn0, tn1, tm1, tm2, List.length_append, List.length_cons, List.length_nil, n11, n12, tn_0, tn_1] at *)
  all_goals (try omega)
  all_goals (try grind [fShowTimes, tmPiece, tmS, fRise_iff, riseAt_iff, fVar_length7])

set_option maxRecDepth 100000 in
theorem spec_ShowTimes.eq (i : El c_spec_ShowTimes.I) (x : El c_spec_ShowTimes.A) : vc tab (gam [(89, c_spec_Var), (156, c_spec_l7Rise), (157, c_spec_ZigZag)] [] eqs) (spec_ShowTimes.L x) (match Try.f139.body with | some c => c | none => .skip) 1 (initSt c_spec_ShowTimes Try.f139.ntmps i x) (bodyK tab c_spec_ShowTimes Try.f139.results.toList [9] i x) = spec_ShowTimes.F x := by kernel_rfl
theorem spec_ShowTimes.ok : ConOk Try.prog 139 c_spec_ShowTimes :=
  conOk_of_eq (con := c_spec_ShowTimes) (tab := tab) (Γ := (gam [(89, c_spec_Var), (156, c_spec_l7Rise), (157, c_spec_ZigZag)] [] eqs)) (fn := Try.f139) (c := (match Try.f139.body with | some c => c | none => .skip)) (fun i x => spec_ShowTimes.L x) (fun i x => spec_ShowTimes.F x) rfl tabOk (gam_cons ⟨_, Try.func89, rfl, rfl⟩ spec_Var.ok (gam_cons ⟨_, Try.func156, rfl, rfl⟩ spec_l7Rise.ok (gam_cons ⟨_, Try.func157, rfl, rfl⟩ spec_ZigZag.ok (gam_nil _ [] eqsOk)))) Try.func139 rfl [9] (by kernel_rfl) spec_ShowTimes.eq fun i x h hi hw => spec_ShowTimes.pure x h hw

def c_impl_ShowTimes : Con := { io := false, I := .unit, ownI := [], A := (.list (.int .i64)), shA := [.one], ownA := [], backA := [], B := .unit, R := .str, shR := [(false, 1)], fresh := [], newR := false, pre := fun _ a => (pInts a), f := some fun _ a => ((fShowTimes a), ((), ())) }
def impl_ShowTimes.F  (a0 : (List Int)) : Prop := (([(0, .val false [.lst (.int .i64) a0 none]), (6, .val false [.lst (.int .i64) a0 none]), (7, .val false [.int .i64 ((List.length a0 : Nat) : Int)])] : List (Nat × Sv)) = [(0, .val false [.lst (.int .i64) a0 none]), (6, .val false [.lst (.int .i64) a0 none]), (7, .val false [.int .i64 ((List.length a0 : Nat) : Int)])] ∧ ((tmI a0 [] 0) ∧ ∀ (y1 : ((List UInt8) × Int)), (tmI a0 y1.1 y1.2) → (caseB (decide (y1.2 < ((List.length a0 : Nat) : Int))) (0 ≤ y1.2 ∧ (y1.2 < ((List.length a0 : Nat) : Int) ∧ (True ∧ ∀ (r2 : Bool × (Unit × Unit)), ((r2 : Bool × (Unit × Unit)) = ((fIn (List.getD a0 (Int.toNat y1.2) (0 : Int)) 0 1099511627776), ((), ()))) → (caseB (!r2.1) ((([], ((), ())) : (List UInt8) × (Unit × Unit)) = ((fShowTimes a0), ((), ()))) (caseB (decide (y1.2 > (0 : Int))) (0 ≤ (IntKind.wrap .i64 (y1.2 - (1 : Int))) ∧ ((IntKind.wrap .i64 (y1.2 - (1 : Int))) < ((List.length a0 : Nat) : Int) ∧ (caseB (decide ((List.getD a0 (Int.toNat (IntKind.wrap .i64 (y1.2 - (1 : Int)))) (0 : Int)) ≥ (List.getD a0 (Int.toNat y1.2) (0 : Int)))) ((([], ((), ())) : (List UInt8) × (Unit × Unit)) = ((fShowTimes a0), ((), ()))) (caseB (y1.2 == (0 : Int)) (True ∧ ∀ (r3 : (List UInt8) × (Unit × Unit)), ((r3 : (List UInt8) × (Unit × Unit)) = ((fVar (List.getD a0 (Int.toNat y1.2) (0 : Int))), ((), ()))) → (List.length y1.1 + List.length r3.1 ≤ 9223372036854775807 ∧ (([(0, .val false [.lst (.int .i64) a0 none]), (6, .val false [.lst (.int .i64) a0 none]), (7, .val false [.int .i64 ((List.length a0 : Nat) : Int)])] : List (Nat × Sv)) = [(0, .val false [.lst (.int .i64) a0 none]), (6, .val false [.lst (.int .i64) a0 none]), (7, .val false [.int .i64 ((List.length a0 : Nat) : Int)])] ∧ (tmI a0 (y1.1 ++ r3.1) (IntKind.wrap .i64 (y1.2 + (1 : Int)))) ∧ (tmM a0 (y1.1 ++ r3.1) (IntKind.wrap .i64 (y1.2 + (1 : Int)))) < (tmM a0 y1.1 y1.2)))) (caseB (y1.2 == (1 : Int)) (0 ≤ (0 : Int) ∧ ((0 : Int) < ((List.length a0 : Nat) : Int) ∧ (True ∧ ∀ (r4 : (List UInt8) × (Unit × Unit)), ((r4 : (List UInt8) × (Unit × Unit)) = ((fVar (IntKind.wrap .i64 ((List.getD a0 (Int.toNat y1.2) (0 : Int)) - (List.getD a0 (Int.toNat (0 : Int)) (0 : Int))))), ((), ()))) → (List.length y1.1 + List.length r4.1 ≤ 9223372036854775807 ∧ (([(0, .val false [.lst (.int .i64) a0 none]), (6, .val false [.lst (.int .i64) a0 none]), (7, .val false [.int .i64 ((List.length a0 : Nat) : Int)])] : List (Nat × Sv)) = [(0, .val false [.lst (.int .i64) a0 none]), (6, .val false [.lst (.int .i64) a0 none]), (7, .val false [.int .i64 ((List.length a0 : Nat) : Int)])] ∧ (tmI a0 (y1.1 ++ r4.1) (IntKind.wrap .i64 (y1.2 + (1 : Int)))) ∧ (tmM a0 (y1.1 ++ r4.1) (IntKind.wrap .i64 (y1.2 + (1 : Int)))) < (tmM a0 y1.1 y1.2)))))) (0 ≤ (IntKind.wrap .i64 (y1.2 - (1 : Int))) ∧ ((IntKind.wrap .i64 (y1.2 - (1 : Int))) < ((List.length a0 : Nat) : Int) ∧ (0 ≤ (IntKind.wrap .i64 (y1.2 - (1 : Int))) ∧ ((IntKind.wrap .i64 (y1.2 - (1 : Int))) < ((List.length a0 : Nat) : Int) ∧ (0 ≤ (IntKind.wrap .i64 (y1.2 - (2 : Int))) ∧ ((IntKind.wrap .i64 (y1.2 - (2 : Int))) < ((List.length a0 : Nat) : Int) ∧ (True ∧ ∀ (r5 : (List UInt8) × (Unit × Unit)), ((r5 : (List UInt8) × (Unit × Unit)) = ((fZigV (IntKind.wrap .i64 ((IntKind.wrap .i64 ((List.getD a0 (Int.toNat y1.2) (0 : Int)) - (List.getD a0 (Int.toNat (IntKind.wrap .i64 (y1.2 - (1 : Int)))) (0 : Int)))) - (IntKind.wrap .i64 ((List.getD a0 (Int.toNat (IntKind.wrap .i64 (y1.2 - (1 : Int)))) (0 : Int)) - (List.getD a0 (Int.toNat (IntKind.wrap .i64 (y1.2 - (2 : Int)))) (0 : Int))))))), ((), ()))) → (List.length y1.1 + List.length r5.1 ≤ 9223372036854775807 ∧ (([(0, .val false [.lst (.int .i64) a0 none]), (6, .val false [.lst (.int .i64) a0 none]), (7, .val false [.int .i64 ((List.length a0 : Nat) : Int)])] : List (Nat × Sv)) = [(0, .val false [.lst (.int .i64) a0 none]), (6, .val false [.lst (.int .i64) a0 none]), (7, .val false [.int .i64 ((List.length a0 : Nat) : Int)])] ∧ (tmI a0 (y1.1 ++ r5.1) (IntKind.wrap .i64 (y1.2 + (1 : Int)))) ∧ (tmM a0 (y1.1 ++ r5.1) (IntKind.wrap .i64 (y1.2 + (1 : Int)))) < (tmM a0 y1.1 y1.2))))))))))))))) (caseB (y1.2 == (0 : Int)) (True ∧ ∀ (r6 : (List UInt8) × (Unit × Unit)), ((r6 : (List UInt8) × (Unit × Unit)) = ((fVar (List.getD a0 (Int.toNat y1.2) (0 : Int))), ((), ()))) → (List.length y1.1 + List.length r6.1 ≤ 9223372036854775807 ∧ (([(0, .val false [.lst (.int .i64) a0 none]), (6, .val false [.lst (.int .i64) a0 none]), (7, .val false [.int .i64 ((List.length a0 : Nat) : Int)])] : List (Nat × Sv)) = [(0, .val false [.lst (.int .i64) a0 none]), (6, .val false [.lst (.int .i64) a0 none]), (7, .val false [.int .i64 ((List.length a0 : Nat) : Int)])] ∧ (tmI a0 (y1.1 ++ r6.1) (IntKind.wrap .i64 (y1.2 + (1 : Int)))) ∧ (tmM a0 (y1.1 ++ r6.1) (IntKind.wrap .i64 (y1.2 + (1 : Int)))) < (tmM a0 y1.1 y1.2)))) (caseB (y1.2 == (1 : Int)) (0 ≤ (0 : Int) ∧ ((0 : Int) < ((List.length a0 : Nat) : Int) ∧ (True ∧ ∀ (r7 : (List UInt8) × (Unit × Unit)), ((r7 : (List UInt8) × (Unit × Unit)) = ((fVar (IntKind.wrap .i64 ((List.getD a0 (Int.toNat y1.2) (0 : Int)) - (List.getD a0 (Int.toNat (0 : Int)) (0 : Int))))), ((), ()))) → (List.length y1.1 + List.length r7.1 ≤ 9223372036854775807 ∧ (([(0, .val false [.lst (.int .i64) a0 none]), (6, .val false [.lst (.int .i64) a0 none]), (7, .val false [.int .i64 ((List.length a0 : Nat) : Int)])] : List (Nat × Sv)) = [(0, .val false [.lst (.int .i64) a0 none]), (6, .val false [.lst (.int .i64) a0 none]), (7, .val false [.int .i64 ((List.length a0 : Nat) : Int)])] ∧ (tmI a0 (y1.1 ++ r7.1) (IntKind.wrap .i64 (y1.2 + (1 : Int)))) ∧ (tmM a0 (y1.1 ++ r7.1) (IntKind.wrap .i64 (y1.2 + (1 : Int)))) < (tmM a0 y1.1 y1.2)))))) (0 ≤ (IntKind.wrap .i64 (y1.2 - (1 : Int))) ∧ ((IntKind.wrap .i64 (y1.2 - (1 : Int))) < ((List.length a0 : Nat) : Int) ∧ (0 ≤ (IntKind.wrap .i64 (y1.2 - (1 : Int))) ∧ ((IntKind.wrap .i64 (y1.2 - (1 : Int))) < ((List.length a0 : Nat) : Int) ∧ (0 ≤ (IntKind.wrap .i64 (y1.2 - (2 : Int))) ∧ ((IntKind.wrap .i64 (y1.2 - (2 : Int))) < ((List.length a0 : Nat) : Int) ∧ (True ∧ ∀ (r8 : (List UInt8) × (Unit × Unit)), ((r8 : (List UInt8) × (Unit × Unit)) = ((fZigV (IntKind.wrap .i64 ((IntKind.wrap .i64 ((List.getD a0 (Int.toNat y1.2) (0 : Int)) - (List.getD a0 (Int.toNat (IntKind.wrap .i64 (y1.2 - (1 : Int)))) (0 : Int)))) - (IntKind.wrap .i64 ((List.getD a0 (Int.toNat (IntKind.wrap .i64 (y1.2 - (1 : Int)))) (0 : Int)) - (List.getD a0 (Int.toNat (IntKind.wrap .i64 (y1.2 - (2 : Int)))) (0 : Int))))))), ((), ()))) → (List.length y1.1 + List.length r8.1 ≤ 9223372036854775807 ∧ (([(0, .val false [.lst (.int .i64) a0 none]), (6, .val false [.lst (.int .i64) a0 none]), (7, .val false [.int .i64 ((List.length a0 : Nat) : Int)])] : List (Nat × Sv)) = [(0, .val false [.lst (.int .i64) a0 none]), (6, .val false [.lst (.int .i64) a0 none]), (7, .val false [.int .i64 ((List.length a0 : Nat) : Int)])] ∧ (tmI a0 (y1.1 ++ r8.1) (IntKind.wrap .i64 (y1.2 + (1 : Int)))) ∧ (tmM a0 (y1.1 ++ r8.1) (IntKind.wrap .i64 (y1.2 + (1 : Int)))) < (tmM a0 y1.1 y1.2))))))))))))))))) (True ∧ ∀ (r9 : Bool × (Unit × Unit)), ((r9 : Bool × (Unit × Unit)) = ((fIn ((List.length a0 : Nat) : Int) 1 60), ((), ()))) → (caseB (!r9.1) ((([], ((), ())) : (List UInt8) × (Unit × Unit)) = ((fShowTimes a0), ((), ()))) (((y1.1, ((), ())) : (List UInt8) × (Unit × Unit)) = ((fShowTimes a0), ((), ()))))))))
def impl_ShowTimes.L  (a0 : (List Int)) : Nat → Option LoopAnn := fun p => Go.Proofs.Ythjlommbnfooaaa.Bv.look p [(58, { kp := { hold := [0, 6, 7], slots := [3, 8], boxes := [], rows := [] }, T := (.pair .str (.int .i64)), I := fun st y => tmI a0 y.1 y.2, μ := fun st y => tmM a0 y.1 y.2 })]

theorem impl_ShowTimes.pure  (a0 : (List Int)) (h : (pInts a0)) (hw : Wf c_impl_ShowTimes.A a0) : impl_ShowTimes.F a0 := by
  unfold impl_ShowTimes.F
  have hw1 : a0.length ≤ maxLen := hw.1
  unfold maxLen at hw1
  have hp : a0.length ≤ 1099511627776 := h
  simp only [forall_eq, true_and, and_true, caseB_iff, Prod.mk.injEq, decide_eq_true_eq, decide_eq_false_iff_not, Bool.not_eq_true', Bool.not_eq_false', bne_iff_ne, ne_eq, beq_iff_eq, Bool.not_true, Bool.not_false, beq_eq_false_iff_ne, bne_eq_false_iff_eq, List.length_append, List.length_cons, List.length_nil, List.append_nil, Nat.zero_add, decide_true, decide_false, eq_self_iff_true, tmI, tmM, fZigV, fIn_iff, fIn_no]
  repeat' (with_reducible (first | (refine And.intro ?_ ?_) | intro _))
  all_goals (try simp (disch := omega) only [w64, wu8, tn0, tn1, tm1, tm2, List.length_append, List.length_cons, List.length_nil, n11, n12, tn_0, tn_1] at *)
  all_goals (try simp (disch := omega) only [w64, wu8, tn0, tn1, tm1, tm2, List.length_append, List.length_cons, List.length_nil, n11, n12, tn_0, tn_1] at *)
  all_goals (try omega)
  all_goals (try grind [fShowTimes, tmPiece, tmS, fRise_iff, riseAt_iff, fVar_length7])

set_option maxRecDepth 100000 in
theorem impl_ShowTimes.eq (i : El c_impl_ShowTimes.I) (x : El c_impl_ShowTimes.A) : vc tab (gam [(68, c_impl_from), (95, c_impl_Var), (160, c_impl_zig)] [] eqs) (impl_ShowTimes.L x) (match Try.f144.body with | some c => c | none => .skip) 1 (initSt c_impl_ShowTimes Try.f144.ntmps i x) (bodyK tab c_impl_ShowTimes Try.f144.results.toList [9] i x) = impl_ShowTimes.F x := by kernel_rfl
theorem impl_ShowTimes.ok : ConOk Try.prog 144 c_impl_ShowTimes :=
  conOk_of_eq (con := c_impl_ShowTimes) (tab := tab) (Γ := (gam [(68, c_impl_from), (95, c_impl_Var), (160, c_impl_zig)] [] eqs)) (fn := Try.f144) (c := (match Try.f144.body with | some c => c | none => .skip)) (fun i x => impl_ShowTimes.L x) (fun i x => impl_ShowTimes.F x) rfl tabOk (gam_cons ⟨_, Try.func68, rfl, rfl⟩ impl_from.ok (gam_cons ⟨_, Try.func95, rfl, rfl⟩ impl_Var.ok (gam_cons ⟨_, Try.func160, rfl, rfl⟩ impl_zig.ok (gam_nil _ [] eqsOk)))) Try.func144 rfl [9] (by kernel_rfl) impl_ShowTimes.eq fun i x h hi hw => impl_ShowTimes.pure x h hw

def c_spec_ShowValues : Con := { io := false, I := .unit, ownI := [], A := (.list (.int .i64)), shA := [.one], ownA := [], backA := [], B := .unit, R := .str, shR := [(false, 1)], fresh := [], newR := false, pre := fun _ a => True, f := some fun _ a => ((fShowValues a), ((), ())) }
def spec_ShowValues.F  (a0 : (List Int)) : Prop := (True ∧ ∀ (r1 : Bool × (Unit × Unit)), ((r1 : Bool × (Unit × Unit)) = ((fVals a0), ((), ()))) → (caseB (!r1.1) ((([], ((), ())) : (List UInt8) × (Unit × Unit)) = ((fShowValues a0), ((), ()))) (([(0, .val false [.lst (.int .i64) a0 none])] : List (Nat × Sv)) = [(0, .val false [.lst (.int .i64) a0 none])] ∧ ((vlJ a0 [] 0 0) ∧ ∀ (y2 : ((List UInt8) × (Int × Int))), (vlJ a0 y2.1 y2.2.1 y2.2.2) → (caseB (decide (y2.2.2 < ((List.length a0 : Nat) : Int))) (0 ≤ y2.2.2 ∧ (y2.2.2 < ((List.length a0 : Nat) : Int) ∧ (True ∧ ∀ (r3 : Int × (Unit × Unit)), ((r3 : Int × (Unit × Unit)) = ((fZig (IntKind.wrap .i64 ((List.getD a0 (Int.toNat y2.2.2) (0 : Int)) - y2.2.1))), ((), ()))) → (True ∧ ∀ (r4 : (List UInt8) × (Unit × Unit)), ((r4 : (List UInt8) × (Unit × Unit)) = ((fVar r3.1), ((), ()))) → (List.length y2.1 + List.length r4.1 ≤ 9223372036854775807 ∧ (0 ≤ y2.2.2 ∧ (y2.2.2 < ((List.length a0 : Nat) : Int) ∧ (([(0, .val false [.lst (.int .i64) a0 none])] : List (Nat × Sv)) = [(0, .val false [.lst (.int .i64) a0 none])] ∧ (vlJ a0 (y2.1 ++ r4.1) (List.getD a0 (Int.toNat y2.2.2) (0 : Int)) (IntKind.wrap .i64 (y2.2.2 + (1 : Int)))) ∧ (vlM a0 (y2.1 ++ r4.1) (List.getD a0 (Int.toNat y2.2.2) (0 : Int)) (IntKind.wrap .i64 (y2.2.2 + (1 : Int)))) < (vlM a0 y2.1 y2.2.1 y2.2.2))))))))) (((y2.1, ((), ())) : (List UInt8) × (Unit × Unit)) = ((fShowValues a0), ((), ()))))))))
def spec_ShowValues.L  (a0 : (List Int)) : Nat → Option LoopAnn := fun p => Go.Proofs.Ythjlommbnfooaaa.Bv.look p [(250, { kp := { hold := [0], slots := [3, 4, 5], boxes := [], rows := [] }, T := (.pair .str (.pair (.int .i64) (.int .i64))), I := fun st y => vlJ a0 y.1 y.2.1 y.2.2, μ := fun st y => vlM a0 y.1 y.2.1 y.2.2 })]

theorem spec_ShowValues.pure  (a0 : (List Int)) (h : True) (hw : Wf c_spec_ShowValues.A a0) : spec_ShowValues.F a0 := by
  unfold spec_ShowValues.F
  have hw1 : a0.length ≤ maxLen := hw.1
  unfold maxLen at hw1
  simp only [forall_eq, true_and, and_true, caseB_iff, Prod.mk.injEq, decide_eq_true_eq, decide_eq_false_iff_not, Bool.not_eq_true', Bool.not_eq_false', bne_iff_ne, ne_eq, beq_iff_eq, Bool.not_true, Bool.not_false, beq_eq_false_iff_ne, bne_eq_false_iff_eq, List.length_append, List.length_cons, List.length_nil, List.append_nil, Nat.zero_add, decide_true, decide_false, eq_self_iff_true, vlJ, vlI, vlM]
  repeat' (with_reducible (first | (refine And.intro ?_ ?_) | intro _))
  all_goals (try simp (disch := omega) only [w64, wu8, tn0, tn1, tm1, tm2, List.length_append, List.length_cons, List.length_nil, n11] at *)
  all_goals (try simp (disch := omega) only [w64, wu8, tn0, tn1, tm1, tm2, List.length_append, List.length_cons, List.length_nil, n11] at *)
  all_goals (try omega)
  all_goals (try grind [fShowValues, vlPiece, vlS, fVals_iff, valAt_iff, fVar_length7])

set_option maxRecDepth 100000 in
theorem spec_ShowValues.eq (i : El c_spec_ShowValues.I) (x : El c_spec_ShowValues.A) : vc tab (gam [(89, c_spec_Var), (157, c_spec_ZigZag), (158, c_spec_l7Values)] [] eqs) (spec_ShowValues.L x) (match Try.f140.body with | some c => c | none => .skip) 1 (initSt c_spec_ShowValues Try.f140.ntmps i x) (bodyK tab c_spec_ShowValues Try.f140.results.toList [9] i x) = spec_ShowValues.F x := by kernel_rfl
theorem spec_ShowValues.ok : ConOk Try.prog 140 c_spec_ShowValues :=
  conOk_of_eq (con := c_spec_ShowValues) (tab := tab) (Γ := (gam [(89, c_spec_Var), (157, c_spec_ZigZag), (158, c_spec_l7Values)] [] eqs)) (fn := Try.f140) (c := (match Try.f140.body with | some c => c | none => .skip)) (fun i x => spec_ShowValues.L x) (fun i x => spec_ShowValues.F x) rfl tabOk (gam_cons ⟨_, Try.func89, rfl, rfl⟩ spec_Var.ok (gam_cons ⟨_, Try.func157, rfl, rfl⟩ spec_ZigZag.ok (gam_cons ⟨_, Try.func158, rfl, rfl⟩ spec_l7Values.ok (gam_nil _ [] eqsOk)))) Try.func140 rfl [9] (by kernel_rfl) spec_ShowValues.eq fun i x h hi hw => spec_ShowValues.pure x h hw

def c_impl_ShowValues : Con := { io := false, I := .unit, ownI := [], A := (.list (.int .i64)), shA := [.one], ownA := [], backA := [], B := .unit, R := .str, shR := [(false, 1)], fresh := [], newR := false, pre := fun _ a => (pInts a), f := some fun _ a => ((fShowValues a), ((), ())) }
def impl_ShowValues.F  (a0 : (List Int)) : Prop := (([(0, .val false [.lst (.int .i64) a0 none]), (7, .val false [.lst (.int .i64) a0 none]), (8, .val false [.int .i64 ((List.length a0 : Nat) : Int)])] : List (Nat × Sv)) = [(0, .val false [.lst (.int .i64) a0 none]), (7, .val false [.lst (.int .i64) a0 none]), (8, .val false [.int .i64 ((List.length a0 : Nat) : Int)])] ∧ ((vlI a0 [] 0 0) ∧ ∀ (y1 : ((List UInt8) × (Int × Int))), (vlI a0 y1.1 y1.2.1 y1.2.2) → (caseB (decide (y1.2.2 < ((List.length a0 : Nat) : Int))) (0 ≤ y1.2.2 ∧ (y1.2.2 < ((List.length a0 : Nat) : Int) ∧ (True ∧ ∀ (r2 : Bool × (Unit × Unit)), ((r2 : Bool × (Unit × Unit)) = ((fIn (List.getD a0 (Int.toNat y1.2.2) (0 : Int)) (-1099511627776) 1099511627776), ((), ()))) → (caseB (!r2.1) ((([], ((), ())) : (List UInt8) × (Unit × Unit)) = ((fShowValues a0), ((), ()))) (True ∧ ∀ (r3 : (List UInt8) × (Unit × Unit)), ((r3 : (List UInt8) × (Unit × Unit)) = ((fZigV (IntKind.wrap .i64 ((List.getD a0 (Int.toNat y1.2.2) (0 : Int)) - y1.2.1))), ((), ()))) → (List.length y1.1 + List.length r3.1 ≤ 9223372036854775807 ∧ (([(0, .val false [.lst (.int .i64) a0 none]), (7, .val false [.lst (.int .i64) a0 none]), (8, .val false [.int .i64 ((List.length a0 : Nat) : Int)])] : List (Nat × Sv)) = [(0, .val false [.lst (.int .i64) a0 none]), (7, .val false [.lst (.int .i64) a0 none]), (8, .val false [.int .i64 ((List.length a0 : Nat) : Int)])] ∧ (vlI a0 (y1.1 ++ r3.1) (List.getD a0 (Int.toNat y1.2.2) (0 : Int)) (IntKind.wrap .i64 (y1.2.2 + (1 : Int)))) ∧ (vlM a0 (y1.1 ++ r3.1) (List.getD a0 (Int.toNat y1.2.2) (0 : Int)) (IntKind.wrap .i64 (y1.2.2 + (1 : Int)))) < (vlM a0 y1.1 y1.2.1 y1.2.2)))))))) (True ∧ ∀ (r4 : Bool × (Unit × Unit)), ((r4 : Bool × (Unit × Unit)) = ((fIn ((List.length a0 : Nat) : Int) 1 60), ((), ()))) → (caseB (!r4.1) ((([], ((), ())) : (List UInt8) × (Unit × Unit)) = ((fShowValues a0), ((), ()))) (((y1.1, ((), ())) : (List UInt8) × (Unit × Unit)) = ((fShowValues a0), ((), ()))))))))
def impl_ShowValues.L  (a0 : (List Int)) : Nat → Option LoopAnn := fun p => Go.Proofs.Ythjlommbnfooaaa.Bv.look p [(122, { kp := { hold := [0, 7, 8], slots := [3, 4, 9], boxes := [], rows := [] }, T := (.pair .str (.pair (.int .i64) (.int .i64))), I := fun st y => vlI a0 y.1 y.2.1 y.2.2, μ := fun st y => vlM a0 y.1 y.2.1 y.2.2 })]

theorem impl_ShowValues.pure  (a0 : (List Int)) (h : (pInts a0)) (hw : Wf c_impl_ShowValues.A a0) : impl_ShowValues.F a0 := by
  unfold impl_ShowValues.F
  have hw1 : a0.length ≤ maxLen := hw.1
  unfold maxLen at hw1
  have hp : a0.length ≤ 1099511627776 := h
  simp only [forall_eq, true_and, and_true, caseB_iff, Prod.mk.injEq, decide_eq_true_eq, decide_eq_false_iff_not, Bool.not_eq_true', Bool.not_eq_false', bne_iff_ne, ne_eq, beq_iff_eq, Bool.not_true, Bool.not_false, beq_eq_false_iff_ne, bne_eq_false_iff_eq, List.length_append, List.length_cons, List.length_nil, List.append_nil, Nat.zero_add, decide_true, decide_false, eq_self_iff_true, vlI, vlM, fZigV, fIn_iff, fIn_no]
  repeat' (with_reducible (first | (refine And.intro ?_ ?_) | intro _))
  all_goals (try simp (disch := omega) only [w64, wu8, tn0, tn1, tm1, tm2, List.length_append, List.length_cons, List.length_nil, n11] at *)
  all_goals (try simp (disch := omega) only [w64, wu8, tn0, tn1, tm1, tm2, List.length_append, List.length_cons, List.length_nil, n11] at *)
  all_goals (try omega)
  all_goals (try grind [fShowValues, vlPiece, vlS, fVals_iff, valAt_iff, fVar_length7])

set_option maxRecDepth 100000 in
theorem impl_ShowValues.eq (i : El c_impl_ShowValues.I) (x : El c_impl_ShowValues.A) : vc tab (gam [(68, c_impl_from), (160, c_impl_zig)] [] eqs) (impl_ShowValues.L x) (match Try.f145.body with | some c => c | none => .skip) 1 (initSt c_impl_ShowValues Try.f145.ntmps i x) (bodyK tab c_impl_ShowValues Try.f145.results.toList [9] i x) = impl_ShowValues.F x := by kernel_rfl
theorem impl_ShowValues.ok : ConOk Try.prog 145 c_impl_ShowValues :=
  conOk_of_eq (con := c_impl_ShowValues) (tab := tab) (Γ := (gam [(68, c_impl_from), (160, c_impl_zig)] [] eqs)) (fn := Try.f145) (c := (match Try.f145.body with | some c => c | none => .skip)) (fun i x => impl_ShowValues.L x) (fun i x => impl_ShowValues.F x) rfl tabOk (gam_cons ⟨_, Try.func68, rfl, rfl⟩ impl_from.ok (gam_cons ⟨_, Try.func160, rfl, rfl⟩ impl_zig.ok (gam_nil _ [] eqsOk))) Try.func145 rfl [9] (by kernel_rfl) impl_ShowValues.eq fun i x h hi hw => impl_ShowValues.pure x h hw

end Go.Proofs.Ythjlommbnfooaaa.B
