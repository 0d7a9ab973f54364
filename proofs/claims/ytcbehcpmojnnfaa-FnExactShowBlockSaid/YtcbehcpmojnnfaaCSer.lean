/- Series of points: are they right? -/
import Derived.Test.YtcbehcpmojnnfaaCCover
namespace Go.Proofs.Ytcbehcpmojnnfaa.B
set_option linter.unusedVariables false
set_option linter.unusedSimpArgs false
open Go Go.Proofs.Ytcbehcpmojnnfaa.Bv

abbrev Pt := Int × Int
abbrev Ser := List UInt8 × List (Int × Int)
def fTime (a : Int) : Bool := fIn a 0 1099511627776
def allB (p : Nat → Bool) (n : Nat) : Bool := (List.range n).all p
theorem all_yes {p : Nat → Bool} {n : Nat} (h : ∀ j, j < n → p j = true) : allB p n = true := by
  simp only [allB, List.all_eq_true, List.mem_range]; exact h
theorem all_no {p : Nat → Bool} {n j : Nat} (h : j < n) (hp : p j = false) : allB p n = false := by
  cases e : allB p n with
  | false => rfl
  | true =>
    simp only [allB, List.all_eq_true, List.mem_range] at e
    rw [e j h] at hp; cases hp
theorem all_more {p : Nat → Bool} {i : Int} (h0 : 0 ≤ i) (h : ∀ j, j < i.toNat → p j = true) (hp : p i.toNat = true) : ∀ j, j < (i + 1).toNat → p j = true := fun j hj => by
  by_cases e : j = i.toNat
  · rw [e]; exact hp
  · exact h j (by omega)

def ptAt (l : List Pt) (i : Nat) : Bool := fIn (l.getD i (0, 0)).1 0 1099511627776 && (fIn (l.getD i (0, 0)).2 (-1099511627776) 1099511627776 && (decide (i = 0) || decide ((l.getD (i - 1) (0, 0)).1 < (l.getD i (0, 0)).1)))
def fPtsOk (l : List Pt) : Bool := decide (l.length ≤ 60) && allB (ptAt l) l.length
def ptI (l : List Pt) (i : Int) : Prop := 0 ≤ i ∧ i ≤ l.length ∧ ∀ j, j < i.toNat → ptAt l j = true
def ptM (l : List Pt) (i : Int) : Nat := (l.length - i).toNat
theorem pts_no {l : List Pt} {j : Nat} (h : j < l.length) (hp : ptAt l j = false) : false = fPtsOk l := by simp [fPtsOk, all_no h hp]

def chAt (s : List UInt8) (i : Nat) : Bool := decide ((97 : Int) ≤ ((s.getD i 0).toNat : Int)) && decide (((s.getD i 0).toNat : Int) ≤ 122)
def fKey (s : List UInt8) : Bool := fIn s.length 1 8 && allB (chAt s) s.length
def chI (s : List UInt8) (i : Int) : Prop := 0 ≤ i ∧ i ≤ s.length ∧ ∀ j, j < i.toNat → chAt s j = true
def chM (s : List UInt8) (i : Int) : Nat := (s.length - i).toNat
theorem key_no {s : List UInt8} {j : Nat} (h : j < s.length) (hp : chAt s j = false) : false = fKey s := by simp [fKey, all_no h hp]

def srAt (l : List Ser) (i : Nat) : Bool := fKey (l.getD i ([], [])).1 && ((decide (i = 0) || Op.bytesLess (l.getD (i - 1) ([], [])).1 (l.getD i ([], [])).1) && (decide ((l.getD i ([], [])).2.length ≠ 0) && fPtsOk (l.getD i ([], [])).2))
def fSerOk (l : List Ser) : Bool := decide (l.length ≤ 5) && allB (srAt l) l.length
def srI (l : List Ser) (i : Int) : Prop := 0 ≤ i ∧ i ≤ l.length ∧ ∀ j, j < i.toNat → srAt l j = true
def srM (l : List Ser) (i : Int) : Nat := (l.length - i).toNat
theorem ser_no {l : List Ser} {j : Nat} (h : j < l.length) (hp : srAt l j = false) : false = fSerOk l := by simp [fSerOk, all_no h hp]

/-! Copies. -/
theorem set_fill {α : Type} (a : List α) (d : α) (i : Nat) (hi : i < a.length) : (a.take i ++ List.replicate (a.length - i) d).set i (a.getD i d) = a.take (i + 1) ++ List.replicate (a.length - (i + 1)) d := by
  have e : a.length - i = (a.length - (i + 1)) + 1 := by omega
  have hl : (a.take i).length = i := by rw [List.length_take]; omega
  rw [e, List.replicate_succ, List.set_append_right _ _ (by omega), hl, Nat.sub_self, List.set_cons_zero, List.take_add_one, List.getElem?_eq_getElem hi, List.getD_eq_getElem?_getD, List.getElem?_eq_getElem hi, List.append_assoc]
  rfl
def toG {α : Type} (d : α) (a : List α) (i : Int) (out : List α) : Prop := 0 ≤ i ∧ i ≤ a.length ∧ out = a.take i.toNat ++ List.replicate (a.length - i.toNat) d
theorem toG_len {α : Type} {d : α} {a : List α} {i : Int} {out : List α} (h : toG d a i out) : out.length = a.length := by
  obtain ⟨h1, h2, h3⟩ := h
  rw [h3, List.length_append, List.length_take, List.length_replicate]; omega
theorem toG_step {α : Type} {d : α} {a : List α} {i : Int} {out : List α} (h : toG d a i out) (hi : i < a.length) : toG d a (i + 1) (out.set i.toNat (a.getD i.toNat d)) := by
  obtain ⟨h1, h2, h3⟩ := h
  refine ⟨by omega, by omega, ?_⟩
  have e : (i + 1).toNat = i.toNat + 1 := by omega
  rw [e, h3, set_fill a d i.toNat (by omega)]
theorem toG_end {α : Type} {d : α} {a : List α} {i : Int} {out : List α} (h : toG d a i out) (hi : ¬ i < a.length) : out = a := by
  obtain ⟨h1, h2, h3⟩ := h
  have e : i.toNat = a.length := by omega
  rw [h3, e, List.take_length, Nat.sub_self]; simp
def toPI (a : List Pt) (i : Int) (out : List Pt) : Prop := toG (0, 0) a i out
def toPM (a : List Pt) (i : Int) (out : List Pt) : Nat := (a.length - i).toNat
def toSI (a : List Ser) (i : Int) (out : List Ser) : Prop := toG ([], []) a i out
def toSM (a : List Ser) (i : Int) (out : List Ser) : Nat := (a.length - i).toNat
def fPt (a : Pt) : Pt := a
def pPtS (l : List Pt) : Prop := l.length ≤ 1048576
def fPtS (l : List Pt) : List Pt := l
def pSer (s : Ser) : Prop := s.2.length ≤ 1048576
def fSer (s : Ser) : Ser := s
def pSerS (l : List Ser) : Prop := l.length ≤ 1048576 ∧ ∀ s ∈ l, s.2.length ≤ 1048576
def fSerS (l : List Ser) : List Ser := l

/-! Sizes. -/
def pLeft (left : Int) : Prop := 0 ≤ left ∧ left ≤ 1048576
def pszPts (l : List Pt) (left : Int) : Prop := pLeft left
def szPts (l : List Pt) (left : Int) : Int := if left - l.length < 0 then -1 else left - l.length
def pszSer (s : Ser) (left : Int) : Prop := s.1.length ≤ maxLen ∧ pLeft left
def szSer (s : Ser) (left : Int) : Int := if left - s.1.length < 0 then -1 else szPts s.2 (left - s.1.length)
def szAll : List Ser → Int → Int
  | [], left => left
  | s :: l, left => if szSer s left < 0 then -1 else szAll l (szSer s left)
def pszSerS (l : List Ser) (left : Int) : Prop := (∀ s ∈ l, s.1.length ≤ maxLen) ∧ pLeft left
def szSerS (l : List Ser) (left : Int) : Int := if left - l.length < 0 then -1 else szAll l (left - l.length)
def szI (a : List Ser) (left0 left i : Int) : Prop := 0 ≤ i ∧ i ≤ a.length ∧ pLeft left ∧ szSerS a left0 = szAll (a.drop i.toNat) left
def szM (a : List Ser) (left0 left i : Int) : Nat := (a.length - i).toNat
theorem szSer_le {s : Ser} {left : Int} (h : pLeft left) (h0 : ¬ szSer s left < 0) : pLeft (szSer s left) ∧ s.2.length ≤ 1048576 := by
  unfold pLeft at *
  unfold szSer szPts at *
  split at h0
  · exact absurd (by decide) h0
  · split at h0
    · exact absurd (by decide) h0
    · rename_i h1 h2
      rw [if_neg h1, if_neg h2]
      omega
theorem szAll_le : ∀ {l : List Ser} {left : Int}, pLeft left → ¬ szAll l left < 0 → ∀ s ∈ l, s.2.length ≤ 1048576
  | [], left, _, _, s, hs => by cases hs
  | x :: l, left, h, h0, s, hs => by
    simp only [szAll] at h0
    split at h0
    · exact absurd (by decide) h0
    · rename_i h1
      obtain ⟨h2, h3⟩ := szSer_le h h1
      rcases List.mem_cons.1 hs with e | hs
      · rw [e]; exact h3
      · exact szAll_le h2 h0 s hs
theorem szSerS_le {l : List Ser} (h0 : ¬ szSerS l 1048576 < 0) : pSerS l := by
  unfold szSerS at h0
  split at h0
  · exact absurd (by decide) h0
  · rename_i h1
    exact ⟨by omega, szAll_le ⟨by omega, by omega⟩ h0⟩

/-! Are they alike? -/
def eqPt (a b : Pt) : Bool := decide (a = b)
def eqPts (l k : List Pt) : Bool := decide (l = k)
def eqSer (a b : Ser) : Bool := decide (a = b)
def eqSerS (l k : List Ser) : Bool := decide (l = k)
def eqG {α : Type} (a b : List α) (i : Int) : Prop := 0 ≤ i ∧ i ≤ a.length ∧ a.length = b.length ∧ a.take i.toNat = b.take i.toNat
def eqPI (a b : List Pt) (i : Int) : Prop := eqG a b i
def eqPM (a b : List Pt) (i : Int) : Nat := (a.length - i).toNat
def eqSI (a b : List Ser) (i : Int) : Prop := eqG a b i
def eqSM (a b : List Ser) (i : Int) : Nat := (a.length - i).toNat
theorem eqG_step {α : Type} {d : α} {a b : List α} {i : Int} (h : eqG a b i) (hi : i < a.length) (he : a.getD i.toNat d = b.getD i.toNat d) : eqG a b (i + 1) := by
  obtain ⟨h1, h2, h3, h4⟩ := h
  refine ⟨by omega, by omega, h3, ?_⟩
  have e : (i + 1).toNat = i.toNat + 1 := by omega
  rw [List.getD_eq_getElem?_getD, List.getD_eq_getElem?_getD, List.getElem?_eq_getElem (by omega), List.getElem?_eq_getElem (by omega)] at he
  rw [e, List.take_add_one, List.take_add_one, h4, List.getElem?_eq_getElem (by omega), List.getElem?_eq_getElem (by omega)]
  simp only [Option.getD_some] at he
  rw [he]
theorem eqG_end {α : Type} {a b : List α} {i : Int} (h : eqG a b i) (hi : ¬ i < a.length) : a = b := by
  obtain ⟨h1, h2, h3, h4⟩ := h
  have e : i.toNat = a.length := by omega
  rw [e, List.take_length, h3, List.take_length] at h4
  exact h4

def c_impl_isTime : Con := { io := false, I := .unit, ownI := [], A := (.int .i64), shA := [.one], ownA := [], backA := [], B := .unit, R := .bool, shR := [(false, 1)], fresh := [], newR := false, pre := fun _ a => True, f := some fun _ a => ((fTime a), ((), ())) }
def impl_isTime.F  (a0 : Int) : Prop := (True ∧ ∀ (r1 : Bool × (Unit × Unit)), ((r1 : Bool × (Unit × Unit)) = ((fIn a0 0 1099511627776), ((), ()))) → (((r1.1, ((), ())) : Bool × (Unit × Unit)) = ((fTime a0), ((), ()))))
def impl_isTime.L  (a0 : Int) : Nat → Option LoopAnn := fun p => Go.Proofs.Ytcbehcpmojnnfaa.Bv.look p []

theorem impl_isTime.pure  (a0 : Int) (h : True) (hw : Wf c_impl_isTime.A a0) : impl_isTime.F a0 := by
  unfold impl_isTime.F
  simp only [forall_eq, true_and, and_true, Prod.mk.injEq]
  rfl

set_option maxRecDepth 100000 in
theorem impl_isTime.eq (i : El c_impl_isTime.I) (x : El c_impl_isTime.A) : vc tab (gam [(68, c_impl_from)] []) (impl_isTime.L x) (match Try.f69.body with | some c => c | none => .skip) 1 (initSt c_impl_isTime Try.f69.ntmps i x) (bodyK tab c_impl_isTime Try.f69.results.toList [4] i x) = impl_isTime.F x := by kernel_rfl
theorem impl_isTime.ok : ConOk Try.prog 69 c_impl_isTime :=
  conOk_of_eq (con := c_impl_isTime) (tab := tab) (Γ := (gam [(68, c_impl_from)] [])) (fn := Try.f69) (c := (match Try.f69.body with | some c => c | none => .skip)) (fun i x => impl_isTime.L x) (fun i x => impl_isTime.F x) rfl tabOk (gam_cons ⟨_, Try.func68, rfl, rfl⟩ impl_from.ok (gam_nil _ [])) Try.func69 rfl [4] (by kernel_rfl) impl_isTime.eq fun i x h hi hw => impl_isTime.pure x h hw

def c_spec_PointsOk : Con := { io := false, I := .unit, ownI := [], A := (.list (.pair (.int .i64) (.int .i64))), shA := [.one], ownA := [], backA := [], B := .unit, R := .bool, shR := [(false, 1)], fresh := [], newR := false, pre := fun _ a => True, f := some fun _ a => ((fPtsOk a), ((), ())) }
def spec_PointsOk.F  (a0 : (List (Int × Int))) : Prop := (caseB (decide (((List.length a0 : Nat) : Int) > (60 : Int))) (((false, ((), ())) : Bool × (Unit × Unit)) = ((fPtsOk a0), ((), ()))) (([(0, .val false [.lst (.pair (.int .i64) (.int .i64)) a0 none])] : List (Nat × Sv)) = [(0, .val false [.lst (.pair (.int .i64) (.int .i64)) a0 none])] ∧ ((ptI a0 0) ∧ ∀ (y1 : Int), (ptI a0 y1) → (caseB (decide (y1 < ((List.length a0 : Nat) : Int))) (0 ≤ y1 ∧ (y1 < ((List.length a0 : Nat) : Int) ∧ (True ∧ ∀ (r2 : Bool × (Unit × Unit)), ((r2 : Bool × (Unit × Unit)) = ((fIn ((List.getD a0 (Int.toNat y1) ((0 : Int), (0 : Int))).1) 0 1099511627776), ((), ()))) → (caseB (!r2.1) (((false, ((), ())) : Bool × (Unit × Unit)) = ((fPtsOk a0), ((), ()))) (0 ≤ y1 ∧ (y1 < ((List.length a0 : Nat) : Int) ∧ (True ∧ ∀ (r3 : Bool × (Unit × Unit)), ((r3 : Bool × (Unit × Unit)) = ((fIn ((List.getD a0 (Int.toNat y1) ((0 : Int), (0 : Int))).2) (-1099511627776) 1099511627776), ((), ()))) → (caseB (!r3.1) (((false, ((), ())) : Bool × (Unit × Unit)) = ((fPtsOk a0), ((), ()))) (caseB (decide (y1 > (0 : Int))) (0 ≤ (IntKind.wrap .i64 (y1 - (1 : Int))) ∧ ((IntKind.wrap .i64 (y1 - (1 : Int))) < ((List.length a0 : Nat) : Int) ∧ (0 ≤ y1 ∧ (y1 < ((List.length a0 : Nat) : Int) ∧ (caseB (decide (((List.getD a0 (Int.toNat (IntKind.wrap .i64 (y1 - (1 : Int)))) ((0 : Int), (0 : Int))).1) ≥ ((List.getD a0 (Int.toNat y1) ((0 : Int), (0 : Int))).1))) (((false, ((), ())) : Bool × (Unit × Unit)) = ((fPtsOk a0), ((), ()))) (([(0, .val false [.lst (.pair (.int .i64) (.int .i64)) a0 none])] : List (Nat × Sv)) = [(0, .val false [.lst (.pair (.int .i64) (.int .i64)) a0 none])] ∧ (ptI a0 (IntKind.wrap .i64 (y1 + (1 : Int)))) ∧ (ptM a0 (IntKind.wrap .i64 (y1 + (1 : Int)))) < (ptM a0 y1))))))) (([(0, .val false [.lst (.pair (.int .i64) (.int .i64)) a0 none])] : List (Nat × Sv)) = [(0, .val false [.lst (.pair (.int .i64) (.int .i64)) a0 none])] ∧ (ptI a0 (IntKind.wrap .i64 (y1 + (1 : Int)))) ∧ (ptM a0 (IntKind.wrap .i64 (y1 + (1 : Int)))) < (ptM a0 y1))))))))))) (((true, ((), ())) : Bool × (Unit × Unit)) = ((fPtsOk a0), ((), ())))))))
def spec_PointsOk.L  (a0 : (List (Int × Int))) : Nat → Option LoopAnn := fun p => Go.Proofs.Ytcbehcpmojnnfaa.Bv.look p [(58, { kp := { hold := [0], slots := [3], boxes := [], rows := [] }, T := (.int .i64), I := fun st y => ptI a0 y, μ := fun st y => ptM a0 y })]

theorem spec_PointsOk.pure  (a0 : (List (Int × Int))) (h : True) (hw : Wf c_spec_PointsOk.A a0) : spec_PointsOk.F a0 := by
  unfold spec_PointsOk.F
  have hw1 : a0.length ≤ maxLen := hw.1
  unfold maxLen at hw1
  simp only [forall_eq, true_and, and_true, caseB_iff, Prod.mk.injEq, decide_eq_true_eq, decide_eq_false_iff_not, Bool.not_eq_true', Bool.not_eq_false']
  refine ⟨fun h1 => ?_, fun h1 => ⟨⟨by omega, by omega, fun j hj => absurd hj (by simp)⟩, ?_⟩⟩
  · have : ¬ a0.length ≤ 60 := by omega
    simp [fPtsOk, this]
  rintro i ⟨h2, h3, h4⟩
  have fin : ¬ i < (a0.length : Int) → true = fPtsOk a0 := fun hi => by
    have : allB (ptAt a0) a0.length = true := all_yes fun j hj => h4 j (by omega)
    have h60 : a0.length ≤ 60 := by omega
    simp [fPtsOk, this, h60]
  refine ⟨?_, fin⟩
  intro hi
  have e2 : IntKind.wrap .i64 (i + 1) = i + 1 := Go.IntWalk.i64_in _ (by omega)
  have e1 : IntKind.wrap .i64 (i - 1) = i - 1 := Go.IntWalk.i64_in _ (by omega)
  have e3 : (i - 1).toNat = i.toNat - 1 := by omega
  rw [e1, e2, e3]
  have no : ptAt a0 i.toNat = false → false = fPtsOk a0 := fun hp => pts_no (by omega) hp
  have yes : ptAt a0 i.toNat = true → ptI a0 (i + 1) ∧ ptM a0 (i + 1) < ptM a0 i := fun hp => ⟨⟨by omega, by omega, all_more h2 h4 hp⟩, by unfold ptM; omega⟩
  refine ⟨h2, hi, fun t1 => no (by unfold ptAt; rw [t1]; rfl), fun t1 => ⟨h2, hi, ?_, fun t2 => ⟨fun hp => ⟨by omega, by omega, h2, hi, ?_, ?_⟩, fun hp => ?_⟩⟩⟩
  · intro t2; exact no (by unfold ptAt; rw [t1, t2]; rfl)
  · intro t3; exact no (by unfold ptAt; rw [t1, t2, decide_eq_false (by omega : ¬ i.toNat = 0), decide_eq_false (by omega)]; rfl)
  · intro t3; exact yes (by unfold ptAt; rw [t1, t2, decide_eq_true (by omega : (a0.getD (i.toNat - 1) (0, 0)).1 < (a0.getD i.toNat (0, 0)).1), Bool.or_true]; rfl)
  · exact yes (by unfold ptAt; rw [t1, t2, decide_eq_true (by omega : i.toNat = 0)]; rfl)

set_option maxRecDepth 100000 in
theorem spec_PointsOk.eq (i : El c_spec_PointsOk.I) (x : El c_spec_PointsOk.A) : vc tab (gam [(67, c_spec_l1In)] []) (spec_PointsOk.L x) (match Try.f40.body with | some c => c | none => .skip) 1 (initSt c_spec_PointsOk Try.f40.ntmps i x) (bodyK tab c_spec_PointsOk Try.f40.results.toList [4] i x) = spec_PointsOk.F x := by kernel_rfl
theorem spec_PointsOk.ok : ConOk Try.prog 40 c_spec_PointsOk :=
  conOk_of_eq (con := c_spec_PointsOk) (tab := tab) (Γ := (gam [(67, c_spec_l1In)] [])) (fn := Try.f40) (c := (match Try.f40.body with | some c => c | none => .skip)) (fun i x => spec_PointsOk.L x) (fun i x => spec_PointsOk.F x) rfl tabOk (gam_cons ⟨_, Try.func67, rfl, rfl⟩ spec_l1In.ok (gam_nil _ [])) Try.func40 rfl [4] (by kernel_rfl) spec_PointsOk.eq fun i x h hi hw => spec_PointsOk.pure x h hw

def c_impl_PointsOk : Con := { io := false, I := .unit, ownI := [], A := (.list (.pair (.int .i64) (.int .i64))), shA := [.one], ownA := [], backA := [], B := .unit, R := .bool, shR := [(false, 1)], fresh := [], newR := false, pre := fun _ a => True, f := some fun _ a => ((fPtsOk a), ((), ())) }
def impl_PointsOk.F  (a0 : (List (Int × Int))) : Prop := (([(0, .val false [.lst (.pair (.int .i64) (.int .i64)) a0 none]), (5, .val false [.lst (.pair (.int .i64) (.int .i64)) a0 none]), (6, .val false [.int .i64 ((List.length a0 : Nat) : Int)])] : List (Nat × Sv)) = [(0, .val false [.lst (.pair (.int .i64) (.int .i64)) a0 none]), (5, .val false [.lst (.pair (.int .i64) (.int .i64)) a0 none]), (6, .val false [.int .i64 ((List.length a0 : Nat) : Int)])] ∧ ((ptI a0 0) ∧ ∀ (y1 : Int), (ptI a0 y1) → (caseB (decide (y1 < ((List.length a0 : Nat) : Int))) (0 ≤ y1 ∧ (y1 < ((List.length a0 : Nat) : Int) ∧ (True ∧ ∀ (r2 : Bool × (Unit × Unit)), ((r2 : Bool × (Unit × Unit)) = ((fIn ((List.getD a0 (Int.toNat y1) ((0 : Int), (0 : Int))).1) 0 1099511627776), ((), ()))) → (caseB (!r2.1) (((false, ((), ())) : Bool × (Unit × Unit)) = ((fPtsOk a0), ((), ()))) (True ∧ ∀ (r3 : Bool × (Unit × Unit)), ((r3 : Bool × (Unit × Unit)) = ((fIn ((List.getD a0 (Int.toNat y1) ((0 : Int), (0 : Int))).2) (-1099511627776) 1099511627776), ((), ()))) → (caseB (!r3.1) (((false, ((), ())) : Bool × (Unit × Unit)) = ((fPtsOk a0), ((), ()))) (caseB (decide (y1 > (0 : Int))) (0 ≤ (IntKind.wrap .i64 (y1 - (1 : Int))) ∧ ((IntKind.wrap .i64 (y1 - (1 : Int))) < ((List.length a0 : Nat) : Int) ∧ (caseB (decide (((List.getD a0 (Int.toNat (IntKind.wrap .i64 (y1 - (1 : Int)))) ((0 : Int), (0 : Int))).1) ≥ ((List.getD a0 (Int.toNat y1) ((0 : Int), (0 : Int))).1))) (((false, ((), ())) : Bool × (Unit × Unit)) = ((fPtsOk a0), ((), ()))) (([(0, .val false [.lst (.pair (.int .i64) (.int .i64)) a0 none]), (5, .val false [.lst (.pair (.int .i64) (.int .i64)) a0 none]), (6, .val false [.int .i64 ((List.length a0 : Nat) : Int)])] : List (Nat × Sv)) = [(0, .val false [.lst (.pair (.int .i64) (.int .i64)) a0 none]), (5, .val false [.lst (.pair (.int .i64) (.int .i64)) a0 none]), (6, .val false [.int .i64 ((List.length a0 : Nat) : Int)])] ∧ (ptI a0 (IntKind.wrap .i64 (y1 + (1 : Int)))) ∧ (ptM a0 (IntKind.wrap .i64 (y1 + (1 : Int)))) < (ptM a0 y1))))) (([(0, .val false [.lst (.pair (.int .i64) (.int .i64)) a0 none]), (5, .val false [.lst (.pair (.int .i64) (.int .i64)) a0 none]), (6, .val false [.int .i64 ((List.length a0 : Nat) : Int)])] : List (Nat × Sv)) = [(0, .val false [.lst (.pair (.int .i64) (.int .i64)) a0 none]), (5, .val false [.lst (.pair (.int .i64) (.int .i64)) a0 none]), (6, .val false [.int .i64 ((List.length a0 : Nat) : Int)])] ∧ (ptI a0 (IntKind.wrap .i64 (y1 + (1 : Int)))) ∧ (ptM a0 (IntKind.wrap .i64 (y1 + (1 : Int)))) < (ptM a0 y1))))))))) ((((decide (((List.length a0 : Nat) : Int) ≤ (60 : Int))), ((), ())) : Bool × (Unit × Unit)) = ((fPtsOk a0), ((), ()))))))
def impl_PointsOk.L  (a0 : (List (Int × Int))) : Nat → Option LoopAnn := fun p => Go.Proofs.Ytcbehcpmojnnfaa.Bv.look p [(26, { kp := { hold := [0, 5, 6], slots := [7], boxes := [], rows := [] }, T := (.int .i64), I := fun st y => ptI a0 y, μ := fun st y => ptM a0 y })]

theorem impl_PointsOk.pure  (a0 : (List (Int × Int))) (h : True) (hw : Wf c_impl_PointsOk.A a0) : impl_PointsOk.F a0 := by
  unfold impl_PointsOk.F
  have hw1 : a0.length ≤ maxLen := hw.1
  unfold maxLen at hw1
  simp only [forall_eq, true_and, and_true, caseB_iff, Prod.mk.injEq, decide_eq_true_eq, decide_eq_false_iff_not, Bool.not_eq_true', Bool.not_eq_false']
  refine ⟨⟨by omega, by omega, fun j hj => absurd hj (by simp)⟩, ?_⟩
  rintro i ⟨h2, h3, h4⟩
  have fin : ¬ i < (a0.length : Int) → decide ((a0.length : Int) ≤ 60) = fPtsOk a0 := fun hi => by
    have : allB (ptAt a0) a0.length = true := all_yes fun j hj => h4 j (by omega)
    simp [fPtsOk, this]; omega
  refine ⟨?_, fin⟩
  intro hi
  have e2 : IntKind.wrap .i64 (i + 1) = i + 1 := Go.IntWalk.i64_in _ (by omega)
  have e1 : IntKind.wrap .i64 (i - 1) = i - 1 := Go.IntWalk.i64_in _ (by omega)
  have e3 : (i - 1).toNat = i.toNat - 1 := by omega
  rw [e1, e2, e3]
  have no : ptAt a0 i.toNat = false → false = fPtsOk a0 := fun hp => pts_no (by omega) hp
  have yes : ptAt a0 i.toNat = true → ptI a0 (i + 1) ∧ ptM a0 (i + 1) < ptM a0 i := fun hp => ⟨⟨by omega, by omega, all_more h2 h4 hp⟩, by unfold ptM; omega⟩
  refine ⟨h2, hi, fun t1 => no (by unfold ptAt; rw [t1]; rfl), fun t1 => ⟨?_, fun t2 => ⟨fun hp => ⟨by omega, by omega, ?_, ?_⟩, fun hp => ?_⟩⟩⟩
  · intro t2; exact no (by unfold ptAt; rw [t1, t2]; rfl)
  · intro t3; exact no (by unfold ptAt; rw [t1, t2, decide_eq_false (by omega : ¬ i.toNat = 0), decide_eq_false (by omega)]; rfl)
  · intro t3; exact yes (by unfold ptAt; rw [t1, t2, decide_eq_true (by omega : (a0.getD (i.toNat - 1) (0, 0)).1 < (a0.getD i.toNat (0, 0)).1), Bool.or_true]; rfl)
  · exact yes (by unfold ptAt; rw [t1, t2, decide_eq_true (by omega : i.toNat = 0)]; rfl)

set_option maxRecDepth 100000 in
theorem impl_PointsOk.eq (i : El c_impl_PointsOk.I) (x : El c_impl_PointsOk.A) : vc tab (gam [(68, c_impl_from)] []) (impl_PointsOk.L x) (match Try.f44.body with | some c => c | none => .skip) 1 (initSt c_impl_PointsOk Try.f44.ntmps i x) (bodyK tab c_impl_PointsOk Try.f44.results.toList [4] i x) = impl_PointsOk.F x := by kernel_rfl
theorem impl_PointsOk.ok : ConOk Try.prog 44 c_impl_PointsOk :=
  conOk_of_eq (con := c_impl_PointsOk) (tab := tab) (Γ := (gam [(68, c_impl_from)] [])) (fn := Try.f44) (c := (match Try.f44.body with | some c => c | none => .skip)) (fun i x => impl_PointsOk.L x) (fun i x => impl_PointsOk.F x) rfl tabOk (gam_cons ⟨_, Try.func68, rfl, rfl⟩ impl_from.ok (gam_nil _ [])) Try.func44 rfl [4] (by kernel_rfl) impl_PointsOk.eq fun i x h hi hw => impl_PointsOk.pure x h hw

def pKey (s : List UInt8) : Prop := s.length ≤ maxLen
def c_spec_l9Key : Con := { io := false, I := .unit, ownI := [], A := .str, shA := [.one], ownA := [], backA := [], B := .unit, R := .bool, shR := [(false, 1)], fresh := [], newR := false, pre := fun _ a => (pKey a), f := some fun _ a => ((fKey a), ((), ())) }
def spec_l9Key.F  (a0 : (List UInt8)) : Prop := (True ∧ ∀ (r1 : Bool × (Unit × Unit)), ((r1 : Bool × (Unit × Unit)) = ((fIn ((List.length a0 : Nat) : Int) 1 8), ((), ()))) → (caseB (!r1.1) (((false, ((), ())) : Bool × (Unit × Unit)) = ((fKey a0), ((), ()))) (([(0, .val false [.str a0])] : List (Nat × Sv)) = [(0, .val false [.str a0])] ∧ ((chI a0 0) ∧ ∀ (y2 : Int), (chI a0 y2) → (caseB (decide (y2 < ((List.length a0 : Nat) : Int))) (0 ≤ y2 ∧ (y2 < ((List.length a0 : Nat) : Int) ∧ (caseB (decide (((UInt8.toNat (List.getD a0 (Int.toNat y2) 0) : Nat) : Int) < (97 : Int))) (((false, ((), ())) : Bool × (Unit × Unit)) = ((fKey a0), ((), ()))) (0 ≤ y2 ∧ (y2 < ((List.length a0 : Nat) : Int) ∧ (caseB (decide (((UInt8.toNat (List.getD a0 (Int.toNat y2) 0) : Nat) : Int) > (122 : Int))) (((false, ((), ())) : Bool × (Unit × Unit)) = ((fKey a0), ((), ()))) (([(0, .val false [.str a0])] : List (Nat × Sv)) = [(0, .val false [.str a0])] ∧ (chI a0 (IntKind.wrap .i64 (y2 + (1 : Int)))) ∧ (chM a0 (IntKind.wrap .i64 (y2 + (1 : Int)))) < (chM a0 y2)))))))) (((true, ((), ())) : Bool × (Unit × Unit)) = ((fKey a0), ((), ()))))))))
def spec_l9Key.L  (a0 : (List UInt8)) : Nat → Option LoopAnn := fun p => Go.Proofs.Ytcbehcpmojnnfaa.Bv.look p [(58, { kp := { hold := [0], slots := [3], boxes := [], rows := [] }, T := (.int .i64), I := fun st y => chI a0 y, μ := fun st y => chM a0 y })]

theorem spec_l9Key.pure  (a0 : (List UInt8)) (h : (pKey a0)) (hw : Wf c_spec_l9Key.A a0) : spec_l9Key.F a0 := by
  unfold spec_l9Key.F
  have hw1 : a0.length ≤ maxLen := h
  unfold maxLen at hw1
  simp only [forall_eq, true_and, and_true, caseB_iff, Prod.mk.injEq, decide_eq_true_eq, decide_eq_false_iff_not, Bool.not_eq_true', Bool.not_eq_false']
  refine ⟨fun h1 => by simp [fKey, h1], fun h1 => ⟨⟨by omega, by omega, fun j hj => absurd hj (by simp)⟩, ?_⟩⟩
  have hin : ¬ (a0.length : Int) > 8 := by
    simp only [fIn, Bool.and_eq_true, decide_eq_true_eq] at h1; omega
  rintro i ⟨h2, h3, h4⟩
  have fin : ¬ i < (a0.length : Int) → true = fKey a0 := fun hi => by
    have : allB (chAt a0) a0.length = true := all_yes fun j hj => h4 j (by omega)
    simp [fKey, this, h1]
  refine ⟨?_, fin⟩
  intro hi
  have e2 : IntKind.wrap .i64 (i + 1) = i + 1 := Go.IntWalk.i64_in _ (by omega)
  rw [e2]
  have no : chAt a0 i.toNat = false → false = fKey a0 := fun hp => key_no (by omega) hp
  refine ⟨h2, hi, fun t1 => no (by unfold chAt; rw [decide_eq_false (by omega)]; rfl), fun t1 => ⟨h2, hi, fun t2 => no (by unfold chAt; rw [decide_eq_false (p := _ ≤ (122 : Int)) (by omega), Bool.and_false]), fun t2 => ?_⟩⟩
  exact ⟨⟨by omega, by omega, all_more h2 h4 (by unfold chAt; rw [decide_eq_true (by omega), decide_eq_true (by omega)]; rfl)⟩, by unfold chM; omega⟩

set_option maxRecDepth 100000 in
theorem spec_l9Key.eq (i : El c_spec_l9Key.I) (x : El c_spec_l9Key.A) : vc tab (gam [(67, c_spec_l1In)] []) (spec_l9Key.L x) (match Try.f85.body with | some c => c | none => .skip) 1 (initSt c_spec_l9Key Try.f85.ntmps i x) (bodyK tab c_spec_l9Key Try.f85.results.toList [4] i x) = spec_l9Key.F x := by kernel_rfl
theorem spec_l9Key.ok : ConOk Try.prog 85 c_spec_l9Key :=
  conOk_of_eq (con := c_spec_l9Key) (tab := tab) (Γ := (gam [(67, c_spec_l1In)] [])) (fn := Try.f85) (c := (match Try.f85.body with | some c => c | none => .skip)) (fun i x => spec_l9Key.L x) (fun i x => spec_l9Key.F x) rfl tabOk (gam_cons ⟨_, Try.func67, rfl, rfl⟩ spec_l1In.ok (gam_nil _ [])) Try.func85 rfl [4] (by kernel_rfl) spec_l9Key.eq fun i x h hi hw => spec_l9Key.pure x h hw

def c_impl_keyOk : Con := { io := false, I := .unit, ownI := [], A := .str, shA := [.one], ownA := [], backA := [], B := .unit, R := .bool, shR := [(false, 1)], fresh := [], newR := false, pre := fun _ a => (pKey a), f := some fun _ a => ((fKey a), ((), ())) }
def impl_keyOk.F  (a0 : (List UInt8)) : Prop := (([(0, .val false [.str a0]), (5, .val false [.int .i64 ((List.length a0 : Nat) : Int)])] : List (Nat × Sv)) = [(0, .val false [.str a0]), (5, .val false [.int .i64 ((List.length a0 : Nat) : Int)])] ∧ ((chI a0 0) ∧ ∀ (y1 : Int), (chI a0 y1) → (caseB (decide (y1 < ((List.length a0 : Nat) : Int))) (0 ≤ y1 ∧ (y1 < ((List.length a0 : Nat) : Int) ∧ (caseB (decide (((UInt8.toNat (List.getD a0 (Int.toNat y1) 0) : Nat) : Int) < (97 : Int))) (((false, ((), ())) : Bool × (Unit × Unit)) = ((fKey a0), ((), ()))) (0 ≤ y1 ∧ (y1 < ((List.length a0 : Nat) : Int) ∧ (caseB (decide (((UInt8.toNat (List.getD a0 (Int.toNat y1) 0) : Nat) : Int) > (122 : Int))) (((false, ((), ())) : Bool × (Unit × Unit)) = ((fKey a0), ((), ()))) (([(0, .val false [.str a0]), (5, .val false [.int .i64 ((List.length a0 : Nat) : Int)])] : List (Nat × Sv)) = [(0, .val false [.str a0]), (5, .val false [.int .i64 ((List.length a0 : Nat) : Int)])] ∧ (chI a0 (IntKind.wrap .i64 (y1 + (1 : Int)))) ∧ (chM a0 (IntKind.wrap .i64 (y1 + (1 : Int)))) < (chM a0 y1)))))))) (True ∧ ∀ (r2 : Bool × (Unit × Unit)), ((r2 : Bool × (Unit × Unit)) = ((fIn ((List.length a0 : Nat) : Int) 1 8), ((), ()))) → (((r2.1, ((), ())) : Bool × (Unit × Unit)) = ((fKey a0), ((), ())))))))
def impl_keyOk.L  (a0 : (List UInt8)) : Nat → Option LoopAnn := fun p => Go.Proofs.Ytcbehcpmojnnfaa.Bv.look p [(26, { kp := { hold := [0, 5], slots := [6], boxes := [], rows := [] }, T := (.int .i64), I := fun st y => chI a0 y, μ := fun st y => chM a0 y })]

theorem impl_keyOk.pure  (a0 : (List UInt8)) (h : (pKey a0)) (hw : Wf c_impl_keyOk.A a0) : impl_keyOk.F a0 := by
  unfold impl_keyOk.F
  have hw1 : a0.length ≤ maxLen := h
  unfold maxLen at hw1
  simp only [forall_eq, true_and, and_true, caseB_iff, Prod.mk.injEq, decide_eq_true_eq, decide_eq_false_iff_not, Bool.not_eq_true', Bool.not_eq_false']
  refine ⟨⟨by omega, by omega, fun j hj => absurd hj (by simp)⟩, ?_⟩
  rintro i ⟨h2, h3, h4⟩
  have fin : ¬ i < (a0.length : Int) → fIn (a0.length : Int) 1 8 = fKey a0 := fun hi => by
    have : allB (chAt a0) a0.length = true := all_yes fun j hj => h4 j (by omega)
    simp [fKey, this]
  refine ⟨?_, fin⟩
  intro hi
  have e2 : IntKind.wrap .i64 (i + 1) = i + 1 := Go.IntWalk.i64_in _ (by omega)
  rw [e2]
  have no : chAt a0 i.toNat = false → false = fKey a0 := fun hp => key_no (by omega) hp
  refine ⟨h2, hi, fun t1 => no (by unfold chAt; rw [decide_eq_false (by omega)]; rfl), fun t1 => ⟨h2, hi, fun t2 => no (by unfold chAt; rw [decide_eq_false (p := _ ≤ (122 : Int)) (by omega), Bool.and_false]), fun t2 => ?_⟩⟩
  exact ⟨⟨by omega, by omega, all_more h2 h4 (by unfold chAt; rw [decide_eq_true (by omega), decide_eq_true (by omega)]; rfl)⟩, by unfold chM; omega⟩

set_option maxRecDepth 100000 in
theorem impl_keyOk.eq (i : El c_impl_keyOk.I) (x : El c_impl_keyOk.A) : vc tab (gam [(68, c_impl_from)] []) (impl_keyOk.L x) (match Try.f87.body with | some c => c | none => .skip) 1 (initSt c_impl_keyOk Try.f87.ntmps i x) (bodyK tab c_impl_keyOk Try.f87.results.toList [4] i x) = impl_keyOk.F x := by kernel_rfl
theorem impl_keyOk.ok : ConOk Try.prog 87 c_impl_keyOk :=
  conOk_of_eq (con := c_impl_keyOk) (tab := tab) (Γ := (gam [(68, c_impl_from)] [])) (fn := Try.f87) (c := (match Try.f87.body with | some c => c | none => .skip)) (fun i x => impl_keyOk.L x) (fun i x => impl_keyOk.F x) rfl tabOk (gam_cons ⟨_, Try.func68, rfl, rfl⟩ impl_from.ok (gam_nil _ [])) Try.func87 rfl [4] (by kernel_rfl) impl_keyOk.eq fun i x h hi hw => impl_keyOk.pure x h hw

def pSerOk (l : List Ser) : Prop := ∀ s ∈ l, s.1.length ≤ maxLen
theorem ser_key {l : List Ser} (h : pSerOk l) {i : Int} (h0 : 0 ≤ i) (hi : i < l.length) : pKey (l.getD i.toNat ([], [])).1 := by
  have hlt : i.toNat < l.length := by omega
  rw [List.getD_eq_getElem?_getD, List.getElem?_eq_getElem hlt]
  exact h _ (List.getElem_mem hlt)
def c_spec_SeriesOk : Con := { io := false, I := .unit, ownI := [], A := (.list (.pair .str (.list (.pair (.int .i64) (.int .i64))))), shA := [.one], ownA := [], backA := [], B := .unit, R := .bool, shR := [(false, 1)], fresh := [], newR := false, pre := fun _ a => (pSerOk a), f := some fun _ a => ((fSerOk a), ((), ())) }
def spec_SeriesOk.F  (a0 : (List ((List UInt8) × (List (Int × Int))))) : Prop := (caseB (decide (((List.length a0 : Nat) : Int) > (5 : Int))) (((false, ((), ())) : Bool × (Unit × Unit)) = ((fSerOk a0), ((), ()))) (([(0, .val false [.lst (.pair .str (.list (.pair (.int .i64) (.int .i64)))) a0 none])] : List (Nat × Sv)) = [(0, .val false [.lst (.pair .str (.list (.pair (.int .i64) (.int .i64)))) a0 none])] ∧ ((srI a0 0) ∧ ∀ (y1 : Int), (srI a0 y1) → (caseB (decide (y1 < ((List.length a0 : Nat) : Int))) (0 ≤ y1 ∧ (y1 < ((List.length a0 : Nat) : Int) ∧ ((pKey ((List.getD a0 (Int.toNat y1) (([] : (List UInt8)), ([] : (List (Int × Int))))).1)) ∧ ∀ (r2 : Bool × (Unit × Unit)), ((r2 : Bool × (Unit × Unit)) = ((fKey ((List.getD a0 (Int.toNat y1) (([] : (List UInt8)), ([] : (List (Int × Int))))).1)), ((), ()))) → (caseB (!r2.1) (((false, ((), ())) : Bool × (Unit × Unit)) = ((fSerOk a0), ((), ()))) (caseB (decide (y1 > (0 : Int))) (0 ≤ (IntKind.wrap .i64 (y1 - (1 : Int))) ∧ ((IntKind.wrap .i64 (y1 - (1 : Int))) < ((List.length a0 : Nat) : Int) ∧ (0 ≤ y1 ∧ (y1 < ((List.length a0 : Nat) : Int) ∧ (caseB (!Op.bytesLess ((List.getD a0 (Int.toNat (IntKind.wrap .i64 (y1 - (1 : Int)))) (([] : (List UInt8)), ([] : (List (Int × Int))))).1) ((List.getD a0 (Int.toNat y1) (([] : (List UInt8)), ([] : (List (Int × Int))))).1)) (((false, ((), ())) : Bool × (Unit × Unit)) = ((fSerOk a0), ((), ()))) (0 ≤ y1 ∧ (y1 < ((List.length a0 : Nat) : Int) ∧ (caseB (((List.length ((List.getD a0 (Int.toNat y1) (([] : (List UInt8)), ([] : (List (Int × Int))))).2) : Nat) : Int) == (0 : Int)) (((false, ((), ())) : Bool × (Unit × Unit)) = ((fSerOk a0), ((), ()))) (0 ≤ y1 ∧ (y1 < ((List.length a0 : Nat) : Int) ∧ (True ∧ ∀ (r3 : Bool × (Unit × Unit)), ((r3 : Bool × (Unit × Unit)) = ((fPtsOk ((List.getD a0 (Int.toNat y1) (([] : (List UInt8)), ([] : (List (Int × Int))))).2)), ((), ()))) → (caseB (!r3.1) (((false, ((), ())) : Bool × (Unit × Unit)) = ((fSerOk a0), ((), ()))) (([(0, .val false [.lst (.pair .str (.list (.pair (.int .i64) (.int .i64)))) a0 none])] : List (Nat × Sv)) = [(0, .val false [.lst (.pair .str (.list (.pair (.int .i64) (.int .i64)))) a0 none])] ∧ (srI a0 (IntKind.wrap .i64 (y1 + (1 : Int)))) ∧ (srM a0 (IntKind.wrap .i64 (y1 + (1 : Int)))) < (srM a0 y1)))))))))))))) (0 ≤ y1 ∧ (y1 < ((List.length a0 : Nat) : Int) ∧ (caseB (((List.length ((List.getD a0 (Int.toNat y1) (([] : (List UInt8)), ([] : (List (Int × Int))))).2) : Nat) : Int) == (0 : Int)) (((false, ((), ())) : Bool × (Unit × Unit)) = ((fSerOk a0), ((), ()))) (0 ≤ y1 ∧ (y1 < ((List.length a0 : Nat) : Int) ∧ (True ∧ ∀ (r4 : Bool × (Unit × Unit)), ((r4 : Bool × (Unit × Unit)) = ((fPtsOk ((List.getD a0 (Int.toNat y1) (([] : (List UInt8)), ([] : (List (Int × Int))))).2)), ((), ()))) → (caseB (!r4.1) (((false, ((), ())) : Bool × (Unit × Unit)) = ((fSerOk a0), ((), ()))) (([(0, .val false [.lst (.pair .str (.list (.pair (.int .i64) (.int .i64)))) a0 none])] : List (Nat × Sv)) = [(0, .val false [.lst (.pair .str (.list (.pair (.int .i64) (.int .i64)))) a0 none])] ∧ (srI a0 (IntKind.wrap .i64 (y1 + (1 : Int)))) ∧ (srM a0 (IntKind.wrap .i64 (y1 + (1 : Int)))) < (srM a0 y1)))))))))))))) (((true, ((), ())) : Bool × (Unit × Unit)) = ((fSerOk a0), ((), ())))))))
def spec_SeriesOk.L  (a0 : (List ((List UInt8) × (List (Int × Int))))) : Nat → Option LoopAnn := fun p => Go.Proofs.Ytcbehcpmojnnfaa.Bv.look p [(58, { kp := { hold := [0], slots := [3], boxes := [], rows := [] }, T := (.int .i64), I := fun st y => srI a0 y, μ := fun st y => srM a0 y })]

theorem spec_SeriesOk.pure  (a0 : (List ((List UInt8) × (List (Int × Int))))) (h : (pSerOk a0)) (hw : Wf c_spec_SeriesOk.A a0) : spec_SeriesOk.F a0 := by
  unfold spec_SeriesOk.F
  have hw1 : a0.length ≤ maxLen := hw.1
  unfold maxLen at hw1
  simp only [forall_eq, true_and, and_true, caseB_iff, Prod.mk.injEq, decide_eq_true_eq, decide_eq_false_iff_not, Bool.not_eq_true', Bool.not_eq_false']
  refine ⟨fun h1 => ?_, fun h1 => ⟨⟨by omega, by omega, fun j hj => absurd hj (by simp)⟩, ?_⟩⟩
  · have : ¬ a0.length ≤ 5 := by omega
    simp [fSerOk, this]
  rintro i ⟨h2, h3, h4⟩
  have fin : ¬ i < (a0.length : Int) → true = fSerOk a0 := fun hi => by
    have : allB (srAt a0) a0.length = true := all_yes fun j hj => h4 j (by omega)
    have h60 : a0.length ≤ 5 := by omega
    simp [fSerOk, this, h60]
  refine ⟨?_, fin⟩
  intro hi
  have e2 : IntKind.wrap .i64 (i + 1) = i + 1 := Go.IntWalk.i64_in _ (by omega)
  have e1 : IntKind.wrap .i64 (i - 1) = i - 1 := Go.IntWalk.i64_in _ (by omega)
  have e3 : (i - 1).toNat = i.toNat - 1 := by omega
  rw [e1, e2, e3]
  have no : srAt a0 i.toNat = false → false = fSerOk a0 := fun hp => ser_no (by omega) hp
  have yes : srAt a0 i.toNat = true → srI a0 (i + 1) ∧ srM a0 (i + 1) < srM a0 i := fun hp => ⟨⟨by omega, by omega, all_more h2 h4 hp⟩, by unfold srM; omega⟩
  have hk := ser_key h h2 hi
  generalize hx : a0.getD i.toNat ([], []) = x at *
  generalize hy : a0.getD (i.toNat - 1) ([], []) = y at *
  have hsr : srAt a0 i.toNat = (fKey x.1 && ((decide (i.toNat = 0) || Op.bytesLess y.1 x.1) && (decide (x.2.length ≠ 0) && fPtsOk x.2))) := by unfold srAt; rw [hx, hy]
  refine ⟨h2, hi, hk, fun t1 => no (by rw [hsr, t1]; rfl), fun t1 => ⟨fun hp => ⟨by omega, by omega, h2, hi, fun t2 => no ?_, fun t2 => ⟨h2, hi, fun t3 => no ?_, fun t3 => ⟨h2, hi, fun t4 => no ?_, fun t4 => yes ?_⟩⟩⟩, fun hp => ⟨h2, hi, fun t3 => no ?_, fun t3 => ⟨h2, hi, fun t4 => no ?_, fun t4 => yes ?_⟩⟩⟩⟩
  · rw [hsr, t1, decide_eq_false (by omega), t2]; rfl
  · rw [hsr, decide_eq_false (p := x.2.length ≠ 0) (by simp at t3; simp [t3])]; simp
  · rw [hsr, t4]; simp
  · have t5 : x.2.length ≠ 0 := by simp at t3; simpa using t3
    rw [hsr, t1, t2, t4, decide_eq_true t5]; simp
  · rw [hsr, decide_eq_false (p := x.2.length ≠ 0) (by simp at t3; simp [t3])]; simp
  · rw [hsr, t4]; simp
  · have t5 : x.2.length ≠ 0 := by simp at t3; simpa using t3
    rw [hsr, t1, t4, decide_eq_true t5, decide_eq_true (by omega : i.toNat = 0)]; simp

set_option maxRecDepth 100000 in
theorem spec_SeriesOk.eq (i : El c_spec_SeriesOk.I) (x : El c_spec_SeriesOk.A) : vc tab (gam [(40, c_spec_PointsOk), (85, c_spec_l9Key)] []) (spec_SeriesOk.L x) (match Try.f47.body with | some c => c | none => .skip) 1 (initSt c_spec_SeriesOk Try.f47.ntmps i x) (bodyK tab c_spec_SeriesOk Try.f47.results.toList [4] i x) = spec_SeriesOk.F x := by kernel_rfl
theorem spec_SeriesOk.ok : ConOk Try.prog 47 c_spec_SeriesOk :=
  conOk_of_eq (con := c_spec_SeriesOk) (tab := tab) (Γ := (gam [(40, c_spec_PointsOk), (85, c_spec_l9Key)] [])) (fn := Try.f47) (c := (match Try.f47.body with | some c => c | none => .skip)) (fun i x => spec_SeriesOk.L x) (fun i x => spec_SeriesOk.F x) rfl tabOk (gam_cons ⟨_, Try.func40, rfl, rfl⟩ spec_PointsOk.ok (gam_cons ⟨_, Try.func85, rfl, rfl⟩ spec_l9Key.ok (gam_nil _ []))) Try.func47 rfl [4] (by kernel_rfl) spec_SeriesOk.eq fun i x h hi hw => spec_SeriesOk.pure x h hw

def c_impl_SeriesOk : Con := { io := false, I := .unit, ownI := [], A := (.list (.pair .str (.list (.pair (.int .i64) (.int .i64))))), shA := [.one], ownA := [], backA := [], B := .unit, R := .bool, shR := [(false, 1)], fresh := [], newR := false, pre := fun _ a => (pSerOk a), f := some fun _ a => ((fSerOk a), ((), ())) }
def impl_SeriesOk.F  (a0 : (List ((List UInt8) × (List (Int × Int))))) : Prop := (([(0, .val false [.lst (.pair .str (.list (.pair (.int .i64) (.int .i64)))) a0 none]), (5, .val false [.lst (.pair .str (.list (.pair (.int .i64) (.int .i64)))) a0 none]), (6, .val false [.int .i64 ((List.length a0 : Nat) : Int)])] : List (Nat × Sv)) = [(0, .val false [.lst (.pair .str (.list (.pair (.int .i64) (.int .i64)))) a0 none]), (5, .val false [.lst (.pair .str (.list (.pair (.int .i64) (.int .i64)))) a0 none]), (6, .val false [.int .i64 ((List.length a0 : Nat) : Int)])] ∧ ((srI a0 0) ∧ ∀ (y1 : Int), (srI a0 y1) → (caseB (decide (y1 < ((List.length a0 : Nat) : Int))) (0 ≤ y1 ∧ (y1 < ((List.length a0 : Nat) : Int) ∧ ((pKey ((List.getD a0 (Int.toNat y1) (([] : (List UInt8)), ([] : (List (Int × Int))))).1)) ∧ ∀ (r2 : Bool × (Unit × Unit)), ((r2 : Bool × (Unit × Unit)) = ((fKey ((List.getD a0 (Int.toNat y1) (([] : (List UInt8)), ([] : (List (Int × Int))))).1)), ((), ()))) → (caseB (!r2.1) (((false, ((), ())) : Bool × (Unit × Unit)) = ((fSerOk a0), ((), ()))) (True ∧ ∀ (r3 : Bool × (Unit × Unit)), ((r3 : Bool × (Unit × Unit)) = ((fPtsOk ((List.getD a0 (Int.toNat y1) (([] : (List UInt8)), ([] : (List (Int × Int))))).2)), ((), ()))) → (caseB (!r3.1) (((false, ((), ())) : Bool × (Unit × Unit)) = ((fSerOk a0), ((), ()))) (caseB (((List.length ((List.getD a0 (Int.toNat y1) (([] : (List UInt8)), ([] : (List (Int × Int))))).2) : Nat) : Int) == (0 : Int)) (((false, ((), ())) : Bool × (Unit × Unit)) = ((fSerOk a0), ((), ()))) (caseB (decide (y1 > (0 : Int))) (0 ≤ (IntKind.wrap .i64 (y1 - (1 : Int))) ∧ ((IntKind.wrap .i64 (y1 - (1 : Int))) < ((List.length a0 : Nat) : Int) ∧ (caseB (!Op.bytesLess ((List.getD a0 (Int.toNat (IntKind.wrap .i64 (y1 - (1 : Int)))) (([] : (List UInt8)), ([] : (List (Int × Int))))).1) ((List.getD a0 (Int.toNat y1) (([] : (List UInt8)), ([] : (List (Int × Int))))).1)) (((false, ((), ())) : Bool × (Unit × Unit)) = ((fSerOk a0), ((), ()))) (([(0, .val false [.lst (.pair .str (.list (.pair (.int .i64) (.int .i64)))) a0 none]), (5, .val false [.lst (.pair .str (.list (.pair (.int .i64) (.int .i64)))) a0 none]), (6, .val false [.int .i64 ((List.length a0 : Nat) : Int)])] : List (Nat × Sv)) = [(0, .val false [.lst (.pair .str (.list (.pair (.int .i64) (.int .i64)))) a0 none]), (5, .val false [.lst (.pair .str (.list (.pair (.int .i64) (.int .i64)))) a0 none]), (6, .val false [.int .i64 ((List.length a0 : Nat) : Int)])] ∧ (srI a0 (IntKind.wrap .i64 (y1 + (1 : Int)))) ∧ (srM a0 (IntKind.wrap .i64 (y1 + (1 : Int)))) < (srM a0 y1))))) (([(0, .val false [.lst (.pair .str (.list (.pair (.int .i64) (.int .i64)))) a0 none]), (5, .val false [.lst (.pair .str (.list (.pair (.int .i64) (.int .i64)))) a0 none]), (6, .val false [.int .i64 ((List.length a0 : Nat) : Int)])] : List (Nat × Sv)) = [(0, .val false [.lst (.pair .str (.list (.pair (.int .i64) (.int .i64)))) a0 none]), (5, .val false [.lst (.pair .str (.list (.pair (.int .i64) (.int .i64)))) a0 none]), (6, .val false [.int .i64 ((List.length a0 : Nat) : Int)])] ∧ (srI a0 (IntKind.wrap .i64 (y1 + (1 : Int)))) ∧ (srM a0 (IntKind.wrap .i64 (y1 + (1 : Int)))) < (srM a0 y1)))))))))) ((((decide (((List.length a0 : Nat) : Int) ≤ (5 : Int))), ((), ())) : Bool × (Unit × Unit)) = ((fSerOk a0), ((), ()))))))
def impl_SeriesOk.L  (a0 : (List ((List UInt8) × (List (Int × Int))))) : Nat → Option LoopAnn := fun p => Go.Proofs.Ytcbehcpmojnnfaa.Bv.look p [(26, { kp := { hold := [0, 5, 6], slots := [7], boxes := [], rows := [] }, T := (.int .i64), I := fun st y => srI a0 y, μ := fun st y => srM a0 y })]

theorem impl_SeriesOk.pure  (a0 : (List ((List UInt8) × (List (Int × Int))))) (h : (pSerOk a0)) (hw : Wf c_impl_SeriesOk.A a0) : impl_SeriesOk.F a0 := by
  unfold impl_SeriesOk.F
  have hw1 : a0.length ≤ maxLen := hw.1
  unfold maxLen at hw1
  simp only [forall_eq, true_and, and_true, caseB_iff, Prod.mk.injEq, decide_eq_true_eq, decide_eq_false_iff_not, Bool.not_eq_true', Bool.not_eq_false']
  refine ⟨⟨by omega, by omega, fun j hj => absurd hj (by simp)⟩, ?_⟩
  rintro i ⟨h2, h3, h4⟩
  have fin : ¬ i < (a0.length : Int) → decide ((a0.length : Int) ≤ 5) = fSerOk a0 := fun hi => by
    have : allB (srAt a0) a0.length = true := all_yes fun j hj => h4 j (by omega)
    simp [fSerOk, this]; omega
  refine ⟨?_, fin⟩
  intro hi
  have e2 : IntKind.wrap .i64 (i + 1) = i + 1 := Go.IntWalk.i64_in _ (by omega)
  have e1 : IntKind.wrap .i64 (i - 1) = i - 1 := Go.IntWalk.i64_in _ (by omega)
  have e3 : (i - 1).toNat = i.toNat - 1 := by omega
  rw [e1, e2, e3]
  have no : srAt a0 i.toNat = false → false = fSerOk a0 := fun hp => ser_no (by omega) hp
  have yes : srAt a0 i.toNat = true → srI a0 (i + 1) ∧ srM a0 (i + 1) < srM a0 i := fun hp => ⟨⟨by omega, by omega, all_more h2 h4 hp⟩, by unfold srM; omega⟩
  have hk := ser_key h h2 hi
  generalize hx : a0.getD i.toNat ([], []) = x at *
  generalize hy : a0.getD (i.toNat - 1) ([], []) = y at *
  have hsr : srAt a0 i.toNat = (fKey x.1 && ((decide (i.toNat = 0) || Op.bytesLess y.1 x.1) && (decide (x.2.length ≠ 0) && fPtsOk x.2))) := by unfold srAt; rw [hx, hy]
  refine ⟨h2, hi, hk, fun t1 => no (by rw [hsr, t1]; rfl), fun t1 => ⟨fun t4 => no ?_, fun t4 => ⟨fun t3 => no ?_, fun t3 => ⟨fun hp => ⟨by omega, by omega, fun t2 => no ?_, fun t2 => yes ?_⟩, fun hp => yes ?_⟩⟩⟩⟩
  · rw [hsr, t4]; simp
  · rw [hsr, decide_eq_false (p := x.2.length ≠ 0) (by simp at t3; simp [t3])]; simp
  · rw [hsr, t1, decide_eq_false (by omega), t2]; rfl
  · have t5 : x.2.length ≠ 0 := by simp at t3; simpa using t3
    rw [hsr, t1, t2, t4, decide_eq_true t5]; simp
  · have t5 : x.2.length ≠ 0 := by simp at t3; simpa using t3
    rw [hsr, t1, t4, decide_eq_true t5, decide_eq_true (by omega : i.toNat = 0)]; simp

set_option maxRecDepth 100000 in
theorem impl_SeriesOk.eq (i : El c_impl_SeriesOk.I) (x : El c_impl_SeriesOk.A) : vc tab (gam [(44, c_impl_PointsOk), (87, c_impl_keyOk)] []) (impl_SeriesOk.L x) (match Try.f49.body with | some c => c | none => .skip) 1 (initSt c_impl_SeriesOk Try.f49.ntmps i x) (bodyK tab c_impl_SeriesOk Try.f49.results.toList [4] i x) = impl_SeriesOk.F x := by kernel_rfl
theorem impl_SeriesOk.ok : ConOk Try.prog 49 c_impl_SeriesOk :=
  conOk_of_eq (con := c_impl_SeriesOk) (tab := tab) (Γ := (gam [(44, c_impl_PointsOk), (87, c_impl_keyOk)] [])) (fn := Try.f49) (c := (match Try.f49.body with | some c => c | none => .skip)) (fun i x => impl_SeriesOk.L x) (fun i x => impl_SeriesOk.F x) rfl tabOk (gam_cons ⟨_, Try.func44, rfl, rfl⟩ impl_PointsOk.ok (gam_cons ⟨_, Try.func87, rfl, rfl⟩ impl_keyOk.ok (gam_nil _ []))) Try.func49 rfl [4] (by kernel_rfl) impl_SeriesOk.eq fun i x h hi hw => impl_SeriesOk.pure x h hw

def c_laws_toPoint : Con := { io := false, I := .unit, ownI := [], A := (.pair (.int .i64) (.int .i64)), shA := [.agg 2], ownA := [], backA := [], B := .unit, R := (.pair (.int .i64) (.int .i64)), shR := [(true, 2)], fresh := [], newR := false, pre := fun _ a => True, f := some fun _ a => ((fPt a), ((), ())) }
def laws_toPoint.F  (a0 : (Int × Int)) : Prop := ((((a0.1, a0.2), ((), ())) : (Int × Int) × (Unit × Unit)) = ((fPt a0), ((), ())))
def laws_toPoint.L  (a0 : (Int × Int)) : Nat → Option LoopAnn := fun p => Go.Proofs.Ytcbehcpmojnnfaa.Bv.look p []

theorem laws_toPoint.pure  (a0 : (Int × Int)) (h : True) (hw : Wf c_laws_toPoint.A a0) : laws_toPoint.F a0 := by
  unfold laws_toPoint.F
  rfl

set_option maxRecDepth 100000 in
theorem laws_toPoint.eq (i : El c_laws_toPoint.I) (x : El c_laws_toPoint.A) : vc tab (gam [] []) (laws_toPoint.L x) (match Try.f89.body with | some c => c | none => .skip) 1 (initSt c_laws_toPoint Try.f89.ntmps i x) (bodyK tab c_laws_toPoint Try.f89.results.toList [56] i x) = laws_toPoint.F x := by kernel_rfl
theorem laws_toPoint.ok : ConOk Try.prog 89 c_laws_toPoint :=
  conOk_of_eq (con := c_laws_toPoint) (tab := tab) (Γ := (gam [] [])) (fn := Try.f89) (c := (match Try.f89.body with | some c => c | none => .skip)) (fun i x => laws_toPoint.L x) (fun i x => laws_toPoint.F x) rfl tabOk (gam_nil _ []) Try.func89 rfl [56] (by kernel_rfl) laws_toPoint.eq fun i x h hi hw => laws_toPoint.pure x h hw

def c_laws_toPointS : Con := { io := false, I := .unit, ownI := [], A := (.list (.pair (.int .i64) (.int .i64))), shA := [.one], ownA := [], backA := [], B := .unit, R := (.list (.pair (.int .i64) (.int .i64))), shR := [(false, 1)], fresh := [(0, 56)], newR := false, pre := fun _ a => (pPtS a), f := some fun _ a => ((fPtS a), ((), ())) }
def laws_toPointS.F  (a0 : (List (Int × Int))) : Prop := (0 ≤ ((List.length a0 : Nat) : Int) ∧ (((List.length a0 : Nat) : Int) ≤ ((List.length a0 : Nat) : Int) ∧ (((List.length a0 : Nat) : Int) ≤ 9223372036854775807 ∧ (((16 : Nat) : Int) * ((List.length a0 : Nat) : Int) ≤ 140737488355328 ∧ (([(0, .val false [.lst (.pair (.int .i64) (.int .i64)) a0 none]), (3, .val false [.own (.pair (.int .i64) (.int .i64)) 1000387])] : List (Nat × Sv)) = [(0, .val false [.lst (.pair (.int .i64) (.int .i64)) a0 none]), (3, .val false [.own (.pair (.int .i64) (.int .i64)) 1000387])] ∧ ((toPI a0 0 (List.replicate (Int.toNat ((List.length a0 : Nat) : Int)) ((0 : Int), (0 : Int)))) ∧ ∀ (y1 : (Int × (List (Int × Int)))), (toPI a0 y1.1 y1.2) → (caseB (decide (y1.1 < ((List.length a0 : Nat) : Int))) (0 ≤ y1.1 ∧ (y1.1 < ((List.length a0 : Nat) : Int) ∧ (True ∧ ∀ (r2 : (Int × Int) × (Unit × Unit)), ((r2 : (Int × Int) × (Unit × Unit)) = ((fPt ((List.getD a0 (Int.toNat y1.1) ((0 : Int), (0 : Int))).1, (List.getD a0 (Int.toNat y1.1) ((0 : Int), (0 : Int))).2)), ((), ()))) → (0 ≤ y1.1 ∧ (y1.1 < ((List.length y1.2 : Nat) : Int) ∧ (([(0, .val false [.lst (.pair (.int .i64) (.int .i64)) a0 none]), (3, .val false [.own (.pair (.int .i64) (.int .i64)) 1000387])] : List (Nat × Sv)) = [(0, .val false [.lst (.pair (.int .i64) (.int .i64)) a0 none]), (3, .val false [.own (.pair (.int .i64) (.int .i64)) 1000387])] ∧ (toPI a0 (IntKind.wrap .i64 (y1.1 + (1 : Int))) (List.set y1.2 (Int.toNat y1.1) (r2.1.1, r2.1.2))) ∧ (toPM a0 (IntKind.wrap .i64 (y1.1 + (1 : Int))) (List.set y1.2 (Int.toNat y1.1) (r2.1.1, r2.1.2))) < (toPM a0 y1.1 y1.2))))))) (((y1.2, ((), ())) : (List (Int × Int)) × (Unit × Unit)) = ((fPtS a0), ((), ()))))))))))
def laws_toPointS.L  (a0 : (List (Int × Int))) : Nat → Option LoopAnn := fun p => Go.Proofs.Ytcbehcpmojnnfaa.Bv.look p [(58, { kp := { hold := [0, 3], slots := [4], boxes := [], rows := [{ bx := false, s := 3, i := 0, k := 1000387, e := 56, hot := true }] }, T := (.pair (.int .i64) (.list (.pair (.int .i64) (.int .i64)))), I := fun st y => toPI a0 y.1 y.2, μ := fun st y => toPM a0 y.1 y.2 })]

theorem laws_toPointS.pure  (a0 : (List (Int × Int))) (h : (pPtS a0)) (hw : Wf c_laws_toPointS.A a0) : laws_toPointS.F a0 := by
  unfold laws_toPointS.F
  have hb : a0.length ≤ 1048576 := h
  simp only [forall_eq, true_and, and_true, caseB_iff, Prod.mk.injEq, decide_eq_true_eq, decide_eq_false_iff_not, Bool.not_eq_true', Bool.not_eq_false']
  refine ⟨by omega, by omega, by omega, by omega, ⟨by omega, by omega, by simp⟩, ?_⟩
  rintro ⟨i, out⟩ hI
  simp only at hI ⊢
  refine ⟨fun hi => ?_, fun hi => toG_end hI hi⟩
  have hl := toG_len hI
  have h3 := hI.2.1
  have h2 := hI.1
  have e2 : IntKind.wrap .i64 (i + 1) = i + 1 := Go.IntWalk.i64_in _ (by omega)
  simp only [fPt, e2, hl]
  exact ⟨h2, hi, h2, hi, toG_step hI hi, by unfold toPM; omega⟩

set_option maxRecDepth 100000 in
theorem laws_toPointS.eq (i : El c_laws_toPointS.I) (x : El c_laws_toPointS.A) : vc tab (gam [(89, c_laws_toPoint)] []) (laws_toPointS.L x) (match Try.f53.body with | some c => c | none => .skip) 1 (initSt c_laws_toPointS Try.f53.ntmps i x) (bodyK tab c_laws_toPointS Try.f53.results.toList [48] i x) = laws_toPointS.F x := by kernel_rfl
theorem laws_toPointS.ok : ConOk Try.prog 53 c_laws_toPointS :=
  conOk_of_eq (con := c_laws_toPointS) (tab := tab) (Γ := (gam [(89, c_laws_toPoint)] [])) (fn := Try.f53) (c := (match Try.f53.body with | some c => c | none => .skip)) (fun i x => laws_toPointS.L x) (fun i x => laws_toPointS.F x) rfl tabOk (gam_cons ⟨_, Try.func89, rfl, rfl⟩ laws_toPoint.ok (gam_nil _ [])) Try.func53 rfl [48] (by kernel_rfl) laws_toPointS.eq fun i x h hi hw => laws_toPointS.pure x h hw

def c_laws_toSeries : Con := { io := false, I := .unit, ownI := [], A := (.pair .str (.list (.pair (.int .i64) (.int .i64)))), shA := [.agg 2], ownA := [], backA := [], B := .unit, R := (.pair .str (.list (.pair (.int .i64) (.int .i64)))), shR := [(true, 2)], fresh := [(1, 56)], newR := false, pre := fun _ a => (pSer a), f := some fun _ a => ((fSer a), ((), ())) }
def laws_toSeries.F  (a0 : ((List UInt8) × (List (Int × Int)))) : Prop := ((pPtS a0.2) ∧ ∀ (r1 : (List (Int × Int)) × (Unit × Unit)), ((r1 : (List (Int × Int)) × (Unit × Unit)) = ((fPtS a0.2), ((), ()))) → ((((a0.1, r1.1), ((), ())) : ((List UInt8) × (List (Int × Int))) × (Unit × Unit)) = ((fSer a0), ((), ()))))
def laws_toSeries.L  (a0 : ((List UInt8) × (List (Int × Int)))) : Nat → Option LoopAnn := fun p => Go.Proofs.Ytcbehcpmojnnfaa.Bv.look p []

theorem laws_toSeries.pure  (a0 : ((List UInt8) × (List (Int × Int)))) (h : (pSer a0)) (hw : Wf c_laws_toSeries.A a0) : laws_toSeries.F a0 := by
  unfold laws_toSeries.F
  simp only [forall_eq, true_and, and_true, caseB_iff, Prod.mk.injEq, decide_eq_true_eq, decide_eq_false_iff_not, Bool.not_eq_true', Bool.not_eq_false']
  exact ⟨h, rfl⟩

set_option maxRecDepth 100000 in
theorem laws_toSeries.eq (i : El c_laws_toSeries.I) (x : El c_laws_toSeries.A) : vc tab (gam [(53, c_laws_toPointS)] []) (laws_toSeries.L x) (match Try.f86.body with | some c => c | none => .skip) 1 (initSt c_laws_toSeries Try.f86.ntmps i x) (bodyK tab c_laws_toSeries Try.f86.results.toList [106] i x) = laws_toSeries.F x := by kernel_rfl
theorem laws_toSeries.ok : ConOk Try.prog 86 c_laws_toSeries :=
  conOk_of_eq (con := c_laws_toSeries) (tab := tab) (Γ := (gam [(53, c_laws_toPointS)] [])) (fn := Try.f86) (c := (match Try.f86.body with | some c => c | none => .skip)) (fun i x => laws_toSeries.L x) (fun i x => laws_toSeries.F x) rfl tabOk (gam_cons ⟨_, Try.func53, rfl, rfl⟩ laws_toPointS.ok (gam_nil _ [])) Try.func86 rfl [106] (by kernel_rfl) laws_toSeries.eq fun i x h hi hw => laws_toSeries.pure x h hw

def c_laws_toSeriesS : Con := { io := false, I := .unit, ownI := [], A := (.list (.pair .str (.list (.pair (.int .i64) (.int .i64))))), shA := [.one], ownA := [], backA := [], B := .unit, R := (.list (.pair .str (.list (.pair (.int .i64) (.int .i64))))), shR := [(false, 1)], fresh := [(0, 106)], newR := false, pre := fun _ a => (pSerS a), f := some fun _ a => ((fSerS a), ((), ())) }
def laws_toSeriesS.F  (a0 : (List ((List UInt8) × (List (Int × Int))))) : Prop := (0 ≤ ((List.length a0 : Nat) : Int) ∧ (((List.length a0 : Nat) : Int) ≤ ((List.length a0 : Nat) : Int) ∧ (((List.length a0 : Nat) : Int) ≤ 9223372036854775807 ∧ (((40 : Nat) : Int) * ((List.length a0 : Nat) : Int) ≤ 140737488355328 ∧ (([(0, .val false [.lst (.pair .str (.list (.pair (.int .i64) (.int .i64)))) a0 none]), (3, .val false [.own (.pair .str (.list (.pair (.int .i64) (.int .i64)))) 1000387])] : List (Nat × Sv)) = [(0, .val false [.lst (.pair .str (.list (.pair (.int .i64) (.int .i64)))) a0 none]), (3, .val false [.own (.pair .str (.list (.pair (.int .i64) (.int .i64)))) 1000387])] ∧ ((toSI a0 0 (List.replicate (Int.toNat ((List.length a0 : Nat) : Int)) (([] : (List UInt8)), ([] : (List (Int × Int)))))) ∧ ∀ (y1 : (Int × (List ((List UInt8) × (List (Int × Int)))))), (toSI a0 y1.1 y1.2) → (caseB (decide (y1.1 < ((List.length a0 : Nat) : Int))) (0 ≤ y1.1 ∧ (y1.1 < ((List.length a0 : Nat) : Int) ∧ ((pSer ((List.getD a0 (Int.toNat y1.1) (([] : (List UInt8)), ([] : (List (Int × Int))))).1, (List.getD a0 (Int.toNat y1.1) (([] : (List UInt8)), ([] : (List (Int × Int))))).2)) ∧ ∀ (r2 : ((List UInt8) × (List (Int × Int))) × (Unit × Unit)), ((r2 : ((List UInt8) × (List (Int × Int))) × (Unit × Unit)) = ((fSer ((List.getD a0 (Int.toNat y1.1) (([] : (List UInt8)), ([] : (List (Int × Int))))).1, (List.getD a0 (Int.toNat y1.1) (([] : (List UInt8)), ([] : (List (Int × Int))))).2)), ((), ()))) → (0 ≤ y1.1 ∧ (y1.1 < ((List.length y1.2 : Nat) : Int) ∧ (([(0, .val false [.lst (.pair .str (.list (.pair (.int .i64) (.int .i64)))) a0 none]), (3, .val false [.own (.pair .str (.list (.pair (.int .i64) (.int .i64)))) 1000387])] : List (Nat × Sv)) = [(0, .val false [.lst (.pair .str (.list (.pair (.int .i64) (.int .i64)))) a0 none]), (3, .val false [.own (.pair .str (.list (.pair (.int .i64) (.int .i64)))) 1000387])] ∧ (toSI a0 (IntKind.wrap .i64 (y1.1 + (1 : Int))) (List.set y1.2 (Int.toNat y1.1) (r2.1.1, r2.1.2))) ∧ (toSM a0 (IntKind.wrap .i64 (y1.1 + (1 : Int))) (List.set y1.2 (Int.toNat y1.1) (r2.1.1, r2.1.2))) < (toSM a0 y1.1 y1.2))))))) (((y1.2, ((), ())) : (List ((List UInt8) × (List (Int × Int)))) × (Unit × Unit)) = ((fSerS a0), ((), ()))))))))))
def laws_toSeriesS.L  (a0 : (List ((List UInt8) × (List (Int × Int))))) : Nat → Option LoopAnn := fun p => Go.Proofs.Ytcbehcpmojnnfaa.Bv.look p [(58, { kp := { hold := [0, 3], slots := [4], boxes := [], rows := [{ bx := false, s := 3, i := 0, k := 1000387, e := 106, hot := true }] }, T := (.pair (.int .i64) (.list (.pair .str (.list (.pair (.int .i64) (.int .i64)))))), I := fun st y => toSI a0 y.1 y.2, μ := fun st y => toSM a0 y.1 y.2 })]

theorem laws_toSeriesS.pure  (a0 : (List ((List UInt8) × (List (Int × Int))))) (h : (pSerS a0)) (hw : Wf c_laws_toSeriesS.A a0) : laws_toSeriesS.F a0 := by
  unfold laws_toSeriesS.F
  have hb : a0.length ≤ 1048576 := h.1
  simp only [forall_eq, true_and, and_true, caseB_iff, Prod.mk.injEq, decide_eq_true_eq, decide_eq_false_iff_not, Bool.not_eq_true', Bool.not_eq_false']
  refine ⟨by omega, by omega, by omega, by omega, ⟨by omega, by omega, by simp⟩, ?_⟩
  rintro ⟨i, out⟩ hI
  simp only at hI ⊢
  refine ⟨fun hi => ?_, fun hi => toG_end hI hi⟩
  have hl := toG_len hI
  have h3 := hI.2.1
  have h2 := hI.1
  have e2 : IntKind.wrap .i64 (i + 1) = i + 1 := Go.IntWalk.i64_in _ (by omega)
  have hp : pSer (a0.getD i.toNat ([], [])) := by
    have hlt : i.toNat < a0.length := by omega
    rw [List.getD_eq_getElem?_getD, List.getElem?_eq_getElem hlt]
    exact h.2 _ (List.getElem_mem hlt)
  simp only [fSer, e2, hl]
  exact ⟨h2, hi, hp, h2, hi, toG_step hI hi, by unfold toSM; omega⟩

set_option maxRecDepth 100000 in
theorem laws_toSeriesS.eq (i : El c_laws_toSeriesS.I) (x : El c_laws_toSeriesS.A) : vc tab (gam [(86, c_laws_toSeries)] []) (laws_toSeriesS.L x) (match Try.f48.body with | some c => c | none => .skip) 1 (initSt c_laws_toSeriesS Try.f48.ntmps i x) (bodyK tab c_laws_toSeriesS Try.f48.results.toList [62] i x) = laws_toSeriesS.F x := by kernel_rfl
theorem laws_toSeriesS.ok : ConOk Try.prog 48 c_laws_toSeriesS :=
  conOk_of_eq (con := c_laws_toSeriesS) (tab := tab) (Γ := (gam [(86, c_laws_toSeries)] [])) (fn := Try.f48) (c := (match Try.f48.body with | some c => c | none => .skip)) (fun i x => laws_toSeriesS.L x) (fun i x => laws_toSeriesS.F x) rfl tabOk (gam_cons ⟨_, Try.func86, rfl, rfl⟩ laws_toSeries.ok (gam_nil _ [])) Try.func48 rfl [62] (by kernel_rfl) laws_toSeriesS.eq fun i x h hi hw => laws_toSeriesS.pure x h hw

def c_laws_szPointS : Con := { io := false, I := .unit, ownI := [], A := (.pair (.list (.pair (.int .i64) (.int .i64))) (.int .i64)), shA := [.one, .one], ownA := [], backA := [], B := .unit, R := (.int .i64), shR := [(false, 1)], fresh := [], newR := false, pre := fun _ a => (pszPts a.1 a.2), f := some fun _ a => ((szPts a.1 a.2), ((), ())) }
def laws_szPointS.F  (a0 : (List (Int × Int))) (a1 : Int) : Prop := (caseB (decide ((IntKind.wrap .i64 (a1 - ((List.length a0 : Nat) : Int))) < (0 : Int))) ((((-1), ((), ())) : Int × (Unit × Unit)) = ((szPts a0 a1), ((), ()))) ((((IntKind.wrap .i64 (a1 - ((List.length a0 : Nat) : Int))), ((), ())) : Int × (Unit × Unit)) = ((szPts a0 a1), ((), ()))))
def laws_szPointS.L  (a0 : (List (Int × Int))) (a1 : Int) : Nat → Option LoopAnn := fun p => Go.Proofs.Ytcbehcpmojnnfaa.Bv.look p []

theorem laws_szPointS.pure  (a0 : (List (Int × Int))) (a1 : Int) (h : (pszPts a0 a1)) (hw : Wf c_laws_szPointS.A (a0, a1)) : laws_szPointS.F a0 a1 := by
  unfold laws_szPointS.F
  have hw1 : a0.length ≤ maxLen := hw.1.1
  unfold maxLen at hw1
  obtain ⟨p1, p2⟩ := h
  have e : IntKind.wrap .i64 (a1 - (a0.length : Int)) = a1 - (a0.length : Int) := Go.IntWalk.i64_in _ (by omega)
  rw [e]
  simp only [forall_eq, true_and, and_true, caseB_iff, Prod.mk.injEq, decide_eq_true_eq, decide_eq_false_iff_not, Bool.not_eq_true', Bool.not_eq_false']
  exact ⟨fun h => by simp [szPts, h], fun h => by simp [szPts, h]⟩

set_option maxRecDepth 100000 in
theorem laws_szPointS.eq (i : El c_laws_szPointS.I) (x : El c_laws_szPointS.A) : vc tab (gam [] []) (laws_szPointS.L x.1 x.2) (match Try.f51.body with | some c => c | none => .skip) 1 (initSt c_laws_szPointS Try.f51.ntmps i x) (bodyK tab c_laws_szPointS Try.f51.results.toList [3] i x) = laws_szPointS.F x.1 x.2 := by kernel_rfl
theorem laws_szPointS.ok : ConOk Try.prog 51 c_laws_szPointS :=
  conOk_of_eq (con := c_laws_szPointS) (tab := tab) (Γ := (gam [] [])) (fn := Try.f51) (c := (match Try.f51.body with | some c => c | none => .skip)) (fun i x => laws_szPointS.L x.1 x.2) (fun i x => laws_szPointS.F x.1 x.2) rfl tabOk (gam_nil _ []) Try.func51 rfl [3] (by kernel_rfl) laws_szPointS.eq fun i x h hi hw => laws_szPointS.pure x.1 x.2 h hw

def c_laws_szSeries : Con := { io := false, I := .unit, ownI := [], A := (.pair (.pair .str (.list (.pair (.int .i64) (.int .i64)))) (.int .i64)), shA := [.agg 2, .one], ownA := [], backA := [], B := .unit, R := (.int .i64), shR := [(false, 1)], fresh := [], newR := false, pre := fun _ a => (pszSer a.1 a.2), f := some fun _ a => ((szSer a.1 a.2), ((), ())) }
def laws_szSeries.F  (a0 : ((List UInt8) × (List (Int × Int)))) (a1 : Int) : Prop := (caseB (decide ((IntKind.wrap .i64 (a1 - ((List.length a0.1 : Nat) : Int))) < (0 : Int))) ((((-1), ((), ())) : Int × (Unit × Unit)) = ((szSer a0 a1), ((), ()))) ((pszPts a0.2 (IntKind.wrap .i64 (a1 - ((List.length a0.1 : Nat) : Int)))) ∧ ∀ (r1 : Int × (Unit × Unit)), ((r1 : Int × (Unit × Unit)) = ((szPts a0.2 (IntKind.wrap .i64 (a1 - ((List.length a0.1 : Nat) : Int)))), ((), ()))) → (caseB (decide (r1.1 < (0 : Int))) ((((-1), ((), ())) : Int × (Unit × Unit)) = ((szSer a0 a1), ((), ()))) (((r1.1, ((), ())) : Int × (Unit × Unit)) = ((szSer a0 a1), ((), ()))))))
def laws_szSeries.L  (a0 : ((List UInt8) × (List (Int × Int)))) (a1 : Int) : Nat → Option LoopAnn := fun p => Go.Proofs.Ytcbehcpmojnnfaa.Bv.look p []

theorem laws_szSeries.pure  (a0 : ((List UInt8) × (List (Int × Int)))) (a1 : Int) (h : (pszSer a0 a1)) (hw : Wf c_laws_szSeries.A (a0, a1)) : laws_szSeries.F a0 a1 := by
  unfold laws_szSeries.F
  obtain ⟨hl, p1, p2⟩ := h
  unfold maxLen at hl
  have e : IntKind.wrap .i64 (a1 - (a0.1.length : Int)) = a1 - (a0.1.length : Int) := Go.IntWalk.i64_in _ (by omega)
  rw [e]
  simp only [forall_eq, true_and, and_true, caseB_iff, Prod.mk.injEq, decide_eq_true_eq, decide_eq_false_iff_not, Bool.not_eq_true', Bool.not_eq_false']
  refine ⟨fun h => by simp [szSer, h], fun h => ⟨⟨by omega, by omega⟩, fun h2 => ?_, fun h2 => ?_⟩⟩
  · unfold szSer; rw [if_neg h]; unfold szPts at h2 ⊢
    split at h2
    · rename_i h3; rw [if_pos h3]
    · omega
  · unfold szSer; rw [if_neg h]

set_option maxRecDepth 100000 in
theorem laws_szSeries.eq (i : El c_laws_szSeries.I) (x : El c_laws_szSeries.A) : vc tab (gam [(51, c_laws_szPointS)] []) (laws_szSeries.L x.1 x.2) (match Try.f84.body with | some c => c | none => .skip) 1 (initSt c_laws_szSeries Try.f84.ntmps i x) (bodyK tab c_laws_szSeries Try.f84.results.toList [3] i x) = laws_szSeries.F x.1 x.2 := by kernel_rfl
theorem laws_szSeries.ok : ConOk Try.prog 84 c_laws_szSeries :=
  conOk_of_eq (con := c_laws_szSeries) (tab := tab) (Γ := (gam [(51, c_laws_szPointS)] [])) (fn := Try.f84) (c := (match Try.f84.body with | some c => c | none => .skip)) (fun i x => laws_szSeries.L x.1 x.2) (fun i x => laws_szSeries.F x.1 x.2) rfl tabOk (gam_cons ⟨_, Try.func51, rfl, rfl⟩ laws_szPointS.ok (gam_nil _ [])) Try.func84 rfl [3] (by kernel_rfl) laws_szSeries.eq fun i x h hi hw => laws_szSeries.pure x.1 x.2 h hw

def c_laws_szSeriesS : Con := { io := false, I := .unit, ownI := [], A := (.pair (.list (.pair .str (.list (.pair (.int .i64) (.int .i64))))) (.int .i64)), shA := [.one, .one], ownA := [], backA := [], B := .unit, R := (.int .i64), shR := [(false, 1)], fresh := [], newR := false, pre := fun _ a => (pszSerS a.1 a.2), f := some fun _ a => ((szSerS a.1 a.2), ((), ())) }
def laws_szSeriesS.F  (a0 : (List ((List UInt8) × (List (Int × Int))))) (a1 : Int) : Prop := (caseB (decide ((IntKind.wrap .i64 (a1 - ((List.length a0 : Nat) : Int))) < (0 : Int))) ((((-1), ((), ())) : Int × (Unit × Unit)) = ((szSerS a0 a1), ((), ()))) (([(0, .val false [.lst (.pair .str (.list (.pair (.int .i64) (.int .i64)))) a0 none])] : List (Nat × Sv)) = [(0, .val false [.lst (.pair .str (.list (.pair (.int .i64) (.int .i64)))) a0 none])] ∧ ((szI a0 a1 (IntKind.wrap .i64 (a1 - ((List.length a0 : Nat) : Int))) 0) ∧ ∀ (y1 : (Int × Int)), (szI a0 a1 y1.1 y1.2) → (caseB (decide (y1.2 < ((List.length a0 : Nat) : Int))) (0 ≤ y1.2 ∧ (y1.2 < ((List.length a0 : Nat) : Int) ∧ ((pszSer ((List.getD a0 (Int.toNat y1.2) (([] : (List UInt8)), ([] : (List (Int × Int))))).1, (List.getD a0 (Int.toNat y1.2) (([] : (List UInt8)), ([] : (List (Int × Int))))).2) y1.1) ∧ ∀ (r2 : Int × (Unit × Unit)), ((r2 : Int × (Unit × Unit)) = ((szSer ((List.getD a0 (Int.toNat y1.2) (([] : (List UInt8)), ([] : (List (Int × Int))))).1, (List.getD a0 (Int.toNat y1.2) (([] : (List UInt8)), ([] : (List (Int × Int))))).2) y1.1), ((), ()))) → (caseB (decide (r2.1 < (0 : Int))) ((((-1), ((), ())) : Int × (Unit × Unit)) = ((szSerS a0 a1), ((), ()))) (([(0, .val false [.lst (.pair .str (.list (.pair (.int .i64) (.int .i64)))) a0 none])] : List (Nat × Sv)) = [(0, .val false [.lst (.pair .str (.list (.pair (.int .i64) (.int .i64)))) a0 none])] ∧ (szI a0 a1 r2.1 (IntKind.wrap .i64 (y1.2 + (1 : Int)))) ∧ (szM a0 a1 r2.1 (IntKind.wrap .i64 (y1.2 + (1 : Int)))) < (szM a0 a1 y1.1 y1.2)))))) (((y1.1, ((), ())) : Int × (Unit × Unit)) = ((szSerS a0 a1), ((), ())))))))
def laws_szSeriesS.L  (a0 : (List ((List UInt8) × (List (Int × Int))))) (a1 : Int) : Nat → Option LoopAnn := fun p => Go.Proofs.Ytcbehcpmojnnfaa.Bv.look p [(122, { kp := { hold := [0], slots := [1, 5], boxes := [], rows := [] }, T := (.pair (.int .i64) (.int .i64)), I := fun st y => szI a0 a1 y.1 y.2, μ := fun st y => szM a0 a1 y.1 y.2 })]

theorem laws_szSeriesS.pure  (a0 : (List ((List UInt8) × (List (Int × Int))))) (a1 : Int) (h : (pszSerS a0 a1)) (hw : Wf c_laws_szSeriesS.A (a0, a1)) : laws_szSeriesS.F a0 a1 := by
  unfold laws_szSeriesS.F
  have hw1 : a0.length ≤ maxLen := hw.1.1
  unfold maxLen at hw1
  obtain ⟨hk, p1, p2⟩ := h
  have e : IntKind.wrap .i64 (a1 - (a0.length : Int)) = a1 - (a0.length : Int) := Go.IntWalk.i64_in _ (by omega)
  rw [e]
  simp only [forall_eq, true_and, and_true, caseB_iff, Prod.mk.injEq, decide_eq_true_eq, decide_eq_false_iff_not, Bool.not_eq_true', Bool.not_eq_false']
  refine ⟨fun h => by simp [szSerS, h], fun h => ⟨⟨by omega, by omega, ⟨by omega, by omega⟩, ?_⟩, ?_⟩⟩
  · unfold szSerS; rw [if_neg h]; rfl
  rintro ⟨left, i⟩ ⟨h2, h3, h4, h5⟩
  simp only at h2 h3 h4 h5 ⊢
  refine ⟨fun hi => ?_, fun hi => ?_⟩
  · have hlt : i.toNat < a0.length := by omega
    have e2 : IntKind.wrap .i64 (i + 1) = i + 1 := Go.IntWalk.i64_in _ (by omega)
    have hg : a0.getD i.toNat ([], []) = a0[i.toNat] := by rw [List.getD_eq_getElem?_getD, List.getElem?_eq_getElem hlt]; rfl
    rw [e2]
    rw [List.drop_eq_getElem_cons hlt] at h5
    simp only [szAll] at h5
    have hp : pszSer (a0.getD i.toNat ([], [])) left := ⟨by rw [hg]; exact hk _ (List.getElem_mem hlt), h4⟩
    refine ⟨h2, hi, hp, fun h6 => ?_, fun h6 => ?_⟩
    · rw [h5, if_pos (by rw [← hg]; exact h6)]
    · have h7 : ¬ szSer a0[i.toNat] left < 0 := by rw [← hg]; exact h6
      rw [if_neg h7] at h5
      refine ⟨⟨by omega, by omega, (by show pLeft (szSer (a0.getD i.toNat ([], [])) left); rw [hg]; exact (szSer_le h4 h7).1), ?_⟩, by unfold szM; omega⟩
      have e3 : (i + 1).toNat = i.toNat + 1 := by omega
      rw [e3, h5]
      show _ = szAll _ (szSer (a0.getD i.toNat ([], [])) left)
      rw [hg]
  · have e4 : i.toNat = a0.length := by omega
    rw [e4, List.drop_length] at h5
    rw [h5]; rfl

set_option maxRecDepth 100000 in
theorem laws_szSeriesS.eq (i : El c_laws_szSeriesS.I) (x : El c_laws_szSeriesS.A) : vc tab (gam [(84, c_laws_szSeries)] []) (laws_szSeriesS.L x.1 x.2) (match Try.f46.body with | some c => c | none => .skip) 1 (initSt c_laws_szSeriesS Try.f46.ntmps i x) (bodyK tab c_laws_szSeriesS Try.f46.results.toList [3] i x) = laws_szSeriesS.F x.1 x.2 := by kernel_rfl
theorem laws_szSeriesS.ok : ConOk Try.prog 46 c_laws_szSeriesS :=
  conOk_of_eq (con := c_laws_szSeriesS) (tab := tab) (Γ := (gam [(84, c_laws_szSeries)] [])) (fn := Try.f46) (c := (match Try.f46.body with | some c => c | none => .skip)) (fun i x => laws_szSeriesS.L x.1 x.2) (fun i x => laws_szSeriesS.F x.1 x.2) rfl tabOk (gam_cons ⟨_, Try.func84, rfl, rfl⟩ laws_szSeries.ok (gam_nil _ [])) Try.func46 rfl [3] (by kernel_rfl) laws_szSeriesS.eq fun i x h hi hw => laws_szSeriesS.pure x.1 x.2 h hw

def c_laws_eqPoint : Con := { io := false, I := .unit, ownI := [], A := (.pair (.pair (.int .i64) (.int .i64)) (.pair (.int .i64) (.int .i64))), shA := [.agg 2, .agg 2], ownA := [], backA := [], B := .unit, R := .bool, shR := [(false, 1)], fresh := [], newR := false, pre := fun _ a => True, f := some fun _ a => ((eqPt a.1 a.2), ((), ())) }
def laws_eqPoint.F  (a0 : (Int × Int)) (a1 : (Int × Int)) : Prop := (caseB (a0.1 != a1.1) (((false, ((), ())) : Bool × (Unit × Unit)) = ((eqPt a0 a1), ((), ()))) (caseB (a0.2 != a1.2) (((false, ((), ())) : Bool × (Unit × Unit)) = ((eqPt a0 a1), ((), ()))) (((true, ((), ())) : Bool × (Unit × Unit)) = ((eqPt a0 a1), ((), ())))))
def laws_eqPoint.L  (a0 : (Int × Int)) (a1 : (Int × Int)) : Nat → Option LoopAnn := fun p => Go.Proofs.Ytcbehcpmojnnfaa.Bv.look p []

theorem laws_eqPoint.pure  (a0 : (Int × Int)) (a1 : (Int × Int)) (h : True) (hw : Wf c_laws_eqPoint.A (a0, a1)) : laws_eqPoint.F a0 a1 := by
  unfold laws_eqPoint.F eqPt
  obtain ⟨x1, x2⟩ := a0
  obtain ⟨y1, y2⟩ := a1
  simp only [forall_eq, true_and, and_true, caseB_iff, Prod.mk.injEq, decide_eq_true_eq, decide_eq_false_iff_not, Bool.not_eq_true', Bool.not_eq_false']
  refine ⟨fun h1 => ?_, fun h1 => ⟨fun h2 => ?_, fun h2 => ?_⟩⟩ <;> simp_all

set_option maxRecDepth 100000 in
theorem laws_eqPoint.eq (i : El c_laws_eqPoint.I) (x : El c_laws_eqPoint.A) : vc tab (gam [] []) (laws_eqPoint.L x.1 x.2) (match Try.f91.body with | some c => c | none => .skip) 1 (initSt c_laws_eqPoint Try.f91.ntmps i x) (bodyK tab c_laws_eqPoint Try.f91.results.toList [4] i x) = laws_eqPoint.F x.1 x.2 := by kernel_rfl
theorem laws_eqPoint.ok : ConOk Try.prog 91 c_laws_eqPoint :=
  conOk_of_eq (con := c_laws_eqPoint) (tab := tab) (Γ := (gam [] [])) (fn := Try.f91) (c := (match Try.f91.body with | some c => c | none => .skip)) (fun i x => laws_eqPoint.L x.1 x.2) (fun i x => laws_eqPoint.F x.1 x.2) rfl tabOk (gam_nil _ []) Try.func91 rfl [4] (by kernel_rfl) laws_eqPoint.eq fun i x h hi hw => laws_eqPoint.pure x.1 x.2 h hw

def c_laws_eqPointS : Con := { io := false, I := .unit, ownI := [], A := (.pair (.list (.pair (.int .i64) (.int .i64))) (.list (.pair (.int .i64) (.int .i64)))), shA := [.one, .one], ownA := [], backA := [], B := .unit, R := .bool, shR := [(false, 1)], fresh := [], newR := false, pre := fun _ a => True, f := some fun _ a => ((eqPts a.1 a.2), ((), ())) }
def laws_eqPointS.F  (a0 : (List (Int × Int))) (a1 : (List (Int × Int))) : Prop := (caseB (((List.length a0 : Nat) : Int) != ((List.length a1 : Nat) : Int)) (((false, ((), ())) : Bool × (Unit × Unit)) = ((eqPts a0 a1), ((), ()))) (([(0, .val false [.lst (.pair (.int .i64) (.int .i64)) a0 none]), (1, .val false [.lst (.pair (.int .i64) (.int .i64)) a1 none])] : List (Nat × Sv)) = [(0, .val false [.lst (.pair (.int .i64) (.int .i64)) a0 none]), (1, .val false [.lst (.pair (.int .i64) (.int .i64)) a1 none])] ∧ ((eqPI a0 a1 0) ∧ ∀ (y1 : Int), (eqPI a0 a1 y1) → (caseB (decide (y1 < ((List.length a0 : Nat) : Int))) (0 ≤ y1 ∧ (y1 < ((List.length a0 : Nat) : Int) ∧ (0 ≤ y1 ∧ (y1 < ((List.length a1 : Nat) : Int) ∧ (True ∧ ∀ (r2 : Bool × (Unit × Unit)), ((r2 : Bool × (Unit × Unit)) = ((eqPt ((List.getD a0 (Int.toNat y1) ((0 : Int), (0 : Int))).1, (List.getD a0 (Int.toNat y1) ((0 : Int), (0 : Int))).2) ((List.getD a1 (Int.toNat y1) ((0 : Int), (0 : Int))).1, (List.getD a1 (Int.toNat y1) ((0 : Int), (0 : Int))).2)), ((), ()))) → (caseB (!r2.1) (((false, ((), ())) : Bool × (Unit × Unit)) = ((eqPts a0 a1), ((), ()))) (([(0, .val false [.lst (.pair (.int .i64) (.int .i64)) a0 none]), (1, .val false [.lst (.pair (.int .i64) (.int .i64)) a1 none])] : List (Nat × Sv)) = [(0, .val false [.lst (.pair (.int .i64) (.int .i64)) a0 none]), (1, .val false [.lst (.pair (.int .i64) (.int .i64)) a1 none])] ∧ (eqPI a0 a1 (IntKind.wrap .i64 (y1 + (1 : Int)))) ∧ (eqPM a0 a1 (IntKind.wrap .i64 (y1 + (1 : Int)))) < (eqPM a0 a1 y1)))))))) (((true, ((), ())) : Bool × (Unit × Unit)) = ((eqPts a0 a1), ((), ())))))))
def laws_eqPointS.L  (a0 : (List (Int × Int))) (a1 : (List (Int × Int))) : Nat → Option LoopAnn := fun p => Go.Proofs.Ytcbehcpmojnnfaa.Bv.look p [(58, { kp := { hold := [0, 1], slots := [5], boxes := [], rows := [] }, T := (.int .i64), I := fun st y => eqPI a0 a1 y, μ := fun st y => eqPM a0 a1 y })]

theorem laws_eqPointS.pure  (a0 : (List (Int × Int))) (a1 : (List (Int × Int))) (h : True) (hw : Wf c_laws_eqPointS.A (a0, a1)) : laws_eqPointS.F a0 a1 := by
  unfold laws_eqPointS.F
  have hw1 : a0.length ≤ maxLen := hw.1.1
  unfold maxLen at hw1
  simp only [forall_eq, true_and, and_true, caseB_iff, Prod.mk.injEq, decide_eq_true_eq, decide_eq_false_iff_not, Bool.not_eq_true', Bool.not_eq_false']
  refine ⟨fun h1 => ?_, fun h1 => ?_⟩
  · have : a0 ≠ a1 := fun e => by subst e; simp at h1
    simp [eqPts, this]
  have hl : a0.length = a1.length := by simp at h1; omega
  refine ⟨⟨by omega, by omega, hl, by simp⟩, ?_⟩
  rintro i hI
  have h2 := hI.1
  have h3 := hI.2.1
  refine ⟨fun hi => ⟨h2, hi, h2, by omega, fun hne => ?_, fun he => ?_⟩, fun hi => ?_⟩
  · have : a0 ≠ a1 := fun e => by subst e; simp [eqPt] at hne
    simp [eqPts, this]
  · have hg : a0.getD i.toNat (0, 0) = a1.getD i.toNat (0, 0) := by simpa only [eqPt, decide_eq_true_eq] using he
    have e2 : IntKind.wrap .i64 (i + 1) = i + 1 := Go.IntWalk.i64_in _ (by omega)
    rw [e2]
    exact ⟨eqG_step hI hi hg, by unfold eqPM; omega⟩
  · have h6 := eqG_end hI hi
    simp [eqPts, h6]

set_option maxRecDepth 100000 in
theorem laws_eqPointS.eq (i : El c_laws_eqPointS.I) (x : El c_laws_eqPointS.A) : vc tab (gam [(91, c_laws_eqPoint)] []) (laws_eqPointS.L x.1 x.2) (match Try.f56.body with | some c => c | none => .skip) 1 (initSt c_laws_eqPointS Try.f56.ntmps i x) (bodyK tab c_laws_eqPointS Try.f56.results.toList [4] i x) = laws_eqPointS.F x.1 x.2 := by kernel_rfl
theorem laws_eqPointS.ok : ConOk Try.prog 56 c_laws_eqPointS :=
  conOk_of_eq (con := c_laws_eqPointS) (tab := tab) (Γ := (gam [(91, c_laws_eqPoint)] [])) (fn := Try.f56) (c := (match Try.f56.body with | some c => c | none => .skip)) (fun i x => laws_eqPointS.L x.1 x.2) (fun i x => laws_eqPointS.F x.1 x.2) rfl tabOk (gam_cons ⟨_, Try.func91, rfl, rfl⟩ laws_eqPoint.ok (gam_nil _ [])) Try.func56 rfl [4] (by kernel_rfl) laws_eqPointS.eq fun i x h hi hw => laws_eqPointS.pure x.1 x.2 h hw

def c_laws_eqSeries : Con := { io := false, I := .unit, ownI := [], A := (.pair (.pair .str (.list (.pair (.int .i64) (.int .i64)))) (.pair .str (.list (.pair (.int .i64) (.int .i64))))), shA := [.agg 2, .agg 2], ownA := [], backA := [], B := .unit, R := .bool, shR := [(false, 1)], fresh := [], newR := false, pre := fun _ a => True, f := some fun _ a => ((eqSer a.1 a.2), ((), ())) }
def laws_eqSeries.F  (a0 : ((List UInt8) × (List (Int × Int)))) (a1 : ((List UInt8) × (List (Int × Int)))) : Prop := (caseB (!(a0.1 == a1.1)) (((false, ((), ())) : Bool × (Unit × Unit)) = ((eqSer a0 a1), ((), ()))) (True ∧ ∀ (r1 : Bool × (Unit × Unit)), ((r1 : Bool × (Unit × Unit)) = ((eqPts a0.2 a1.2), ((), ()))) → (caseB (!r1.1) (((false, ((), ())) : Bool × (Unit × Unit)) = ((eqSer a0 a1), ((), ()))) (((true, ((), ())) : Bool × (Unit × Unit)) = ((eqSer a0 a1), ((), ()))))))
def laws_eqSeries.L  (a0 : ((List UInt8) × (List (Int × Int)))) (a1 : ((List UInt8) × (List (Int × Int)))) : Nat → Option LoopAnn := fun p => Go.Proofs.Ytcbehcpmojnnfaa.Bv.look p []

theorem laws_eqSeries.pure  (a0 : ((List UInt8) × (List (Int × Int)))) (a1 : ((List UInt8) × (List (Int × Int)))) (h : True) (hw : Wf c_laws_eqSeries.A (a0, a1)) : laws_eqSeries.F a0 a1 := by
  unfold laws_eqSeries.F eqSer
  obtain ⟨x1, x2⟩ := a0
  obtain ⟨y1, y2⟩ := a1
  simp only [forall_eq, true_and, and_true, caseB_iff, Prod.mk.injEq, decide_eq_true_eq, decide_eq_false_iff_not, Bool.not_eq_true', Bool.not_eq_false']
  refine ⟨fun h1 => ?_, fun h1 => ⟨fun h2 => ?_, fun h2 => ?_⟩⟩ <;> simp_all [eqPts]

set_option maxRecDepth 100000 in
theorem laws_eqSeries.eq (i : El c_laws_eqSeries.I) (x : El c_laws_eqSeries.A) : vc tab (gam [(56, c_laws_eqPointS)] []) (laws_eqSeries.L x.1 x.2) (match Try.f88.body with | some c => c | none => .skip) 1 (initSt c_laws_eqSeries Try.f88.ntmps i x) (bodyK tab c_laws_eqSeries Try.f88.results.toList [4] i x) = laws_eqSeries.F x.1 x.2 := by kernel_rfl
theorem laws_eqSeries.ok : ConOk Try.prog 88 c_laws_eqSeries :=
  conOk_of_eq (con := c_laws_eqSeries) (tab := tab) (Γ := (gam [(56, c_laws_eqPointS)] [])) (fn := Try.f88) (c := (match Try.f88.body with | some c => c | none => .skip)) (fun i x => laws_eqSeries.L x.1 x.2) (fun i x => laws_eqSeries.F x.1 x.2) rfl tabOk (gam_cons ⟨_, Try.func56, rfl, rfl⟩ laws_eqPointS.ok (gam_nil _ [])) Try.func88 rfl [4] (by kernel_rfl) laws_eqSeries.eq fun i x h hi hw => laws_eqSeries.pure x.1 x.2 h hw

def c_laws_eqSeriesS : Con := { io := false, I := .unit, ownI := [], A := (.pair (.list (.pair .str (.list (.pair (.int .i64) (.int .i64))))) (.list (.pair .str (.list (.pair (.int .i64) (.int .i64)))))), shA := [.one, .one], ownA := [], backA := [], B := .unit, R := .bool, shR := [(false, 1)], fresh := [], newR := false, pre := fun _ a => True, f := some fun _ a => ((eqSerS a.1 a.2), ((), ())) }
def laws_eqSeriesS.F  (a0 : (List ((List UInt8) × (List (Int × Int))))) (a1 : (List ((List UInt8) × (List (Int × Int))))) : Prop := (caseB (((List.length a0 : Nat) : Int) != ((List.length a1 : Nat) : Int)) (((false, ((), ())) : Bool × (Unit × Unit)) = ((eqSerS a0 a1), ((), ()))) (([(0, .val false [.lst (.pair .str (.list (.pair (.int .i64) (.int .i64)))) a0 none]), (1, .val false [.lst (.pair .str (.list (.pair (.int .i64) (.int .i64)))) a1 none])] : List (Nat × Sv)) = [(0, .val false [.lst (.pair .str (.list (.pair (.int .i64) (.int .i64)))) a0 none]), (1, .val false [.lst (.pair .str (.list (.pair (.int .i64) (.int .i64)))) a1 none])] ∧ ((eqSI a0 a1 0) ∧ ∀ (y1 : Int), (eqSI a0 a1 y1) → (caseB (decide (y1 < ((List.length a0 : Nat) : Int))) (0 ≤ y1 ∧ (y1 < ((List.length a0 : Nat) : Int) ∧ (0 ≤ y1 ∧ (y1 < ((List.length a1 : Nat) : Int) ∧ (True ∧ ∀ (r2 : Bool × (Unit × Unit)), ((r2 : Bool × (Unit × Unit)) = ((eqSer ((List.getD a0 (Int.toNat y1) (([] : (List UInt8)), ([] : (List (Int × Int))))).1, (List.getD a0 (Int.toNat y1) (([] : (List UInt8)), ([] : (List (Int × Int))))).2) ((List.getD a1 (Int.toNat y1) (([] : (List UInt8)), ([] : (List (Int × Int))))).1, (List.getD a1 (Int.toNat y1) (([] : (List UInt8)), ([] : (List (Int × Int))))).2)), ((), ()))) → (caseB (!r2.1) (((false, ((), ())) : Bool × (Unit × Unit)) = ((eqSerS a0 a1), ((), ()))) (([(0, .val false [.lst (.pair .str (.list (.pair (.int .i64) (.int .i64)))) a0 none]), (1, .val false [.lst (.pair .str (.list (.pair (.int .i64) (.int .i64)))) a1 none])] : List (Nat × Sv)) = [(0, .val false [.lst (.pair .str (.list (.pair (.int .i64) (.int .i64)))) a0 none]), (1, .val false [.lst (.pair .str (.list (.pair (.int .i64) (.int .i64)))) a1 none])] ∧ (eqSI a0 a1 (IntKind.wrap .i64 (y1 + (1 : Int)))) ∧ (eqSM a0 a1 (IntKind.wrap .i64 (y1 + (1 : Int)))) < (eqSM a0 a1 y1)))))))) (((true, ((), ())) : Bool × (Unit × Unit)) = ((eqSerS a0 a1), ((), ())))))))
def laws_eqSeriesS.L  (a0 : (List ((List UInt8) × (List (Int × Int))))) (a1 : (List ((List UInt8) × (List (Int × Int))))) : Nat → Option LoopAnn := fun p => Go.Proofs.Ytcbehcpmojnnfaa.Bv.look p [(58, { kp := { hold := [0, 1], slots := [5], boxes := [], rows := [] }, T := (.int .i64), I := fun st y => eqSI a0 a1 y, μ := fun st y => eqSM a0 a1 y })]

theorem laws_eqSeriesS.pure  (a0 : (List ((List UInt8) × (List (Int × Int))))) (a1 : (List ((List UInt8) × (List (Int × Int))))) (h : True) (hw : Wf c_laws_eqSeriesS.A (a0, a1)) : laws_eqSeriesS.F a0 a1 := by
  unfold laws_eqSeriesS.F
  have hw1 : a0.length ≤ maxLen := hw.1.1
  unfold maxLen at hw1
  simp only [forall_eq, true_and, and_true, caseB_iff, Prod.mk.injEq, decide_eq_true_eq, decide_eq_false_iff_not, Bool.not_eq_true', Bool.not_eq_false']
  refine ⟨fun h1 => ?_, fun h1 => ?_⟩
  · have : a0 ≠ a1 := fun e => by subst e; simp at h1
    simp [eqSerS, this]
  have hl : a0.length = a1.length := by simp at h1; omega
  refine ⟨⟨by omega, by omega, hl, by simp⟩, ?_⟩
  rintro i hI
  have h2 := hI.1
  have h3 := hI.2.1
  refine ⟨fun hi => ⟨h2, hi, h2, by omega, fun hne => ?_, fun he => ?_⟩, fun hi => ?_⟩
  · have : a0 ≠ a1 := fun e => by subst e; simp [eqSer] at hne
    simp [eqSerS, this]
  · have hg : a0.getD i.toNat ([], []) = a1.getD i.toNat ([], []) := by simpa only [eqSer, decide_eq_true_eq] using he
    have e2 : IntKind.wrap .i64 (i + 1) = i + 1 := Go.IntWalk.i64_in _ (by omega)
    rw [e2]
    exact ⟨eqG_step hI hi hg, by unfold eqSM; omega⟩
  · have h6 := eqG_end hI hi
    simp [eqSerS, h6]

set_option maxRecDepth 100000 in
theorem laws_eqSeriesS.eq (i : El c_laws_eqSeriesS.I) (x : El c_laws_eqSeriesS.A) : vc tab (gam [(88, c_laws_eqSeries)] []) (laws_eqSeriesS.L x.1 x.2) (match Try.f50.body with | some c => c | none => .skip) 1 (initSt c_laws_eqSeriesS Try.f50.ntmps i x) (bodyK tab c_laws_eqSeriesS Try.f50.results.toList [4] i x) = laws_eqSeriesS.F x.1 x.2 := by kernel_rfl
theorem laws_eqSeriesS.ok : ConOk Try.prog 50 c_laws_eqSeriesS :=
  conOk_of_eq (con := c_laws_eqSeriesS) (tab := tab) (Γ := (gam [(88, c_laws_eqSeries)] [])) (fn := Try.f50) (c := (match Try.f50.body with | some c => c | none => .skip)) (fun i x => laws_eqSeriesS.L x.1 x.2) (fun i x => laws_eqSeriesS.F x.1 x.2) rfl tabOk (gam_cons ⟨_, Try.func88, rfl, rfl⟩ laws_eqSeries.ok (gam_nil _ [])) Try.func50 rfl [4] (by kernel_rfl) laws_eqSeriesS.eq fun i x h hi hw => laws_eqSeriesS.pure x.1 x.2 h hw

def laws_FnExactSeriesOk.F  (a0 : (List ((List UInt8) × (List (Int × Int))))) : Prop := ((pszSerS a0 1048576) ∧ ∀ (r1 : Int × (Unit × Unit)), ((r1 : Int × (Unit × Unit)) = ((szSerS a0 1048576), ((), ()))) → (caseB (decide (r1.1 < (0 : Int))) (((true, ((), ())) : Bool × (Unit × Unit)) = (true, ((), ()))) ((pSerS a0) ∧ ∀ (r2 : (List ((List UInt8) × (List (Int × Int)))) × (Unit × Unit)), ((r2 : (List ((List UInt8) × (List (Int × Int)))) × (Unit × Unit)) = ((fSerS a0), ((), ()))) → ((pSerOk r2.1) ∧ ∀ (r3 : Bool × (Unit × Unit)), ((r3 : Bool × (Unit × Unit)) = ((fSerOk r2.1), ((), ()))) → ((pSerS a0) ∧ ∀ (r4 : (List ((List UInt8) × (List (Int × Int)))) × (Unit × Unit)), ((r4 : (List ((List UInt8) × (List (Int × Int)))) × (Unit × Unit)) = ((fSerS a0), ((), ()))) → ((pSerOk r4.1) ∧ ∀ (r5 : Bool × (Unit × Unit)), ((r5 : Bool × (Unit × Unit)) = ((fSerOk r4.1), ((), ()))) → (caseB (!(r5.1 == r3.1)) (((false, ((), ())) : Bool × (Unit × Unit)) = (true, ((), ()))) ((pSerS a0) ∧ ∀ (r6 : (List ((List UInt8) × (List (Int × Int)))) × (Unit × Unit)), ((r6 : (List ((List UInt8) × (List (Int × Int)))) × (Unit × Unit)) = ((fSerS a0), ((), ()))) → (True ∧ ∀ (r7 : Bool × (Unit × Unit)), ((r7 : Bool × (Unit × Unit)) = ((eqSerS r4.1 r6.1), ((), ()))) → (caseB (!r7.1) (((false, ((), ())) : Bool × (Unit × Unit)) = (true, ((), ()))) (((true, ((), ())) : Bool × (Unit × Unit)) = (true, ((), ())))))))))))))
def laws_FnExactSeriesOk.L  (a0 : (List ((List UInt8) × (List (Int × Int))))) : Nat → Option LoopAnn := fun p => Go.Proofs.Ytcbehcpmojnnfaa.Bv.look p []

theorem laws_FnExactSeriesOk.pure  (a0 : (List ((List UInt8) × (List (Int × Int))))) (h : WfD (.list (.pair .str (.list (.pair (.int .i64) (.int .i64))))) a0) (hw : Wf (lawCon (.list (.pair .str (.list (.pair (.int .i64) (.int .i64))))) [.one]).A a0) : laws_FnExactSeriesOk.F a0 := by
  unfold laws_FnExactSeriesOk.F
  have hk : ∀ s ∈ a0, s.1.length ≤ maxLen := fun s hs => (h.2 s hs).1
  have hps : pszSerS a0 1048576 := ⟨hk, by omega, by omega⟩
  have he : eqSerS a0 a0 = true := by simp [eqSerS]
  simp only [forall_eq, true_and, and_true, caseB_iff, fSerS, decide_eq_true_eq, decide_eq_false_iff_not]
  refine ⟨hps, fun _ => trivial, fun h1 => ?_⟩
  have hp := szSerS_le h1
  have hs : pSerOk a0 := hk
  simp [hp, hs, he]

set_option maxRecDepth 100000 in
theorem laws_FnExactSeriesOk.eq (i : El (lawCon (.list (.pair .str (.list (.pair (.int .i64) (.int .i64))))) [.one]).I) (x : El (lawCon (.list (.pair .str (.list (.pair (.int .i64) (.int .i64))))) [.one]).A) : vc tab (gam [(46, c_laws_szSeriesS), (47, c_spec_SeriesOk), (48, c_laws_toSeriesS), (49, c_impl_SeriesOk), (50, c_laws_eqSeriesS)] []) (laws_FnExactSeriesOk.L x) (match Try.f10.body with | some c => c | none => .skip) 1 (initSt (lawCon (.list (.pair .str (.list (.pair (.int .i64) (.int .i64))))) [.one]) Try.f10.ntmps i x) (bodyK tab (lawCon (.list (.pair .str (.list (.pair (.int .i64) (.int .i64))))) [.one]) Try.f10.results.toList [4] i x) = laws_FnExactSeriesOk.F x := by kernel_rfl
theorem laws_FnExactSeriesOk.ok : ConOk Try.prog 10 (lawCon (.list (.pair .str (.list (.pair (.int .i64) (.int .i64))))) [.one]) :=
  conOk_of_eq (con := (lawCon (.list (.pair .str (.list (.pair (.int .i64) (.int .i64))))) [.one])) (tab := tab) (Γ := (gam [(46, c_laws_szSeriesS), (47, c_spec_SeriesOk), (48, c_laws_toSeriesS), (49, c_impl_SeriesOk), (50, c_laws_eqSeriesS)] [])) (fn := Try.f10) (c := (match Try.f10.body with | some c => c | none => .skip)) (fun i x => laws_FnExactSeriesOk.L x) (fun i x => laws_FnExactSeriesOk.F x) rfl tabOk (gam_cons ⟨_, Try.func46, rfl, rfl⟩ laws_szSeriesS.ok (gam_cons ⟨_, Try.func47, rfl, rfl⟩ spec_SeriesOk.ok (gam_cons ⟨_, Try.func48, rfl, rfl⟩ laws_toSeriesS.ok (gam_cons ⟨_, Try.func49, rfl, rfl⟩ impl_SeriesOk.ok (gam_cons ⟨_, Try.func50, rfl, rfl⟩ laws_eqSeriesS.ok (gam_nil _ [])))))) Try.func10 rfl [4] (by kernel_rfl) laws_FnExactSeriesOk.eq fun i x h hi hw => laws_FnExactSeriesOk.pure x h hw

end Go.Proofs.Ytcbehcpmojnnfaa.B
