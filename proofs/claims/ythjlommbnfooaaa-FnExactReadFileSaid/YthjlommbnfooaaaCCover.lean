/- What a stretch of time covers. -/
import Derived.Test.YthjlommbnfooaaaCLib
namespace Go.Proofs.Ythjlommbnfooaaa.B
set_option linter.unusedVariables false
set_option linter.unusedSimpArgs false
open Go Go.Proofs.Ythjlommbnfooaaa.Bv

def fIn (a l h : Int) : Bool := decide (l ≤ a) && decide (a ≤ h)
def fBucket (t : Int) : Int := if fIn t 0 1099511627776 then t / 100 else -1
/-- The numbers from a on, so many. -/
def upFrom (a : Int) (n : Nat) : List Int := (List.range n).map fun (j : Nat) => a + (j : Int)

theorem upFrom_length (a : Int) (n : Nat) : (upFrom a n).length = n := by simp [upFrom]
theorem upFrom_succ (a : Int) (n : Nat) : upFrom a (n + 1) = upFrom a n ++ [a + (n : Int)] := by simp [upFrom, List.range_succ]
theorem upFrom_zero (a : Int) : upFrom a 0 = [] := rfl

def fCover (a b : Int) : List Int := if a < 0 ∨ b ≤ a ∨ b > 1099511627776 ∨ (b - 1) / 100 - a / 100 ≥ 8 then [] else upFrom (a / 100) ((b - 1) / 100 - a / 100 + 1).toNat
def covI (a b k : Int) (out : List Int) : Prop := 0 ≤ a ∧ a < b ∧ b ≤ 1099511627776 ∧ (b - 1) / 100 - a / 100 < 8 ∧ a / 100 ≤ k ∧ k ≤ (b - 1) / 100 + 1 ∧ out = upFrom (a / 100) (k - a / 100).toNat
def covM (a b k : Int) (out : List Int) : Nat := ((b - 1) / 100 + 1 - k).toNat

theorem cov_step {a b k : Int} {out : List Int} (h : covI a b k out) (hk : k ≤ (b - 1) / 100) :
    out.length ≤ 8 ∧ IntKind.wrap .i64 (k + 1) = k + 1 ∧ covI a b (k + 1) (out ++ [k]) ∧ covM a b (k + 1) (out ++ [k]) < covM a b k out := by
  obtain ⟨h1, h2, h3, h4, h5, h6, h7⟩ := h
  refine ⟨by rw [h7, upFrom_length]; omega, Go.IntWalk.i64_in _ (by omega), ⟨h1, h2, h3, h4, by omega, by omega, ?_⟩, by unfold covM; omega⟩
  have e : (k + 1 - a / 100).toNat = (k - a / 100).toNat + 1 := by omega
  rw [e, upFrom_succ, h7]
  congr 2
  omega

theorem cov_end {a b k : Int} {out : List Int} (h : covI a b k out) (hk : ¬ k ≤ (b - 1) / 100) : out = fCover a b := by
  obtain ⟨h1, h2, h3, h4, h5, h6, h7⟩ := h
  unfold fCover
  rw [if_neg (by omega), h7]
  congr 2
  omega


def c_spec_l1In : Con := { io := false, I := .unit, ownI := [], A := (.pair (.int .i64) (.pair (.int .i64) (.int .i64))), shA := [.one, .one, .one], ownA := [], backA := [], B := .unit, R := .bool, shR := [(false, 1)], fresh := [], newR := false, pre := fun _ a => True, f := some fun _ a => ((fIn a.1 a.2.1 a.2.2), ((), ())) }
def spec_l1In.F  (a0 : Int) (a1 : Int) (a2 : Int) : Prop := (caseB (decide (a0 ≥ a1)) ((((decide (a0 ≤ a2)), ((), ())) : Bool × (Unit × Unit)) = ((fIn a0 a1 a2), ((), ()))) (((false, ((), ())) : Bool × (Unit × Unit)) = ((fIn a0 a1 a2), ((), ()))))
def spec_l1In.L  (a0 : Int) (a1 : Int) (a2 : Int) : Nat → Option LoopAnn := fun p => Go.Proofs.Ythjlommbnfooaaa.Bv.look p []

theorem spec_l1In.pure  (a0 : Int) (a1 : Int) (a2 : Int) (h : True) (hw : Wf c_spec_l1In.A (a0, a1, a2)) : spec_l1In.F a0 a1 a2 := by
  unfold spec_l1In.F fIn
  simp only [caseB_iff, and_true, decide_eq_true_eq, decide_eq_false_iff_not, Prod.mk.injEq]
  exact ⟨fun h => by simp [h], fun h => by simp [h]⟩

set_option maxRecDepth 100000 in
theorem spec_l1In.eq (i : El c_spec_l1In.I) (x : El c_spec_l1In.A) : vc tab (gam [] [] eqs) (spec_l1In.L x.1 x.2.1 x.2.2) (match Try.f61.body with | some c => c | none => .skip) 1 (initSt c_spec_l1In Try.f61.ntmps i x) (bodyK tab c_spec_l1In Try.f61.results.toList [4] i x) = spec_l1In.F x.1 x.2.1 x.2.2 := by kernel_rfl
theorem spec_l1In.ok : ConOk Try.prog 61 c_spec_l1In :=
  conOk_of_eq (con := c_spec_l1In) (tab := tab) (Γ := (gam [] [] eqs)) (fn := Try.f61) (c := (match Try.f61.body with | some c => c | none => .skip)) (fun i x => spec_l1In.L x.1 x.2.1 x.2.2) (fun i x => spec_l1In.F x.1 x.2.1 x.2.2) rfl tabOk (gam_nil _ [] eqsOk) Try.func61 rfl [4] (by kernel_rfl) spec_l1In.eq fun i x h hi hw => spec_l1In.pure x.1 x.2.1 x.2.2 h hw

def c_impl_from : Con := { io := false, I := .unit, ownI := [], A := (.pair (.int .i64) (.pair (.int .i64) (.int .i64))), shA := [.one, .one, .one], ownA := [], backA := [], B := .unit, R := .bool, shR := [(false, 1)], fresh := [], newR := false, pre := fun _ a => True, f := some fun _ a => ((fIn a.1 a.2.1 a.2.2), ((), ())) }
def impl_from.F  (a0 : Int) (a1 : Int) (a2 : Int) : Prop := (caseB (decide (a0 ≥ a1)) ((((decide (a0 ≤ a2)), ((), ())) : Bool × (Unit × Unit)) = ((fIn a0 a1 a2), ((), ()))) (((false, ((), ())) : Bool × (Unit × Unit)) = ((fIn a0 a1 a2), ((), ()))))
def impl_from.L  (a0 : Int) (a1 : Int) (a2 : Int) : Nat → Option LoopAnn := fun p => Go.Proofs.Ythjlommbnfooaaa.Bv.look p []

theorem impl_from.pure  (a0 : Int) (a1 : Int) (a2 : Int) (h : True) (hw : Wf c_impl_from.A (a0, a1, a2)) : impl_from.F a0 a1 a2 := by
  unfold impl_from.F fIn
  simp only [caseB_iff, and_true, decide_eq_true_eq, decide_eq_false_iff_not, Prod.mk.injEq]
  exact ⟨fun h => by simp [h], fun h => by simp [h]⟩

set_option maxRecDepth 100000 in
theorem impl_from.eq (i : El c_impl_from.I) (x : El c_impl_from.A) : vc tab (gam [] [] eqs) (impl_from.L x.1 x.2.1 x.2.2) (match Try.f68.body with | some c => c | none => .skip) 1 (initSt c_impl_from Try.f68.ntmps i x) (bodyK tab c_impl_from Try.f68.results.toList [4] i x) = impl_from.F x.1 x.2.1 x.2.2 := by kernel_rfl
theorem impl_from.ok : ConOk Try.prog 68 c_impl_from :=
  conOk_of_eq (con := c_impl_from) (tab := tab) (Γ := (gam [] [] eqs)) (fn := Try.f68) (c := (match Try.f68.body with | some c => c | none => .skip)) (fun i x => impl_from.L x.1 x.2.1 x.2.2) (fun i x => impl_from.F x.1 x.2.1 x.2.2) rfl tabOk (gam_nil _ [] eqsOk) Try.func68 rfl [4] (by kernel_rfl) impl_from.eq fun i x h hi hw => impl_from.pure x.1 x.2.1 x.2.2 h hw

end Go.Proofs.Ythjlommbnfooaaa.B
