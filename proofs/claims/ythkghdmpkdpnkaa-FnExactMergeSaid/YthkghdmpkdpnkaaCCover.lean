/- What a stretch of time covers. -/
import Derived.Test.YthkghdmpkdpnkaaCLib
namespace Go.Proofs.Ythkghdmpkdpnkaa.B
set_option linter.unusedVariables false
set_option linter.unusedSimpArgs false
open Go Go.Proofs.Ythkghdmpkdpnkaa.Bv

def fIn (a l h : Int) : Bool := decide (l ≤ a) && decide (a ≤ h)
def fBucket (t : Int) : Int := if fIn t 0 1099511627776 then t / 100 else -1
/-- The numbers from a on, so many. -/
def upFrom (a : Int) (n : Nat) : List Int := (List.range n).map fun (j : Nat) => a + (j : Int)

theorem upFrom_length (a : Int) (n : Nat) : (upFrom a n).length = n := by simp [upFrom]
theorem upFrom_succ (a : Int) (n : Nat) : upFrom a (n + 1) = upFrom a n ++ [a + (n : Int)] := by simp [upFrom, List.range_succ]
theorem upFrom_zero (a : Int) : upFrom a 0 = [] := rfl

def fCover (a b : Int) : List Int := if a < 0 ∨ b ≤ a ∨ b > 1099511627776 ∨ (b - 1) / 100 - a / 100 ≥ 8 then [] else upFrom (a / 100) ((b - 1) / 100 - a / 100 + 1).toNat
def covI (a b k : Int) (out : List Int) : Prop := 0 ≤ a ∧ a < b ∧ b ≤ 1099511627776 ∧ (b - 1) / 100 - a / 100 < 8 ∧ a / 100 ≤ k ∧ k ≤ (b - 1) / 100 + 1 ∧ out = upFrom (a / 100) (k - a / 100).toNat
def covM (a b k : Int) (out : List Int) : Nat := ((b - 1) / 100 + 1 - k).toNat

theorem cov_step {a b k : Int} {out : List Int} (h : covI a b k out) (hk : k ≤ (b - 1) / 100) :
    out.length ≤ 8 ∧ IntKind.wrap .i64 (k + 1) = k + 1 ∧ covI a b (k + 1) (out ++ [k]) ∧ covM a b (k + 1) (out ++ [k]) < covM a b k out := by
  obtain ⟨h1, h2, h3, h4, h5, h6, h7⟩ := h
  refine ⟨by rw [h7, upFrom_length]; omega, Go.IntWalk.i64_in _ (by omega), ⟨h1, h2, h3, h4, by omega, by omega, ?_⟩, by unfold covM; omega⟩
  have e : (k + 1 - a / 100).toNat = (k - a / 100).toNat + 1 := by omega
  rw [e, upFrom_succ, h7]
  congr 2
  omega

theorem cov_end {a b k : Int} {out : List Int} (h : covI a b k out) (hk : ¬ k ≤ (b - 1) / 100) : out = fCover a b := by
  obtain ⟨h1, h2, h3, h4, h5, h6, h7⟩ := h
  unfold fCover
  rw [if_neg (by omega), h7]
  congr 2
  omega


def c_spec_l1In : Con := { A := (.pair (.int .i64) (.pair (.int .i64) (.int .i64))), shA := [.one, .one, .one], R := .bool, shR := [(false, 1)], pre := fun _ _ => True, f := some fun _ a => ((fIn a.1 a.2.1 a.2.2), ((), ())) }
def spec_l1In.F  (a0 : Int) (a1 : Int) (a2 : Int) : Prop := (caseB (decide (a0 ≥ a1)) (Eq ((decide (a0 ≤ a2)), ((), ())) ((fIn a0 a1 a2), ((), ()))) (Eq (false, ((), ())) ((fIn a0 a1 a2), ((), ()))))

theorem spec_l1In.pure  (a0 : Int) (a1 : Int) (a2 : Int) (h : True) (hw : Wf c_spec_l1In.A (a0, a1, a2)) : spec_l1In.F a0 a1 a2 := by
  unfold spec_l1In.F fIn
  simp only [caseB_iff, and_true, decide_eq_true_eq, decide_eq_false_iff_not, Prod.mk.injEq]
  exact ⟨fun h => by simp [h], fun h => by simp [h]⟩

set_option maxRecDepth 100000 in
theorem spec_l1In.eq : EqS c_spec_l1In Try.f50 [4] [] [] noL (fun i x => spec_l1In.F x.1 x.2.1 x.2.2) := by intro i x; kernel_rfl
theorem spec_l1In.ok : ConOk Try.prog 50 c_spec_l1In := okOf spec_l1In.eq Try.func50 rfl (by kernel_rfl) fun i x h hi hw => spec_l1In.pure x.1 x.2.1 x.2.2 h hw
def spec_l1In.e : GE := ⟨50, c_spec_l1In, ⟨_, Try.func50, rfl, rfl⟩, spec_l1In.ok⟩

def c_impl_from : Con := { A := (.pair (.int .i64) (.pair (.int .i64) (.int .i64))), shA := [.one, .one, .one], R := .bool, shR := [(false, 1)], pre := fun _ _ => True, f := some fun _ a => ((fIn a.1 a.2.1 a.2.2), ((), ())) }
def impl_from.F  (a0 : Int) (a1 : Int) (a2 : Int) : Prop := (caseB (decide (a0 ≥ a1)) (Eq ((decide (a0 ≤ a2)), ((), ())) ((fIn a0 a1 a2), ((), ()))) (Eq (false, ((), ())) ((fIn a0 a1 a2), ((), ()))))

theorem impl_from.pure  (a0 : Int) (a1 : Int) (a2 : Int) (h : True) (hw : Wf c_impl_from.A (a0, a1, a2)) : impl_from.F a0 a1 a2 := by
  unfold impl_from.F fIn
  simp only [caseB_iff, and_true, decide_eq_true_eq, decide_eq_false_iff_not, Prod.mk.injEq]
  exact ⟨fun h => by simp [h], fun h => by simp [h]⟩

set_option maxRecDepth 100000 in
theorem impl_from.eq : EqS c_impl_from Try.f57 [4] [] [] noL (fun i x => impl_from.F x.1 x.2.1 x.2.2) := by intro i x; kernel_rfl
theorem impl_from.ok : ConOk Try.prog 57 c_impl_from := okOf impl_from.eq Try.func57 rfl (by kernel_rfl) fun i x h hi hw => impl_from.pure x.1 x.2.1 x.2.2 h hw
def impl_from.e : GE := ⟨57, c_impl_from, ⟨_, Try.func57, rfl, rfl⟩, impl_from.ok⟩

end Go.Proofs.Ythkghdmpkdpnkaa.B
