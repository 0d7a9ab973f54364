/- The row of this law: what it is handed is opened, its contract is laid in, what it leaves is shut again. -/
import Derived.Test.YthkghdmpkdpnkaaRows
import Derived.Test.YthkghdmpkdpnkaaQCoreOf
import Derived.ChangeOld
namespace Go.Proofs.Ythkghdmpkdpnkaa.fnExactCoreOf
open Go.Proofs.Ythkghdmpkdpnkaa.B Go.ChangeShapes Go.WideShapes Go.ChangeAt Go.RowKit Go.Proofs.Ythkghdmpkdpnkaa.Bv
theorem own : ownKnob Try.prog.godebug = none := by kernel_rfl
theorem laid : laidOutB Try.prog = true := by kernel_rfl
set_option maxRecDepth 100000 in
theorem lifted (os : Os) (started : os.Started) (H : Type) (enc : TypeId × Value → H) :
    ReturnsInHanded {} Try.checked os 6 .any (Rows.fnExactCoreOfSpec.pre6 enc Try.prog Try.f6 Rows.fnExactCoreOfRow.domain false) (Rows.fnExactCoreOfSpec.post enc Try.prog Try.f6 false true false false) := by
  refine returnsInHanded_of_change_sized (C := Try.checked) own started (by kernel_rfl) Try.func6
    (ChangeSpec.witness6 (enc := enc) (C := Try.checked) false ⟨#[], #[.int .i64 0, .int .i64 0, .agg #[.int .i64 0, .int .i64 0, .int .i64 0, .int .i64 0, .slice none 0 0]], []⟩ 8 (by kernel_rfl) (by kernel_rfl) (by kernel_rfl) (by kernel_rfl)) ?_
  intro W base args ds gs before hval0 hW hcnd hsz0 _
  have hval : ∀ (j : Nat) t v, Try.f6.params[j]? = some t → args[j]? = some v → Value.okWide Try.prog W .any base t v := hval0
  have hW' := hW
  obtain ⟨p, q, hA0, hV, rfl, hfz, hnd⟩ := hW
  have hA : DataW.TrodAll enc Try.prog W 0 (fun _ => true) true Try.f6.params.toList args.toList ds p := hA0
  rw [Try.params6] at hA hval
  obtain ⟨v0, vs0, d0, ds0, p0, q0, hargs, rfl, rfl, h0, r0⟩ := trodAll_cons hA
  obtain ⟨v1, vs1, d1, ds1, p1, q1, rfl, rfl, rfl, h1, r1⟩ := trodAll_cons r0
  obtain ⟨v2, vs2, d2, ds2, p2, q2, rfl, rfl, rfl, h2, r2⟩ := trodAll_cons r1
  obtain ⟨rfl, rfl, rfl⟩ := trodAll_nil r2
  obtain rfl : args = #[v0, v1, v2] := by cases args; simp_all
  obtain ⟨rfl, rfl⟩ := trodVars_none hV
  have hlt0 : ∀ x ∈ p0, x.block < W.heap.size := fun x hx => by simpa using hW'.lt x (by simp [hx])
  have hlt1 : ∀ x ∈ p1, x.block < W.heap.size := fun x hx => by simpa using hW'.lt x (by simp [hx])
  have hlt2 : ∀ x ∈ p2, x.block < W.heap.size := fun x hx => by simpa using hW'.lt x (by simp [hx])
  obtain ⟨x0, hx0, hw0, ha0⟩ := arg_rep tabOk consist (t := 3) rfl (hval 0 3 v0 rfl rfl) h0
  obtain ⟨x1, hx1, hw1, ha1⟩ := arg_rep tabOk consist (t := 3) rfl (hval 1 3 v1 rfl rfl) h1
  obtain ⟨x2, hx2, hw2, ha2⟩ := arg_rep tabOk consist (t := 57) rfl (hval 2 57 v2 rfl rfl) h2
  clear hA0 hval0 hsz0
  refine (law_run laws_FnExactCoreOf.ok (vs := [v0, v1, v2]) (x := (x0, x1, x2)) (.cons ha0 (.cons ha1 (.cons ha2 .nil))) ⟨_, _, rfl, hx0, ⟨_, _, rfl, hx1, (by rw [List.append_nil]; exact hx2)⟩⟩ ⟨hw0, hw1, hw2⟩).mono fun e W' ⟨he, bel⟩ => ?_
  subst he
  exact ⟨_, rfl, _, _, _, [], _, [], hW', trodAll_mk1 (shut_bool Try.underlying4 _), (trodAll_cons_mk (Below.trod laid (by kernel_rfl) (of_decide_eq_true (by kernel_rfl)) h0 bel hlt0) (trodAll_cons_mk (Below.trod laid (by kernel_rfl) (of_decide_eq_true (by kernel_rfl)) h1 bel hlt1) (trodAll_cons_mk (Below.trod laid (by kernel_rfl) (of_decide_eq_true (by kernel_rfl)) h2 bel hlt2) trodAll_mk0))), rfl, bel.frame _, fun h => by cases h⟩
theorem over : Rows.fnExactCoreOfRow.holds Try.pinned (OpenSpec.ofChange Rows.fnExactCoreOfSpec) :=
  OpenClaim.holds_of_wide 6 Try.f6 rfl rfl rfl rfl rfl rfl rfl ⟨rfl, rfl, rfl, rfl, rfl⟩ rfl rfl rfl rfl rfl (by kernel_rfl) Try.func6 (by kernel_rfl)
    (of_decide_eq_true (by kernel_rfl)) (by unfold Func.isWrapper; first | (rw [if_pos (by decide +kernel)]; kernel_rfl) | (rw [if_neg (by decide +kernel)]; exact ⟨rfl, rfl⟩))
    (fun os started H enc _ => lifted os started H enc)
theorem proved : Rows.FnExactCoreOfSaid := over
end Go.Proofs.Ythkghdmpkdpnkaa.fnExactCoreOf
namespace Go.Proofs.Ythkghdmpkdpnkaa
/-- The row, under a short name, for the claim. -/
theorem fnExactCoreOf_holds : Rows.FnExactCoreOfSaid := fnExactCoreOf.proved
#print axioms fnExactCoreOf_holds
end Go.Proofs.Ythkghdmpkdpnkaa
