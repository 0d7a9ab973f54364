/- What the law computes. -/
import Derived.Test.YthkghdmpkdpnkaaGreatCLawE
import Derived.Test.YthkghdmpkdpnkaaGreatCTEngine
namespace Go.Proofs.YthkghdmpkdpnkaaGreat.B
set_option linter.unusedVariables false
set_option linter.unusedSimpArgs false
open Go Go.Proofs.YthkghdmpkdpnkaaGreat.Bv
def laws_FnExactEngineOk.F  (a0 : (Int × ((List ((List UInt8) × (List (Int × Int)))) × (List (List UInt8))))) : Prop := ((pSz_Engine (a0.1, (a0.2.1, a0.2.2)) 1048576) ∧ ∀ r1, (Eq r1 ((fSz_Engine (a0.1, (a0.2.1, a0.2.2)) 1048576), ((), ()))) → (caseB (decide (r1.1 < (0 : Int))) (Eq (true, ((), ())) (true, ((), ()))) ((pTo_Engine (a0.1, (a0.2.1, a0.2.2))) ∧ ∀ r2, (Eq r2 ((fTo_Engine (a0.1, (a0.2.1, a0.2.2))), ((), ()))) → ((pEng (r2.1.1, (r2.1.2.1, r2.1.2.2))) ∧ ∀ r3, (Eq r3 ((fEngOk (r2.1.1, (r2.1.2.1, r2.1.2.2))), ((), ()))) → ((pTo_Engine (a0.1, (a0.2.1, a0.2.2))) ∧ ∀ r4, (Eq r4 ((fTo_Engine (a0.1, (a0.2.1, a0.2.2))), ((), ()))) → ((pEng (r4.1.1, (r4.1.2.1, r4.1.2.2))) ∧ ∀ r5, (Eq r5 ((fEngOk (r4.1.1, (r4.1.2.1, r4.1.2.2))), ((), ()))) → (caseB (!(r5.1 == r3.1)) (Eq (false, ((), ())) (true, ((), ()))) ((pTo_Engine (a0.1, (a0.2.1, a0.2.2))) ∧ ∀ r6, (Eq r6 ((fTo_Engine (a0.1, (a0.2.1, a0.2.2))), ((), ()))) → (True ∧ ∀ r7, (Eq r7 ((fEq_Engine (r4.1.1, (r4.1.2.1, r4.1.2.2)) (r6.1.1, (r6.1.2.1, r6.1.2.2))), ((), ()))) → (caseB (!r7.1) (Eq (false, ((), ())) (true, ((), ()))) (Eq (true, ((), ())) (true, ((), ())))))))))))))
theorem laws_FnExactEngineOk.pure  (a0 : (Int × ((List ((List UInt8) × (List (Int × Int)))) × (List (List UInt8))))) (h : WfD (.pair (.int .i64) (.pair (.list (.pair .str (.list (.pair (.int .i64) (.int .i64))))) (.list .str))) a0) (hw : Wf (lawCon (.pair (.int .i64) (.pair (.list (.pair .str (.list (.pair (.int .i64) (.int .i64))))) (.list .str))) [.agg 3]).A a0) : laws_FnExactEngineOk.F a0 := by
 unfold laws_FnExactEngineOk.F
 simp only [forall_eq, true_and, and_true, caseB_iff, Prod.mk.injEq, decide_eq_true_eq, decide_eq_false_iff_not, Bool.not_eq_true', Bool.not_eq_false', bne_iff_ne, ne_eq, beq_iff_eq, Bool.not_true, Bool.not_false, beq_eq_false_iff_ne, bne_eq_false_iff_eq, List.length_append, List.length_cons, List.length_nil, List.append_nil, Nat.zero_add, decide_true, decide_false, eq_self_iff_true, fSz_Engine, fTo_Engine, Prod.eta]
 refine ⟨⟨h, by omega, by omega⟩, fun _ => trivial, fun h1 => ?_⟩
 have hn := sz_pos2 h1
 have hp : pTo_Engine a0 := hn
 have hq := pEng_of h
 have he : ∀ x : Eng, fEq_Engine x x = true := fun x => by simp [fEq_Engine]
 simp [hp, hq, he]
set_option maxRecDepth 100000 in
theorem laws_FnExactEngineOk.eq : EqS (lawCon (.pair (.int .i64) (.pair (.list (.pair .str (.list (.pair (.int .i64) (.int .i64))))) (.list .str))) [.agg 3]) Tryz.f3 [4] [laws_szEngine.e, spec_EngineOk.e, laws_toEngine.e, impl_EngineOk.e, laws_eqEngine.e] [] noL (fun i x => laws_FnExactEngineOk.F x) := by intro i x; kernel_rfl
theorem laws_FnExactEngineOk.ok : ConOk Tryz.prog 3 (lawCon (.pair (.int .i64) (.pair (.list (.pair .str (.list (.pair (.int .i64) (.int .i64))))) (.list .str))) [.agg 3]) := okOf laws_FnExactEngineOk.eq Tryz.func3 rfl (by kernel_rfl) fun i x h hi hw => laws_FnExactEngineOk.pure x h hw
end Go.Proofs.YthkghdmpkdpnkaaGreat.B
