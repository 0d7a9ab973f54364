/- What the law computes. -/
import Derived.Test.YtnoapekdbmpiaaaCSame
import Derived.Test.YtnoapekdbmpiaaaCLaw
namespace Go.Proofs.Ytnoapekdbmpiaaa.B
set_option linter.unusedVariables false
set_option linter.unusedSimpArgs false
open Go Go.Proofs.Ytnoapekdbmpiaaa.Bv
def laws_FnSlice.F (a0:(List Int)):Prop:=(True∧∀r1,(Eq r1 ((fBig a0),((),())))→(caseB r1.1 (Eq (true,((),())) (true,((),()))) (True∧∀r2,(qDSlice a0 r2)→(True∧∀r3,(Eq r3 ((fSliceT r2.1.1 (-1) r2.1.2.1),((),())))→(True∧∀r4,(Eq r4 ((fSliceT r2.1.1 r2.1.2.1 r2.1.2.2),((),())))→(True∧∀r5,(Eq r5 ((fSliceT r2.1.1 r2.1.2.2 1099511627777),((),())))→(True∧∀r6,(Eq r6 ((fPtsOk r2.1.1),((),())))→(caseB (!r6.1) (Eq (((wI ((wI ((ln r3.1)+(ln r4.1)))+(ln r5.1)))==(0:Int)),((),())) (true,((),()))) (caseB (decide (r2.1.2.1>r2.1.2.2)) (Eq (((ln r4.1)==(0:Int)),((),())) (true,((),()))) (List.length ([]:List (Int×Int))+List.length r3.1≤9223372036854775807∧((List.length ([]:List (Int×Int))+List.length r3.1)*16≤140737488355328∧(List.length (([]:List (Int×Int))++r3.1)+List.length r4.1≤9223372036854775807∧((List.length (([]:List (Int×Int))++r3.1)+List.length r4.1)*16≤140737488355328∧(List.length ((([]:List (Int×Int))++r3.1)++r4.1)+List.length r5.1≤9223372036854775807∧((List.length ((([]:List (Int×Int))++r3.1)++r4.1)+List.length r5.1)*16≤140737488355328∧(True∧∀r7,(Eq r7 ((fSameP (((([]:List (Int×Int))++r3.1)++r4.1)++r5.1) r2.1.1),((),())))→(Eq (r7.1,((),())) (true,((),())))))))))))))))))))
theorem laws_FnSlice.pure (a0:(List Int)) (h:WfD (.list (.int .u8)) a0) (hw:Wf (lawCon (.list (.int .u8)) [.one]).A a0):laws_FnSlice.F a0:=by
 delta laws_FnSlice.F ln wI
 simp only [forall_eq,true_and,and_true,caseB_iff,Prod.mk.injEq,decide_eq_true_eq,decide_eq_false_iff_not,Bool.not_eq_true',Bool.not_eq_false',bne_iff_ne,ne_eq,beq_iff_eq,Bool.not_true,Bool.not_false,beq_eq_false_iff_ne,bne_eq_false_iff_eq,List.length_append,List.length_cons,List.length_nil,List.append_nil,Nat.zero_add,decide_true,decide_false,eq_self_iff_true,Prod.eta]
 refine⟨fun _=>trivial,fun _ r2 hq=>?_⟩
 have hl:r2.1.1.length≤1001:=hq
 have l1:=sliceT_len r2.1.1 (-1) r2.1.2.1
 have l2:=sliceT_len r2.1.1 r2.1.2.1 r2.1.2.2
 have l3:=sliceT_len r2.1.1 r2.1.2.2 1099511627777
 refine⟨fun h1=>?_,fun h1=>⟨fun h2=>?_,fun h2=>?_⟩⟩
 · have e:∀a b,fSliceT r2.1.1 a b=[]:=fun a b=>by unfold fSliceT;rw [if_neg (by rw [h1];decide)]
   simp only [e];rfl
 · have e:fSliceT r2.1.1 r2.1.2.1 r2.1.2.2=[]:=by unfold fSliceT;rw [if_pos h1,slice_none _ (by omega)]
   rw [e];rfl
 · have e:∀a b,fSliceT r2.1.1 a b=fSlice r2.1.1 a b:=fun a b=>by unfold fSliceT;rw [if_pos h1]
   have k:=slices_side (fPtsOk_R h1).1 (a:=r2.1.2.1) (b:=r2.1.2.2) (by omega)
   simp only [e] at l1 l2 l3 ⊢
   refine⟨by omega,by omega,by omega,by omega,by omega,by omega,?_⟩
   unfold fSameP
   rw [List.nil_append,k];simp
set_option maxRecDepth 100000 in
theorem laws_FnSlice.eq:EqS (lawCon (.list (.int .u8)) [.one]) Try.f4 [4] [laws_big.e,spec_DrawSlice.e,impl_Slice.e,spec_PointsOk.e,laws_samePoints.e] [] noL (fun i x=>laws_FnSlice.F x):=by intro i x;kernel_rfl
theorem laws_FnSlice.ok:ConOk Try.prog 4 (lawCon (.list (.int .u8)) [.one]):=okOf laws_FnSlice.eq Try.func4 rfl (by kernel_rfl) fun i x h hi hw=>laws_FnSlice.pure x h hw
end Go.Proofs.Ytnoapekdbmpiaaa.B
