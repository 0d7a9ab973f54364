/- What the law computes. -/
import Derived.Test.YtnoapekdbmpiaaaGreatCLawE
import Derived.Test.YtnoapekdbmpiaaaGreatCTEngine
import Derived.Test.YtnoapekdbmpiaaaGreatCTPoint
namespace Go.Proofs.YtnoapekdbmpiaaaGreat.B
set_option linter.unusedVariables false
set_option linter.unusedSimpArgs false
open Go Go.Proofs.YtnoapekdbmpiaaaGreat.Bv
def laws_FnExactQuery.F (a0:(Int×((List ((List UInt8)×(List (Int×Int))))×(List (List UInt8))))) (a1:(List UInt8)) (a2:Int) (a3:Int):Prop:=(caseB (decide ((ln a1)>(1048576:Int))) (Eq (true,((),())) (true,((),()))) ((pSz_Engine (a0.1,(a0.2.1,a0.2.2)) 1048576)∧∀r1,(Eq r1 ((fSz_Engine (a0.1,(a0.2.1,a0.2.2)) 1048576),((),())))→(caseB (decide (r1.1<(0:Int))) (Eq (true,((),())) (true,((),()))) ((pTo_Engine (a0.1,(a0.2.1,a0.2.2)))∧∀r2,(Eq r2 ((fTo_Engine (a0.1,(a0.2.1,a0.2.2))),((),())))→((pQuery (r2.1.1,(r2.1.2.1,r2.1.2.2)) a1 a2 a3)∧∀r3,(Eq r3 ((fQuery (r2.1.1,(r2.1.2.1,r2.1.2.2)) a1 a2 a3),((),())))→((pTo_Engine (a0.1,(a0.2.1,a0.2.2)))∧∀r4,(Eq r4 ((fTo_Engine (a0.1,(a0.2.1,a0.2.2))),((),())))→((pQuery (r4.1.1,(r4.1.2.1,r4.1.2.2)) a1 a2 a3)∧∀r5,(Eq r5 ((fQuery (r4.1.1,(r4.1.2.1,r4.1.2.2)) a1 a2 a3),((),())))→(True∧∀r6,(Eq r6 ((fEq_PointS r5.1 r3.1),((),())))→(caseB (!r6.1) (Eq (false,((),())) (true,((),()))) ((pTo_Engine (a0.1,(a0.2.1,a0.2.2)))∧∀r7,(Eq r7 ((fTo_Engine (a0.1,(a0.2.1,a0.2.2))),((),())))→(True∧∀r8,(Eq r8 ((fEq_Engine (r4.1.1,(r4.1.2.1,r4.1.2.2)) (r7.1.1,(r7.1.2.1,r7.1.2.2))),((),())))→(caseB (!r8.1) (Eq (false,((),())) (true,((),()))) ((pMk_Engine (r4.1.1,(r4.1.2.1,r4.1.2.2)) 1)∧∀r9,(Eq r9 ((fMk_Engine (r4.1.1,(r4.1.2.1,r4.1.2.2)) 1).1,((),(fMk_Engine (r4.1.1,(r4.1.2.1,r4.1.2.2)) 1).2)))→(caseB (decide (r9.1<(0:Int))) (Eq (false,((),())) (true,((),()))) (True∧∀r10,(Eq r10 ((fEq_PointS r5.1 r3.1),((),())))→(caseB (!r10.1) (Eq (false,((),())) (true,((),()))) ((pMk_PointS r5.1 1)∧∀r11,(Eq r11 ((fMk_PointS r5.1 1).1,((),(fMk_PointS r5.1 1).2)))→((pMk_PointS r11.2.2 1)∧∀r12,(Eq r12 ((fHd_PointS r11.2.2 1),((),())))→(caseB (decide (r12.1<(0:Int))) (Eq (false,((),())) (true,((),()))) (caseB (r12.1 !=r11.1) (Eq (false,((),())) (true,((),()))) ((pTo_Engine (a0.1,(a0.2.1,a0.2.2)))∧∀r13,(Eq r13 ((fTo_Engine (a0.1,(a0.2.1,a0.2.2))),((),())))→((pQuery (r13.1.1,(r13.1.2.1,r13.1.2.2)) a1 a2 a3)∧∀r14,(Eq r14 ((fQuery (r13.1.1,(r13.1.2.1,r13.1.2.2)) a1 a2 a3),((),())))→(True∧∀r15,(Eq r15 ((fEq_PointS r14.1 r3.1),((),())))→(caseB (!r15.1) (Eq (false,((),())) (true,((),()))) ((pMk_PointS r11.2.2 1)∧∀r16,(Eq r16 ((fHd_PointS r11.2.2 1),((),())))→(caseB (decide (r16.1<(0:Int))) (Eq (false,((),())) (true,((),()))) (caseB (r16.1 !=r11.1) (Eq (false,((),())) (true,((),()))) (Eq (true,((),())) (true,((),()))))))))))))))))))))))))))))))
theorem laws_FnExactQuery.pure (a0:(Int×((List ((List UInt8)×(List (Int×Int))))×(List (List UInt8))))) (a1:(List UInt8)) (a2:Int) (a3:Int) (h:WfD (.pair (.pair (.int .i64) (.pair (.list (.pair .str (.list (.pair (.int .i64) (.int .i64))))) (.list .str))) (.pair .str (.pair (.int .i64) (.int .i64)))) (a0,a1,a2,a3)) (hw:Wf (lawCon (.pair (.pair (.int .i64) (.pair (.list (.pair .str (.list (.pair (.int .i64) (.int .i64))))) (.list .str))) (.pair .str (.pair (.int .i64) (.int .i64)))) [.agg 3,.one,.one,.one]).A (a0,a1,a2,a3)):laws_FnExactQuery.F a0 a1 a2 a3:=by
 delta laws_FnExactQuery.F ln
 simp only [forall_eq,true_and,and_true,caseB_iff,Prod.mk.injEq,decide_eq_true_eq,decide_eq_false_iff_not,Bool.not_eq_true',Bool.not_eq_false',bne_iff_ne,ne_eq,beq_iff_eq,Bool.not_true,Bool.not_false,beq_eq_false_iff_ne,bne_eq_false_iff_eq,List.length_append,List.length_cons,List.length_nil,List.append_nil,Nat.zero_add,decide_true,decide_false,eq_self_iff_true,fSz_Engine,fTo_Engine,Prod.eta]
 refine⟨fun _=>trivial,fun hk=>?_⟩
 have w0:WfD (.pair (.int .i64) (.pair (.list (.pair .str (.list (.pair (.int .i64) (.int .i64))))) (.list .str))) a0:=h.1
 refine⟨⟨w0,by omega,by omega⟩,fun _=>trivial,fun h1=>?_⟩
 have hn:=sz_pos2 h1
 have hp:pTo_Engine a0:=hn
 have hq:=pEng_of w0
 have hc:=eng_c hn
 have hm0:pMk_Engine a0 1:=⟨by omega,by omega⟩
 have hk1:¬(1+c_sEngine a0<0):=by omega
 have hr:=query_len a0 a1 a2 a3
 have hr0:=cL_two4 (fQuery a0 a1 a2 a3)
 obtain⟨o1,o2⟩:=oL_mL ok_Point (fQuery a0 a1 a2 a3) 1
 have hm2:pMk_PointS (fQuery a0 a1 a2 a3) 1:=⟨by omega,by omega⟩
 have hm3:pMk_PointS (mL c_mPoint m_Point (fQuery a0 a1 a2 a3) 1) 1:=⟨by omega,by rw [o2];omega⟩
 have he:∀x:List (Int×Int),fEq_PointS x x=true:=fun x=>by simp [fEq_PointS]
 have hh:fHd (cL c_mPoint (mL c_mPoint m_Point (fQuery a0 a1 a2 a3) 1)) (oL c_mPoint o_Point (mL c_mPoint m_Point (fQuery a0 a1 a2 a3) 1) 1) 1=1+cL c_mPoint (fQuery a0 a1 a2 a3):=by rw [fHd_yes o1,o2]
 have hk2:¬(1+cL c_mPoint (fQuery a0 a1 a2 a3)<0):=by omega
 simp only [fMk_Engine,fMk_PointS,fHd_PointS]
 simp [hp,hq,hm0,hm2,hm3,he,eqE,hh,hk1,hk2,pQuery]
set_option maxRecDepth 100000 in
theorem laws_FnExactQuery.eq:EqS (lawCon (.pair (.pair (.int .i64) (.pair (.list (.pair .str (.list (.pair (.int .i64) (.int .i64))))) (.list .str))) (.pair .str (.pair (.int .i64) (.int .i64)))) [.agg 3,.one,.one,.one]) Tryz.f3 [4] [laws_szEngine.e,spec_Query.e,laws_toEngine.e,impl_Query.e,laws_eqPointS.e,laws_eqEngine.e,laws_markEngine.e,laws_markPointS.e,laws_heldPointS.e] [] noL (fun i x=>laws_FnExactQuery.F x.1 x.2.1 x.2.2.1 x.2.2.2):=by intro i x;kernel_rfl
theorem laws_FnExactQuery.ok:ConOk Tryz.prog 3 (lawCon (.pair (.pair (.int .i64) (.pair (.list (.pair .str (.list (.pair (.int .i64) (.int .i64))))) (.list .str))) (.pair .str (.pair (.int .i64) (.int .i64)))) [.agg 3,.one,.one,.one]):=okOf laws_FnExactQuery.eq Tryz.func3 rfl (by kernel_rfl) fun i x h hi hw=>laws_FnExactQuery.pure x.1 x.2.1 x.2.2.1 x.2.2.2 h hw
end Go.Proofs.YtnoapekdbmpiaaaGreat.B
