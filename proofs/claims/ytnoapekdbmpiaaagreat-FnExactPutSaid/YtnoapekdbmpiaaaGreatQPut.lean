/- What the law computes. -/
import Derived.Test.YtnoapekdbmpiaaaGreatCLawE
import Derived.Test.YtnoapekdbmpiaaaGreatCEngU
import Derived.Test.YtnoapekdbmpiaaaGreatCTEngine
import Derived.Test.YtnoapekdbmpiaaaGreatCTPoint
namespace Go.Proofs.YtnoapekdbmpiaaaGreat.B
set_option linter.unusedVariables false
set_option linter.unusedSimpArgs false
open Go Go.Proofs.YtnoapekdbmpiaaaGreat.Bv
def laws_FnExactPut.F (a0:(Int×((List ((List UInt8)×(List (Int×Int))))×(List (List UInt8))))) (a1:(List UInt8)) (a2:(List (Int×Int))):Prop:=(caseB (decide ((ln a1)>(1048576:Int))) (Eq (true,((),())) (true,((),()))) ((pSz_Engine (a0.1,(a0.2.1,a0.2.2)) 1048576)∧∀r1,(Eq r1 ((fSz_Engine (a0.1,(a0.2.1,a0.2.2)) 1048576),((),())))→(caseB (decide (r1.1<(0:Int))) (Eq (true,((),())) (true,((),()))) ((pSz_PointS a2 r1.1)∧∀r2,(Eq r2 ((fSz_PointS a2 r1.1),((),())))→(caseB (decide (r2.1<(0:Int))) (Eq (true,((),())) (true,((),()))) ((pTo_Engine (a0.1,(a0.2.1,a0.2.2)))∧∀r3,(Eq r3 ((fTo_Engine (a0.1,(a0.2.1,a0.2.2))),((),())))→((pTo_PointS a2)∧∀r4,(Eq r4 ((fTo_PointS a2),((),())))→((pPut (r3.1.1,(r3.1.2.1,r3.1.2.2)) a1 r4.1)∧∀r5,(Eq r5 ((fPut (r3.1.1,(r3.1.2.1,r3.1.2.2)) a1 r4.1),((),())))→((pTo_Engine (a0.1,(a0.2.1,a0.2.2)))∧∀r6,(Eq r6 ((fTo_Engine (a0.1,(a0.2.1,a0.2.2))),((),())))→((pTo_PointS a2)∧∀r7,(Eq r7 ((fTo_PointS a2),((),())))→((pPut (r6.1.1,(r6.1.2.1,r6.1.2.2)) a1 r7.1)∧∀r8,(Eq r8 ((fPut (r6.1.1,(r6.1.2.1,r6.1.2.2)) a1 r7.1),((),())))→(True∧∀r9,(Eq r9 ((fEq_Engine (r8.1.1.1,(r8.1.1.2.1,r8.1.1.2.2)) (r5.1.1.1,(r5.1.1.2.1,r5.1.1.2.2))),((),())))→(caseB (!r9.1) (Eq (false,((),())) (true,((),()))) (caseB (r8.1.2 !=r5.1.2) (Eq (false,((),())) (true,((),()))) ((pTo_Engine (a0.1,(a0.2.1,a0.2.2)))∧∀r10,(Eq r10 ((fTo_Engine (a0.1,(a0.2.1,a0.2.2))),((),())))→(True∧∀r11,(Eq r11 ((fEq_Engine (r6.1.1,(r6.1.2.1,r6.1.2.2)) (r10.1.1,(r10.1.2.1,r10.1.2.2))),((),())))→(caseB (!r11.1) (Eq (false,((),())) (true,((),()))) ((pTo_PointS a2)∧∀r12,(Eq r12 ((fTo_PointS a2),((),())))→(True∧∀r13,(Eq r13 ((fEq_PointS r7.1 r12.1),((),())))→(caseB (!r13.1) (Eq (false,((),())) (true,((),()))) ((pMk_Engine (r6.1.1,(r6.1.2.1,r6.1.2.2)) 1)∧∀r14,(Eq r14 ((fMk_Engine (r6.1.1,(r6.1.2.1,r6.1.2.2)) 1).1,((),(fMk_Engine (r6.1.1,(r6.1.2.1,r6.1.2.2)) 1).2)))→((pMk_PointS r7.1 r14.1)∧∀r15,(Eq r15 ((fMk_PointS r7.1 r14.1).1,((),(fMk_PointS r7.1 r14.1).2)))→(caseB (decide (r15.1<(0:Int))) (Eq (false,((),())) (true,((),()))) (True∧∀r16,(Eq r16 ((fEq_Engine (r8.1.1.1,(r8.1.1.2.1,r8.1.1.2.2)) (r5.1.1.1,(r5.1.1.2.1,r5.1.1.2.2))),((),())))→(caseB (!r16.1) (Eq (false,((),())) (true,((),()))) (caseB (r8.1.2 !=r5.1.2) (Eq (false,((),())) (true,((),()))) ((pMk_Engine (r8.1.1.1,(r8.1.1.2.1,r8.1.1.2.2)) 1)∧∀r17,(Eq r17 ((fMk_Engine (r8.1.1.1,(r8.1.1.2.1,r8.1.1.2.2)) 1).1,((),(fMk_Engine (r8.1.1.1,(r8.1.1.2.1,r8.1.1.2.2)) 1).2)))→((pMk_Engine (r8.1.1.1,(r17.2.2.1,r17.2.2.2)) 1)∧∀r18,(Eq r18 ((fHd_Engine (r8.1.1.1,(r17.2.2.1,r17.2.2.2)) 1),((),())))→(caseB (decide (r18.1<(0:Int))) (Eq (false,((),())) (true,((),()))) (caseB (r18.1 !=r17.1) (Eq (false,((),())) (true,((),()))) ((pTo_Engine (a0.1,(a0.2.1,a0.2.2)))∧∀r19,(Eq r19 ((fTo_Engine (a0.1,(a0.2.1,a0.2.2))),((),())))→((pTo_PointS a2)∧∀r20,(Eq r20 ((fTo_PointS a2),((),())))→((pPut (r19.1.1,(r19.1.2.1,r19.1.2.2)) a1 r20.1)∧∀r21,(Eq r21 ((fPut (r19.1.1,(r19.1.2.1,r19.1.2.2)) a1 r20.1),((),())))→(True∧∀r22,(Eq r22 ((fEq_Engine (r21.1.1.1,(r21.1.1.2.1,r21.1.1.2.2)) (r5.1.1.1,(r5.1.1.2.1,r5.1.1.2.2))),((),())))→(caseB (!r22.1) (Eq (false,((),())) (true,((),()))) (caseB (r21.1.2 !=r5.1.2) (Eq (false,((),())) (true,((),()))) ((pMk_Engine (r8.1.1.1,(r17.2.2.1,r17.2.2.2)) 1)∧∀r23,(Eq r23 ((fHd_Engine (r8.1.1.1,(r17.2.2.1,r17.2.2.2)) 1),((),())))→(caseB (decide (r23.1<(0:Int))) (Eq (false,((),())) (true,((),()))) (caseB (r23.1 !=r17.1) (Eq (false,((),())) (true,((),()))) (Eq (true,((),())) (true,((),()))))))))))))))))))))))))))))))))))))))))))
theorem laws_FnExactPut.pure (a0:(Int×((List ((List UInt8)×(List (Int×Int))))×(List (List UInt8))))) (a1:(List UInt8)) (a2:(List (Int×Int))) (h:WfD (.pair (.pair (.int .i64) (.pair (.list (.pair .str (.list (.pair (.int .i64) (.int .i64))))) (.list .str))) (.pair .str (.list (.pair (.int .i64) (.int .i64))))) (a0,a1,a2)) (hw:Wf (lawCon (.pair (.pair (.int .i64) (.pair (.list (.pair .str (.list (.pair (.int .i64) (.int .i64))))) (.list .str))) (.pair .str (.list (.pair (.int .i64) (.int .i64))))) [.agg 3,.one,.one]).A (a0,a1,a2)):laws_FnExactPut.F a0 a1 a2:=by
 delta laws_FnExactPut.F ln
 simp only [forall_eq,true_and,and_true,caseB_iff,Prod.mk.injEq,decide_eq_true_eq,decide_eq_false_iff_not,Bool.not_eq_true',Bool.not_eq_false',bne_iff_ne,ne_eq,beq_iff_eq,Bool.not_true,Bool.not_false,beq_eq_false_iff_ne,bne_eq_false_iff_eq,List.length_append,List.length_cons,List.length_nil,List.append_nil,Nat.zero_add,decide_true,decide_false,eq_self_iff_true,fSz_Engine,fTo_Engine,fSz_PointS,fTo_PointS,Prod.eta]
 refine⟨fun _=>trivial,fun hk=>?_⟩
 have w0:WfD (.pair (.int .i64) (.pair (.list (.pair .str (.list (.pair (.int .i64) (.int .i64))))) (.list .str))) a0:=h.1
 have hkey:pKey a1:=h.2.1
 have w2:WfD (.list (.pair (.int .i64) (.int .i64))) a2:=h.2.2
 refine⟨⟨w0,by omega,by omega⟩,fun _=>trivial,fun h1=>?_⟩
 have hn:=sz_pos2 h1
 simp only [sz_left h1] at*
 refine⟨⟨w2,by omega,by omega⟩,fun _=>trivial,fun h2=>?_⟩
 have hn2:=sz_next h2
 have hp:pTo_Engine a0:=hn
 have hp2:pTo_PointS a2:=by unfold pTo_PointS;omega
 have hq:pPut a0 a1 a2:=⟨pEng_of w0,hkey⟩
 have hc:=eng_c hn
 have hc2:=cL_two4 a2
 have hm0:pMk_Engine a0 1:=⟨by omega,by omega⟩
 have hm1:pMk_PointS a2 (1+c_sEngine a0):=⟨by omega,by omega⟩
 have hk1:¬(1+c_sEngine a0+cL c_mPoint a2<0):=by omega
 have he2:∀x:List (Int×Int),fEq_PointS x x=true:=fun x=>by simp [fEq_PointS]
 have hr:=put_len (k:=a1) (p:=a2) (pEng_of w0)
 have hr0:=eng_c2 hr.1 hr.2
 obtain⟨o1,o2⟩:=ok_sEngine (fPut a0 a1 a2).1 1
 have hm2:pMk_Engine (fPut a0 a1 a2).1 1:=⟨by omega,by omega⟩
 have hm3:pMk_Engine (w_sEngine (fPut a0 a1 a2).1 1) 1:=⟨by omega,by rw [o2];omega⟩
 have he:True:=trivial
 have hh:fHd (c_sEngine (w_sEngine (fPut a0 a1 a2).1 1)) (o_sEngine (w_sEngine (fPut a0 a1 a2).1 1) 1) 1=1+c_sEngine (fPut a0 a1 a2).1:=by rw [fHd_yes o1,o2]
 have hk2:¬(1+c_sEngine (fPut a0 a1 a2).1<0):=by omega
 simp only [w_sEngine] at hm3 hh
 simp only [fMk_Engine,fMk_PointS,fHd_Engine,m_sEngine]
 simp [hp,hp2,hq,hm0,hm1,hm2,hm3,he2,eqE,hh,hk1,hk2]
set_option maxRecDepth 100000 in
theorem laws_FnExactPut.eq:EqS (lawCon (.pair (.pair (.int .i64) (.pair (.list (.pair .str (.list (.pair (.int .i64) (.int .i64))))) (.list .str))) (.pair .str (.list (.pair (.int .i64) (.int .i64))))) [.agg 3,.one,.one]) Tryz.f8 [4] [laws_szEngine.e,laws_toEngine.e,laws_eqPointS.e,laws_eqEngine.e,laws_markEngine.e,laws_markPointS.e,laws_heldEngine.e,laws_szPointS.e,spec_Put.e,laws_toPointS.e,impl_Put.e] [] noL (fun i x=>laws_FnExactPut.F x.1 x.2.1 x.2.2):=by intro i x;kernel_rfl
theorem laws_FnExactPut.ok:ConOk Tryz.prog 8 (lawCon (.pair (.pair (.int .i64) (.pair (.list (.pair .str (.list (.pair (.int .i64) (.int .i64))))) (.list .str))) (.pair .str (.list (.pair (.int .i64) (.int .i64))))) [.agg 3,.one,.one]):=okOf laws_FnExactPut.eq Tryz.func8 rfl (by kernel_rfl) fun i x h hi hw=>laws_FnExactPut.pure x.1 x.2.1 x.2.2 h hw
end Go.Proofs.YtnoapekdbmpiaaaGreat.B
