/- What the law computes. -/
import Derived.Test.YtnoapekdbmpiaaaGreatCLawE
import Derived.Test.YtnoapekdbmpiaaaGreatCEngR
import Derived.Test.YtnoapekdbmpiaaaGreatCTEngine
namespace Go.Proofs.YtnoapekdbmpiaaaGreat.B
set_option linter.unusedVariables false
set_option linter.unusedSimpArgs false
open Go Go.Proofs.YtnoapekdbmpiaaaGreat.Bv
def laws_FnExactRaise.F (a0:(Int×((List ((List UInt8)×(List (Int×Int))))×(List (List UInt8))))) (a1:Int):Prop:=((pSz_Engine (a0.1,(a0.2.1,a0.2.2)) 1048576)∧∀r1,(Eq r1 ((fSz_Engine (a0.1,(a0.2.1,a0.2.2)) 1048576),((),())))→(caseB (decide (r1.1<(0:Int))) (Eq (true,((),())) (true,((),()))) ((pTo_Engine (a0.1,(a0.2.1,a0.2.2)))∧∀r2,(Eq r2 ((fTo_Engine (a0.1,(a0.2.1,a0.2.2))),((),())))→((pRaise (r2.1.1,(r2.1.2.1,r2.1.2.2)) a1)∧∀r3,(Eq r3 ((fRaise (r2.1.1,(r2.1.2.1,r2.1.2.2)) a1),((),())))→((pTo_Engine (a0.1,(a0.2.1,a0.2.2)))∧∀r4,(Eq r4 ((fTo_Engine (a0.1,(a0.2.1,a0.2.2))),((),())))→((pRaise (r4.1.1,(r4.1.2.1,r4.1.2.2)) a1)∧∀r5,(Eq r5 ((fRaise (r4.1.1,(r4.1.2.1,r4.1.2.2)) a1),((),())))→(True∧∀r6,(Eq r6 ((fEq_Engine (r5.1.1,(r5.1.2.1,r5.1.2.2)) (r3.1.1,(r3.1.2.1,r3.1.2.2))),((),())))→(caseB (!r6.1) (Eq (false,((),())) (true,((),()))) ((pTo_Engine (a0.1,(a0.2.1,a0.2.2)))∧∀r7,(Eq r7 ((fTo_Engine (a0.1,(a0.2.1,a0.2.2))),((),())))→(True∧∀r8,(Eq r8 ((fEq_Engine (r4.1.1,(r4.1.2.1,r4.1.2.2)) (r7.1.1,(r7.1.2.1,r7.1.2.2))),((),())))→(caseB (!r8.1) (Eq (false,((),())) (true,((),()))) ((pMk_Engine (r4.1.1,(r4.1.2.1,r4.1.2.2)) 1)∧∀r9,(Eq r9 ((fMk_Engine (r4.1.1,(r4.1.2.1,r4.1.2.2)) 1).1,((),(fMk_Engine (r4.1.1,(r4.1.2.1,r4.1.2.2)) 1).2)))→(caseB (decide (r9.1<(0:Int))) (Eq (false,((),())) (true,((),()))) (True∧∀r10,(Eq r10 ((fEq_Engine (r5.1.1,(r5.1.2.1,r5.1.2.2)) (r3.1.1,(r3.1.2.1,r3.1.2.2))),((),())))→(caseB (!r10.1) (Eq (false,((),())) (true,((),()))) ((pMk_Engine (r5.1.1,(r5.1.2.1,r5.1.2.2)) 1)∧∀r11,(Eq r11 ((fMk_Engine (r5.1.1,(r5.1.2.1,r5.1.2.2)) 1).1,((),(fMk_Engine (r5.1.1,(r5.1.2.1,r5.1.2.2)) 1).2)))→((pMk_Engine (r5.1.1,(r11.2.2.1,r11.2.2.2)) 1)∧∀r12,(Eq r12 ((fHd_Engine (r5.1.1,(r11.2.2.1,r11.2.2.2)) 1),((),())))→(caseB (decide (r12.1<(0:Int))) (Eq (false,((),())) (true,((),()))) (caseB (r12.1 !=r11.1) (Eq (false,((),())) (true,((),()))) ((pTo_Engine (a0.1,(a0.2.1,a0.2.2)))∧∀r13,(Eq r13 ((fTo_Engine (a0.1,(a0.2.1,a0.2.2))),((),())))→((pRaise (r13.1.1,(r13.1.2.1,r13.1.2.2)) a1)∧∀r14,(Eq r14 ((fRaise (r13.1.1,(r13.1.2.1,r13.1.2.2)) a1),((),())))→(True∧∀r15,(Eq r15 ((fEq_Engine (r14.1.1,(r14.1.2.1,r14.1.2.2)) (r3.1.1,(r3.1.2.1,r3.1.2.2))),((),())))→(caseB (!r15.1) (Eq (false,((),())) (true,((),()))) ((pMk_Engine (r5.1.1,(r11.2.2.1,r11.2.2.2)) 1)∧∀r16,(Eq r16 ((fHd_Engine (r5.1.1,(r11.2.2.1,r11.2.2.2)) 1),((),())))→(caseB (decide (r16.1<(0:Int))) (Eq (false,((),())) (true,((),()))) (caseB (r16.1 !=r11.1) (Eq (false,((),())) (true,((),()))) (Eq (true,((),())) (true,((),())))))))))))))))))))))))))))))
theorem laws_FnExactRaise.pure (a0:(Int×((List ((List UInt8)×(List (Int×Int))))×(List (List UInt8))))) (a1:Int) (h:WfD (.pair (.pair (.int .i64) (.pair (.list (.pair .str (.list (.pair (.int .i64) (.int .i64))))) (.list .str))) (.int .i64)) (a0,a1)) (hw:Wf (lawCon (.pair (.pair (.int .i64) (.pair (.list (.pair .str (.list (.pair (.int .i64) (.int .i64))))) (.list .str))) (.int .i64)) [.agg 3,.one]).A (a0,a1)):laws_FnExactRaise.F a0 a1:=by
 unfold laws_FnExactRaise.F
 simp only [forall_eq,true_and,and_true,caseB_iff,Prod.mk.injEq,decide_eq_true_eq,decide_eq_false_iff_not,Bool.not_eq_true',Bool.not_eq_false',bne_iff_ne,ne_eq,beq_iff_eq,Bool.not_true,Bool.not_false,beq_eq_false_iff_ne,bne_eq_false_iff_eq,List.length_append,List.length_cons,List.length_nil,List.append_nil,Nat.zero_add,decide_true,decide_false,eq_self_iff_true,fSz_Engine,fTo_Engine,Prod.eta]
 have w0:WfD (.pair (.int .i64) (.pair (.list (.pair .str (.list (.pair (.int .i64) (.int .i64))))) (.list .str))) a0:=h.1
 refine⟨⟨w0,by omega,by omega⟩,fun _=>trivial,fun h1=>?_⟩
 have hn:=sz_pos2 h1
 have hp:pTo_Engine a0:=hn
 have hq:=pEng_of w0
 have hc:=eng_c hn
 have hm0:pMk_Engine a0 1:=⟨by omega,by omega⟩
 have hk1:¬(1+c_sEngine a0<0):=by omega
 have hr:=raise_len a0 a1
 have hr0:=eng_c2 hr.1 hr.2
 obtain⟨o1,o2⟩:=ok_sEngine (fRaise a0 a1) 1
 have hm2:pMk_Engine (fRaise a0 a1) 1:=⟨by omega,by omega⟩
 have hm3:pMk_Engine (w_sEngine (fRaise a0 a1) 1) 1:=⟨by omega,by rw [o2];omega⟩
 have he:True:=trivial
 have hh:fHd (c_sEngine (w_sEngine (fRaise a0 a1) 1)) (o_sEngine (w_sEngine (fRaise a0 a1) 1) 1) 1=1+c_sEngine (fRaise a0 a1):=by rw [fHd_yes o1,o2]
 have hk2:¬(1+c_sEngine (fRaise a0 a1)<0):=by omega
 simp only [w_sEngine] at hm3 hh
 simp only [fMk_Engine,fHd_Engine,m_sEngine]
 simp [hp,hq,hm0,hm2,hm3,he,eqE,hh,hk1,hk2,pRaise]
set_option maxRecDepth 100000 in
theorem laws_FnExactRaise.eq:EqS (lawCon (.pair (.pair (.int .i64) (.pair (.list (.pair .str (.list (.pair (.int .i64) (.int .i64))))) (.list .str))) (.int .i64)) [.agg 3,.one]) Tryz.f5 [4] [laws_szEngine.e,laws_toEngine.e,laws_eqEngine.e,laws_markEngine.e,spec_Raise.e,impl_Raise.e,laws_heldEngine.e] [] noL (fun i x=>laws_FnExactRaise.F x.1 x.2):=by intro i x;kernel_rfl
theorem laws_FnExactRaise.ok:ConOk Tryz.prog 5 (lawCon (.pair (.pair (.int .i64) (.pair (.list (.pair .str (.list (.pair (.int .i64) (.int .i64))))) (.list .str))) (.int .i64)) [.agg 3,.one]):=okOf laws_FnExactRaise.eq Tryz.func5 rfl (by kernel_rfl) fun i x h hi hw=>laws_FnExactRaise.pure x.1 x.2 h hw
end Go.Proofs.YtnoapekdbmpiaaaGreat.B
