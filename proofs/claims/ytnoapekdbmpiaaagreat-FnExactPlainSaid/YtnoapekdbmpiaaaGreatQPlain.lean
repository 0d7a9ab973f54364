/- What the law computes. -/
import Derived.Test.YtnoapekdbmpiaaaGreatCLawE
import Derived.Test.YtnoapekdbmpiaaaGreatCTEngine
import Derived.Test.YtnoapekdbmpiaaaGreatCTSeries
namespace Go.Proofs.YtnoapekdbmpiaaaGreat.B
set_option linter.unusedVariables false
set_option linter.unusedSimpArgs false
open Go Go.Proofs.YtnoapekdbmpiaaaGreat.Bv
def laws_FnExactPlain.F (a0:(Int×((List ((List UInt8)×(List (Int×Int))))×(List (List UInt8))))):Prop:=((pSz_Engine (a0.1,(a0.2.1,a0.2.2)) 1048576)∧∀r1,(Eq r1 ((fSz_Engine (a0.1,(a0.2.1,a0.2.2)) 1048576),((),())))→(caseB (decide (r1.1<(0:Int))) (Eq (true,((),())) (true,((),()))) ((pTo_Engine (a0.1,(a0.2.1,a0.2.2)))∧∀r2,(Eq r2 ((fTo_Engine (a0.1,(a0.2.1,a0.2.2))),((),())))→((pEng (r2.1.1,(r2.1.2.1,r2.1.2.2)))∧∀r3,(Eq r3 ((fPlain (r2.1.1,(r2.1.2.1,r2.1.2.2))),((),())))→((pTo_Engine (a0.1,(a0.2.1,a0.2.2)))∧∀r4,(Eq r4 ((fTo_Engine (a0.1,(a0.2.1,a0.2.2))),((),())))→((pEng (r4.1.1,(r4.1.2.1,r4.1.2.2)))∧∀r5,(Eq r5 ((fPlain (r4.1.1,(r4.1.2.1,r4.1.2.2))),((),())))→(True∧∀r6,(Eq r6 ((fEq_SeriesS r5.1 r3.1),((),())))→(caseB (!r6.1) (Eq (false,((),())) (true,((),()))) ((pTo_Engine (a0.1,(a0.2.1,a0.2.2)))∧∀r7,(Eq r7 ((fTo_Engine (a0.1,(a0.2.1,a0.2.2))),((),())))→(True∧∀r8,(Eq r8 ((fEq_Engine (r4.1.1,(r4.1.2.1,r4.1.2.2)) (r7.1.1,(r7.1.2.1,r7.1.2.2))),((),())))→(caseB (!r8.1) (Eq (false,((),())) (true,((),()))) ((pMk_Engine (r4.1.1,(r4.1.2.1,r4.1.2.2)) 1)∧∀r9,(Eq r9 ((fMk_Engine (r4.1.1,(r4.1.2.1,r4.1.2.2)) 1).1,((),(fMk_Engine (r4.1.1,(r4.1.2.1,r4.1.2.2)) 1).2)))→(caseB (decide (r9.1<(0:Int))) (Eq (false,((),())) (true,((),()))) (True∧∀r10,(Eq r10 ((fEq_SeriesS r5.1 r3.1),((),())))→(caseB (!r10.1) (Eq (false,((),())) (true,((),()))) ((pMk_SeriesS r5.1 1)∧∀r11,(Eq r11 ((fMk_SeriesS r5.1 1).1,((),(fMk_SeriesS r5.1 1).2)))→((pMk_SeriesS r11.2.2 1)∧∀r12,(Eq r12 ((fHd_SeriesS r11.2.2 1),((),())))→(caseB (decide (r12.1<(0:Int))) (Eq (false,((),())) (true,((),()))) (caseB (r12.1 !=r11.1) (Eq (false,((),())) (true,((),()))) ((pTo_Engine (a0.1,(a0.2.1,a0.2.2)))∧∀r13,(Eq r13 ((fTo_Engine (a0.1,(a0.2.1,a0.2.2))),((),())))→((pEng (r13.1.1,(r13.1.2.1,r13.1.2.2)))∧∀r14,(Eq r14 ((fPlain (r13.1.1,(r13.1.2.1,r13.1.2.2))),((),())))→(True∧∀r15,(Eq r15 ((fEq_SeriesS r14.1 r3.1),((),())))→(caseB (!r15.1) (Eq (false,((),())) (true,((),()))) ((pMk_SeriesS r11.2.2 1)∧∀r16,(Eq r16 ((fHd_SeriesS r11.2.2 1),((),())))→(caseB (decide (r16.1<(0:Int))) (Eq (false,((),())) (true,((),()))) (caseB (r16.1 !=r11.1) (Eq (false,((),())) (true,((),()))) (Eq (true,((),())) (true,((),())))))))))))))))))))))))))))))
theorem laws_FnExactPlain.pure (a0:(Int×((List ((List UInt8)×(List (Int×Int))))×(List (List UInt8))))) (h:WfD (.pair (.int .i64) (.pair (.list (.pair .str (.list (.pair (.int .i64) (.int .i64))))) (.list .str))) a0) (hw:Wf (lawCon (.pair (.int .i64) (.pair (.list (.pair .str (.list (.pair (.int .i64) (.int .i64))))) (.list .str))) [.agg 3]).A a0):laws_FnExactPlain.F a0:=by
 unfold laws_FnExactPlain.F
 simp only [forall_eq,true_and,and_true,caseB_iff,Prod.mk.injEq,decide_eq_true_eq,decide_eq_false_iff_not,Bool.not_eq_true',Bool.not_eq_false',bne_iff_ne,ne_eq,beq_iff_eq,Bool.not_true,Bool.not_false,beq_eq_false_iff_ne,bne_eq_false_iff_eq,List.length_append,List.length_cons,List.length_nil,List.append_nil,Nat.zero_add,decide_true,decide_false,eq_self_iff_true,fSz_Engine,fTo_Engine,Prod.eta]
 have w0:WfD (.pair (.int .i64) (.pair (.list (.pair .str (.list (.pair (.int .i64) (.int .i64))))) (.list .str))) a0:=h
 refine⟨⟨w0,by omega,by omega⟩,fun _=>trivial,fun h1=>?_⟩
 have hn:=sz_pos2 h1
 have hp:pTo_Engine a0:=hn
 have hq:=pEng_of w0
 have hc:=eng_c hn
 have hm0:pMk_Engine a0 1:=⟨by omega,by omega⟩
 have hk1:¬(1+c_sEngine a0<0):=by omega
 have hr:=plain_tot a0
 have hr0:=cL_ser4 (fPlain a0)
 obtain⟨o1,o2⟩:=oL_mL ok_Series (fPlain a0) 1
 have hm2:pMk_SeriesS (fPlain a0) 1:=⟨by omega,by omega⟩
 have hm3:pMk_SeriesS (mL c_mSeries m_Series (fPlain a0) 1) 1:=⟨by omega,by rw [o2];omega⟩
 have he:∀x:List Ser,fEq_SeriesS x x=true:=fun x=>by simp [fEq_SeriesS]
 have hh:fHd (cL c_mSeries (mL c_mSeries m_Series (fPlain a0) 1)) (oL c_mSeries o_Series (mL c_mSeries m_Series (fPlain a0) 1) 1) 1=1+cL c_mSeries (fPlain a0):=by rw [fHd_yes o1,o2]
 have hk2:¬(1+cL c_mSeries (fPlain a0)<0):=by omega
 simp only [fMk_Engine,fMk_SeriesS,fHd_SeriesS]
 simp [hp,hq,hm0,hm2,hm3,he,eqE,hh,hk1,hk2]
set_option maxRecDepth 100000 in
theorem laws_FnExactPlain.eq:EqS (lawCon (.pair (.int .i64) (.pair (.list (.pair .str (.list (.pair (.int .i64) (.int .i64))))) (.list .str))) [.agg 3]) Tryz.f4 [4] [laws_szEngine.e,laws_toEngine.e,laws_eqEngine.e,laws_markEngine.e,spec_Plain.e,impl_Plain.e,laws_eqSeriesS.e,laws_markSeriesS.e,laws_heldSeriesS.e] [] noL (fun i x=>laws_FnExactPlain.F x):=by intro i x;kernel_rfl
theorem laws_FnExactPlain.ok:ConOk Tryz.prog 4 (lawCon (.pair (.int .i64) (.pair (.list (.pair .str (.list (.pair (.int .i64) (.int .i64))))) (.list .str))) [.agg 3]):=okOf laws_FnExactPlain.eq Tryz.func4 rfl (by kernel_rfl) fun i x h hi hw=>laws_FnExactPlain.pure x h hw
end Go.Proofs.YtnoapekdbmpiaaaGreat.B
