/- What the law computes. -/
import Derived.Test.YtnoapekdbmpiaaaCFind
import Derived.Test.YtnoapekdbmpiaaaCLaw
import Derived.Test.YtnoapekdbmpiaaaCTPoint
namespace Go.Proofs.Ytnoapekdbmpiaaa.B
set_option linter.unusedVariables false
set_option linter.unusedSimpArgs false
open Go Go.Proofs.Ytnoapekdbmpiaaa.Bv
theorem cL_two5:∀l:List (Int×Int),cL c_mPoint l=2*l.length
 | []=>by simp [cL]
 | x::l=>by rw [cL_cons,cL_two5 l,show c_mPoint x=2 from rfl,List.length_cons];omega
def laws_FnExactFileFind.F (a0:(List UInt8)) (a1:(List UInt8)):Prop:=(caseB (decide ((ln a0)>(1048576:Int))) (Eq (true,((),())) (true,((),()))) (caseB (decide ((ln a1)>(1048576:Int))) (Eq (true,((),())) (true,((),()))) ((pFind a0 a1)∧∀r1,(Eq r1 ((fFind a0 a1),((),())))→((pFind a0 a1)∧∀r2,(Eq r2 ((fFind a0 a1),((),())))→(True∧∀r3,(Eq r3 ((fEq_PointS r2.1.1 r1.1.1),((),())))→(caseB (!r3.1) (Eq (false,((),())) (true,((),()))) (caseB (!(r2.1.2==r1.1.2)) (Eq (false,((),())) (true,((),()))) ((pMk_PointS r2.1.1 1)∧∀r4,(Eq r4 ((fMk_PointS r2.1.1 1).1,((),(fMk_PointS r2.1.1 1).2)))→((pMk_PointS r4.2.2 1)∧∀r5,(Eq r5 ((fHd_PointS r4.2.2 1),((),())))→(caseB (decide (r5.1<(0:Int))) (Eq (false,((),())) (true,((),()))) (caseB (r5.1 !=r4.1) (Eq (false,((),())) (true,((),()))) ((pFind a0 a1)∧∀r6,(Eq r6 ((fFind a0 a1),((),())))→(True∧∀r7,(Eq r7 ((fEq_PointS r6.1.1 r1.1.1),((),())))→(caseB (!r7.1) (Eq (false,((),())) (true,((),()))) (caseB (!(r6.1.2==r1.1.2)) (Eq (false,((),())) (true,((),()))) ((pMk_PointS r4.2.2 1)∧∀r8,(Eq r8 ((fHd_PointS r4.2.2 1),((),())))→(caseB (decide (r8.1<(0:Int))) (Eq (false,((),())) (true,((),()))) (caseB (r8.1 !=r4.1) (Eq (false,((),())) (true,((),()))) (Eq (true,((),())) (true,((),())))))))))))))))))))))
theorem laws_FnExactFileFind.pure (a0:(List UInt8)) (a1:(List UInt8)) (h:WfD (.pair .str .str) (a0,a1)) (hw:Wf (lawCon (.pair .str .str) [.one,.one]).A (a0,a1)):laws_FnExactFileFind.F a0 a1:=by
 delta laws_FnExactFileFind.F ln
 simp only [forall_eq,true_and,and_true,caseB_iff,Prod.mk.injEq,decide_eq_true_eq,decide_eq_false_iff_not,Bool.not_eq_true',Bool.not_eq_false',bne_iff_ne,ne_eq,beq_iff_eq,Bool.not_true,Bool.not_false,beq_eq_false_iff_ne,bne_eq_false_iff_eq,List.length_append,List.length_cons,List.length_nil,List.append_nil,Nat.zero_add,decide_true,decide_false,eq_self_iff_true,Prod.eta]
 refine⟨fun _=>trivial,fun hk1=>⟨fun _=>trivial,fun hk2=>?_⟩⟩
 have hq:pFind a0 a1:=h.1
 have hr:=find_len a0 a1
 have hr0:=cL_two5 (fFind a0 a1).1
 obtain⟨o1,o2⟩:=oL_mL ok_Point (fFind a0 a1).1 1
 have hm2:pMk_PointS (fFind a0 a1).1 1:=⟨by omega,by omega⟩
 have hm3:pMk_PointS (mL c_mPoint m_Point (fFind a0 a1).1 1) 1:=⟨by omega,by rw [o2];omega⟩
 have he:∀x:List (Int×Int),fEq_PointS x x=true:=fun x=>by simp [fEq_PointS]
 have hh:fHd (cL c_mPoint (mL c_mPoint m_Point (fFind a0 a1).1 1)) (oL c_mPoint o_Point (mL c_mPoint m_Point (fFind a0 a1).1 1) 1) 1=1+cL c_mPoint (fFind a0 a1).1:=by rw [fHd_yes o1,o2]
 have hk3:¬(1+cL c_mPoint (fFind a0 a1).1<0):=by omega
 simp only [fMk_PointS,fHd_PointS]
 simp [hq,hm2,hm3,he,hh,hk3]
set_option maxRecDepth 100000 in
theorem laws_FnExactFileFind.eq:EqS (lawCon (.pair .str .str) [.one,.one]) Try.f3 [4] [spec_FileFind.e,impl_FileFind.e,laws_eqPointS.e,laws_markPointS.e,laws_heldPointS.e] [] noL (fun i x=>laws_FnExactFileFind.F x.1 x.2):=by intro i x;kernel_rfl
theorem laws_FnExactFileFind.ok:ConOk Try.prog 3 (lawCon (.pair .str .str) [.one,.one]):=okOf laws_FnExactFileFind.eq Try.func3 rfl (by kernel_rfl) fun i x h hi hw=>laws_FnExactFileFind.pure x.1 x.2 h hw
end Go.Proofs.Ytnoapekdbmpiaaa.B
