/- What the law computes. -/
import Derived.Test.YtnoapekdbmpiaaaGreatCLawS
import Derived.Test.YtnoapekdbmpiaaaGreatCShS
import Derived.Test.YtnoapekdbmpiaaaGreatCTState
set_option linter.unusedVariables false
set_option linter.unusedSimpArgs false
namespace Go.Proofs.YtnoapekdbmpiaaaGreat.B
open Go Go.Proofs.YtnoapekdbmpiaaaGreat.Bv
def laws_FnExactShowState.F (a0:U4q):Prop:=((pSz_State (a0.1,(a0.2.1,(a0.2.2.1,(a0.2.2.2.1,((a0.2.2.2.2.1.1,(a0.2.2.2.2.1.2.1,a0.2.2.2.2.1.2.2)),a0.2.2.2.2.2))))) 1048576)∧∀r1,(Eq r1 ((fSz_State (a0.1,(a0.2.1,(a0.2.2.1,(a0.2.2.2.1,((a0.2.2.2.2.1.1,(a0.2.2.2.2.1.2.1,a0.2.2.2.2.1.2.2)),a0.2.2.2.2.2))))) 1048576),((),())))→(caseB (decide (r1.1<(0:Int))) (Eq (true,((),())) (true,((),()))) ((pTo_State (a0.1,(a0.2.1,(a0.2.2.1,(a0.2.2.2.1,((a0.2.2.2.2.1.1,(a0.2.2.2.2.1.2.1,a0.2.2.2.2.1.2.2)),a0.2.2.2.2.2))))))∧∀r2,(Eq r2 ((fTo_State (a0.1,(a0.2.1,(a0.2.2.1,(a0.2.2.2.1,((a0.2.2.2.2.1.1,(a0.2.2.2.2.1.2.1,a0.2.2.2.2.1.2.2)),a0.2.2.2.2.2)))))),((),())))→((pShSt (r2.1.1,(r2.1.2.1,(r2.1.2.2.1,(r2.1.2.2.2.1,((r2.1.2.2.2.2.1.1,(r2.1.2.2.2.2.1.2.1,r2.1.2.2.2.2.1.2.2)),r2.1.2.2.2.2.2))))))∧∀r3,(Eq r3 ((fShSt (r2.1.1,(r2.1.2.1,(r2.1.2.2.1,(r2.1.2.2.2.1,((r2.1.2.2.2.2.1.1,(r2.1.2.2.2.2.1.2.1,r2.1.2.2.2.2.1.2.2)),r2.1.2.2.2.2.2)))))),((),())))→((pTo_State (a0.1,(a0.2.1,(a0.2.2.1,(a0.2.2.2.1,((a0.2.2.2.2.1.1,(a0.2.2.2.2.1.2.1,a0.2.2.2.2.1.2.2)),a0.2.2.2.2.2))))))∧∀r4,(Eq r4 ((fTo_State (a0.1,(a0.2.1,(a0.2.2.1,(a0.2.2.2.1,((a0.2.2.2.2.1.1,(a0.2.2.2.2.1.2.1,a0.2.2.2.2.1.2.2)),a0.2.2.2.2.2)))))),((),())))→((pShSt (r4.1.1,(r4.1.2.1,(r4.1.2.2.1,(r4.1.2.2.2.1,((r4.1.2.2.2.2.1.1,(r4.1.2.2.2.2.1.2.1,r4.1.2.2.2.2.1.2.2)),r4.1.2.2.2.2.2))))))∧∀r5,(Eq r5 ((fShSt (r4.1.1,(r4.1.2.1,(r4.1.2.2.1,(r4.1.2.2.2.1,((r4.1.2.2.2.2.1.1,(r4.1.2.2.2.2.1.2.1,r4.1.2.2.2.2.1.2.2)),r4.1.2.2.2.2.2)))))),((),())))→(caseB (!(r5.1==r3.1)) (Eq (false,((),())) (true,((),()))) ((pTo_State (a0.1,(a0.2.1,(a0.2.2.1,(a0.2.2.2.1,((a0.2.2.2.2.1.1,(a0.2.2.2.2.1.2.1,a0.2.2.2.2.1.2.2)),a0.2.2.2.2.2))))))∧∀r6,(Eq r6 ((fTo_State (a0.1,(a0.2.1,(a0.2.2.1,(a0.2.2.2.1,((a0.2.2.2.2.1.1,(a0.2.2.2.2.1.2.1,a0.2.2.2.2.1.2.2)),a0.2.2.2.2.2)))))),((),())))→(True∧∀r7,(Eq r7 ((fEq_State (r4.1.1,(r4.1.2.1,(r4.1.2.2.1,(r4.1.2.2.2.1,((r4.1.2.2.2.2.1.1,(r4.1.2.2.2.2.1.2.1,r4.1.2.2.2.2.1.2.2)),r4.1.2.2.2.2.2))))) (r6.1.1,(r6.1.2.1,(r6.1.2.2.1,(r6.1.2.2.2.1,((r6.1.2.2.2.2.1.1,(r6.1.2.2.2.2.1.2.1,r6.1.2.2.2.2.1.2.2)),r6.1.2.2.2.2.2)))))),((),())))→(caseB (!r7.1) (Eq (false,((),())) (true,((),()))) (Eq (true,((),())) (true,((),())))))))))))))
theorem laws_FnExactShowState.pure (a0:U4q) (h:WfD T6q a0) (hw:Wf (lawCon T6q [.agg 8]).A a0):laws_FnExactShowState.F a0:=by
 unfold laws_FnExactShowState.F
 simp only [forall_eq,true_and,and_true,caseB_iff,Prod.mk.injEq,decide_eq_true_eq,decide_eq_false_iff_not,Bool.not_eq_true',Bool.not_eq_false',bne_iff_ne,ne_eq,beq_iff_eq,Bool.not_true,Bool.not_false,beq_eq_false_iff_ne,bne_eq_false_iff_eq,List.length_append,List.length_cons,List.length_nil,List.append_nil,Nat.zero_add,decide_true,decide_false,eq_self_iff_true,fSz_State,fTo_State,Prod.eta]
 refine⟨⟨h,by omega,by omega⟩,fun _=>trivial,fun h1=>?_⟩
 have hn:=sz_pos2 h1
 have hp:pTo_State a0:=hn
 have hq:pShSt a0:=⟨pSt_of h hn,fun x hx=>(h.2.2.2.2.2.2 x hx).2.2.2.2.2⟩
 have he:∀x:Stt,fEq_State x x=true:=fun x=>by simp [fEq_State]
 simp [hp,hq,he]
set_option maxRecDepth 100000 in
theorem laws_FnExactShowState.eq:EqS (lawCon T6q [.agg 8]) Tryz.f10 [4] [laws_szState.e,laws_toState.e,laws_eqState.e,spec_ShowState.e,impl_ShowState.e] [] noL (fun i x=>laws_FnExactShowState.F x):=by intro i x;kernel_rfl
theorem laws_FnExactShowState.ok:ConOk Tryz.prog 10 (lawCon T6q [.agg 8]):=okOf laws_FnExactShowState.eq Tryz.func10 rfl (by kernel_rfl) fun i x h hi hw=>laws_FnExactShowState.pure x h hw
end Go.Proofs.YtnoapekdbmpiaaaGreat.B
