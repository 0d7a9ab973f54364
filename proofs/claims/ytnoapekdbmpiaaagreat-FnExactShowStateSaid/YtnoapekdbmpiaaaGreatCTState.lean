/- Values of the type State:how large,the same,marked. -/
import Derived.Test.YtnoapekdbmpiaaaGreatCTypes
import Derived.Test.YtnoapekdbmpiaaaGreatCTBucket
import Derived.Test.YtnoapekdbmpiaaaGreatCTEngine
import Derived.Test.YtnoapekdbmpiaaaGreatCTSession
set_option linter.unusedVariables false
set_option linter.unusedSimpArgs false
namespace Go.Proofs.YtnoapekdbmpiaaaGreat.B
open Go Go.Proofs.YtnoapekdbmpiaaaGreat.Bv
def n_State (x:U4q):Nat:=(List.length x.2.2.2.1)+(n_Engine x.2.2.2.2.1)+(nL n_Session x.2.2.2.2.2)
def pSz_State (x:U4q) (left:Int):Prop:=WfD T6q x∧0≤left∧left≤1048576
def fSz_State (x:U4q) (left:Int):Int:=fSz (n_State x) left
def c_laws_szState:Con:={A:=(.pair T6q (.int .i64)),shA:=[.agg 8,.one],R:=(.int .i64),shR:=[(false,1)],pre:=fun _ a=>(pSz_State a.1 a.2),f:=some fun _ a=>((fSz_State a.1 a.2),((),()))}
def laws_szState.F (a0:U4q) (a1:Int):Prop:=((pSz_BucketS a0.2.2.2.1 a1)∧∀r1,(Eq r1 ((fSz_BucketS a0.2.2.2.1 a1),((),())))→(caseB (decide (r1.1<(0:Int))) (Eq ((-1),((),())) ((fSz_State a0 a1),((),()))) ((pSz_Engine (a0.2.2.2.2.1.1,(a0.2.2.2.2.1.2.1,a0.2.2.2.2.1.2.2)) r1.1)∧∀r2,(Eq r2 ((fSz_Engine (a0.2.2.2.2.1.1,(a0.2.2.2.2.1.2.1,a0.2.2.2.2.1.2.2)) r1.1),((),())))→(caseB (decide (r2.1<(0:Int))) (Eq ((-1),((),())) ((fSz_State a0 a1),((),()))) ((pSz_SessionS a0.2.2.2.2.2 r2.1)∧∀r3,(Eq r3 ((fSz_SessionS a0.2.2.2.2.2 r2.1),((),())))→(caseB (decide (r3.1<(0:Int))) (Eq ((-1),((),())) ((fSz_State a0 a1),((),()))) (Eq (r3.1,((),())) ((fSz_State a0 a1),((),())))))))))
theorem laws_szState.pure (a0:U4q) (a1:Int) (h:(pSz_State a0 a1)) (hw:Wf c_laws_szState.A (a0,a1)):laws_szState.F a0 a1:=by
 unfold laws_szState.F
 obtain⟨hwf,p1,p2⟩:=h
 have w3:WfD T16q a0.2.2.2.1:=hwf.2.2.2.1
 have w4:WfD T10q a0.2.2.2.2.1:=hwf.2.2.2.2.1
 have w5:WfD (.list T1q) a0.2.2.2.2.2:=hwf.2.2.2.2.2
 simp only [forall_eq,true_and,and_true,caseB_iff,Prod.mk.injEq,decide_eq_true_eq,decide_eq_false_iff_not,Bool.not_eq_true',Bool.not_eq_false',bne_iff_ne,ne_eq,beq_iff_eq,Bool.not_true,Bool.not_false,beq_eq_false_iff_ne,bne_eq_false_iff_eq,List.length_append,List.length_cons,List.length_nil,List.append_nil,Nat.zero_add,decide_true,decide_false,eq_self_iff_true,n_State,fSz_State,pSz_BucketS,fSz_BucketS,pSz_Engine,fSz_Engine,pSz_SessionS,fSz_SessionS]
 repeat' (with_reducible (first | (refine And.intro ?_ ?_) | intro _))
 all_goals (try simp (disch:=omega) only [w64,wu8,tn0,tn1,tm1,tm2,List.length_append,List.length_cons,List.length_nil] at*)
 all_goals (try simp (disch:=omega) only [w64,wu8,tn0,tn1,tm1,tm2,List.length_append,List.length_cons,List.length_nil] at*)
 all_goals (try omega)
 all_goals (try grind [fSz])
set_option maxRecDepth 100000 in
theorem laws_szState.eq:EqS c_laws_szState Tryz.f39 [3] [laws_szEngine.e,laws_szBucketS.e,laws_szSessionS.e] [] noL (fun i x=>laws_szState.F x.1 x.2):=by intro i x;kernel_rfl
theorem laws_szState.ok:ConOk Tryz.prog 39 c_laws_szState:=okOf laws_szState.eq Tryz.func39 rfl (by kernel_rfl) fun i x h hi hw=>laws_szState.pure x.1 x.2 h hw
def laws_szState.e:GE:=⟨39,c_laws_szState,⟨_,Tryz.func39,rfl,rfl⟩,laws_szState.ok⟩
def pTo_State (x:U4q):Prop:=n_State x≤1048576
def fTo_State (x:U4q):U4q:=x
def c_laws_toState:Con:={A:=T6q,shA:=[.agg 8],R:=T6q,shR:=[(true,8)],fresh:=[(3,114),(5,72),(6,9),(7,110)],pre:=fun _ a=>(pTo_State a),f:=some fun _ a=>((fTo_State a),((),()))}
def laws_toState.F (a0:U4q):Prop:=((pTo_BucketS a0.2.2.2.1)∧∀r1,(Eq r1 ((fTo_BucketS a0.2.2.2.1),((),())))→((pTo_Engine (a0.2.2.2.2.1.1,(a0.2.2.2.2.1.2.1,a0.2.2.2.2.1.2.2)))∧∀r2,(Eq r2 ((fTo_Engine (a0.2.2.2.2.1.1,(a0.2.2.2.2.1.2.1,a0.2.2.2.2.1.2.2))),((),())))→((pTo_SessionS a0.2.2.2.2.2)∧∀r3,(Eq r3 ((fTo_SessionS a0.2.2.2.2.2),((),())))→(Eq ((a0.1,(a0.2.1,(a0.2.2.1,(r1.1,((r2.1.1,(r2.1.2.1,r2.1.2.2)),r3.1))))),((),())) ((fTo_State a0),((),()))))))
theorem laws_toState.pure (a0:U4q) (h:(pTo_State a0)) (hw:Wf c_laws_toState.A a0):laws_toState.F a0:=by
 unfold laws_toState.F
 have hp:n_State a0≤1048576:=h
 simp only [n_State] at hp
 simp only [forall_eq,true_and,and_true,caseB_iff,Prod.mk.injEq,decide_eq_true_eq,decide_eq_false_iff_not,Bool.not_eq_true',Bool.not_eq_false',bne_iff_ne,ne_eq,beq_iff_eq,Bool.not_true,Bool.not_false,beq_eq_false_iff_ne,bne_eq_false_iff_eq,List.length_append,List.length_cons,List.length_nil,List.append_nil,Nat.zero_add,decide_true,decide_false,eq_self_iff_true,n_State,fTo_State,pTo_State,pTo_BucketS,fTo_BucketS,pTo_Engine,fTo_Engine,pTo_SessionS,fTo_SessionS]
 repeat' (with_reducible (first | (refine And.intro ?_ ?_) | intro _))
 all_goals (try simp (disch:=omega) only [w64,wu8,tn0,tn1,tm1,tm2,List.length_append,List.length_cons,List.length_nil] at*)
 all_goals (try simp (disch:=omega) only [w64,wu8,tn0,tn1,tm1,tm2,List.length_append,List.length_cons,List.length_nil] at*)
 all_goals (try omega)
 all_goals (try grind [])
set_option maxRecDepth 100000 in
theorem laws_toState.eq:EqS c_laws_toState Tryz.f41 [60] [laws_toEngine.e,laws_toBucketS.e,laws_toSessionS.e] [] noL (fun i x=>laws_toState.F x):=by intro i x;kernel_rfl
theorem laws_toState.ok:ConOk Tryz.prog 41 c_laws_toState:=okOf laws_toState.eq Tryz.func41 rfl (by kernel_rfl) fun i x h hi hw=>laws_toState.pure x h hw
def laws_toState.e:GE:=⟨41,c_laws_toState,⟨_,Tryz.func41,rfl,rfl⟩,laws_toState.ok⟩
instance dec_State:DecidableEq U4q:=by (iterate 20 (all_goals (first | infer_instance | refine @instDecidableEqProd _ _ ?_ ?_)))
def fEq_State (a b:U4q):Bool:=decide (a=b)
def c_laws_eqState:Con:={A:=(.pair T6q T6q),shA:=[.agg 8,.agg 8],R:=.bool,shR:=[(false,1)],pre:=fun _ _=>True,f:=some fun _ a=>((fEq_State a.1 a.2),((),()))}
def laws_eqState.F (a0:U4q) (a1:U4q):Prop:=(caseB (a0.1 !=a1.1) (Eq (false,((),())) ((fEq_State a0 a1),((),()))) (caseB (a0.2.1 !=a1.2.1) (Eq (false,((),())) ((fEq_State a0 a1),((),()))) (caseB (a0.2.2.1 !=a1.2.2.1) (Eq (false,((),())) ((fEq_State a0 a1),((),()))) (True∧∀r1,(Eq r1 ((fEq_BucketS a0.2.2.2.1 a1.2.2.2.1),((),())))→(caseB (!r1.1) (Eq (false,((),())) ((fEq_State a0 a1),((),()))) (True∧∀r2,(Eq r2 ((fEq_Engine (a0.2.2.2.2.1.1,(a0.2.2.2.2.1.2.1,a0.2.2.2.2.1.2.2)) (a1.2.2.2.2.1.1,(a1.2.2.2.2.1.2.1,a1.2.2.2.2.1.2.2))),((),())))→(caseB (!r2.1) (Eq (false,((),())) ((fEq_State a0 a1),((),()))) (True∧∀r3,(Eq r3 ((fEq_SessionS a0.2.2.2.2.2 a1.2.2.2.2.2),((),())))→(caseB (!r3.1) (Eq (false,((),())) ((fEq_State a0 a1),((),()))) (Eq (true,((),())) ((fEq_State a0 a1),((),()))))))))))))
theorem laws_eqState.pure (a0:U4q) (a1:U4q) (h:True) (hw:Wf c_laws_eqState.A (a0,a1)):laws_eqState.F a0 a1:=by
 unfold laws_eqState.F
 obtain⟨x1,x2,x3,x4,⟨x5,x6,x7⟩,x8⟩:=a0
 obtain⟨y1,y2,y3,y4,⟨y5,y6,y7⟩,y8⟩:=a1
 simp only [forall_eq,true_and,and_true,caseB_iff,Prod.mk.injEq,decide_eq_true_eq,decide_eq_false_iff_not,Bool.not_eq_true',Bool.not_eq_false',bne_iff_ne,ne_eq,beq_iff_eq,Bool.not_true,Bool.not_false,beq_eq_false_iff_ne,bne_eq_false_iff_eq,List.length_append,List.length_cons,List.length_nil,List.append_nil,Nat.zero_add,decide_true,decide_false,eq_self_iff_true,fEq_State,fEq_BucketS,fEq_Engine,fEq_SessionS]
 repeat' (first | (refine And.intro ?_ ?_) | intro _)
 all_goals simp_all
set_option maxRecDepth 100000 in
theorem laws_eqState.eq:EqS c_laws_eqState Tryz.f43 [4] [laws_eqEngine.e,laws_eqBucketS.e,laws_eqSessionS.e] [] noL (fun i x=>laws_eqState.F x.1 x.2):=by intro i x;kernel_rfl
theorem laws_eqState.ok:ConOk Tryz.prog 43 c_laws_eqState:=okOf laws_eqState.eq Tryz.func43 rfl (by kernel_rfl) fun i x h hi hw=>laws_eqState.pure x.1 x.2 h hw
def laws_eqState.e:GE:=⟨43,c_laws_eqState,⟨_,Tryz.func43,rfl,rfl⟩,laws_eqState.ok⟩
end Go.Proofs.YtnoapekdbmpiaaaGreat.B
