/- Values of the type Engine:how large,the same,marked. -/
import Derived.Test.YtnoapekdbmpiaaaGreatCTypes
import Derived.Test.YtnoapekdbmpiaaaGreatCTSeries
set_option linter.unusedVariables false
set_option linter.unusedSimpArgs false
namespace Go.Proofs.YtnoapekdbmpiaaaGreat.B
open Go Go.Proofs.YtnoapekdbmpiaaaGreat.Bv
def n_Engine (x:U11q):Nat:=(nL n_Series x.2.1)+(nL (fun s=>List.length s) x.2.2)
def pSz_Engine (x:U11q) (left:Int):Prop:=WfD T10q x∧0≤left∧left≤1048576
def fSz_Engine (x:U11q) (left:Int):Int:=fSz (n_Engine x) left
def c_laws_szEngine:Con:={A:=(.pair T10q (.int .i64)),shA:=[.agg 3,.one],R:=(.int .i64),shR:=[(false,1)],pre:=fun _ a=>(pSz_Engine a.1 a.2),f:=some fun _ a=>((fSz_Engine a.1 a.2),((),()))}
def laws_szEngine.F (a0:U11q) (a1:Int):Prop:=((pSz_SeriesS a0.2.1 a1)∧∀r1,(Eq r1 ((fSz_SeriesS a0.2.1 a1),((),())))→(caseB (decide (r1.1<(0:Int))) (Eq ((-1),((),())) ((fSz_Engine a0 a1),((),()))) ((pSz_StringS a0.2.2 r1.1)∧∀r2,(Eq r2 ((fSz_StringS a0.2.2 r1.1),((),())))→(caseB (decide (r2.1<(0:Int))) (Eq ((-1),((),())) ((fSz_Engine a0 a1),((),()))) (Eq (r2.1,((),())) ((fSz_Engine a0 a1),((),())))))))
theorem laws_szEngine.pure (a0:U11q) (a1:Int) (h:(pSz_Engine a0 a1)) (hw:Wf c_laws_szEngine.A (a0,a1)):laws_szEngine.F a0 a1:=by
 unfold laws_szEngine.F
 obtain⟨hwf,p1,p2⟩:=h
 have w1:WfD T15q a0.2.1:=hwf.2.1
 have w2:WfD (.list .str) a0.2.2:=hwf.2.2
 simp only [forall_eq,true_and,and_true,caseB_iff,Prod.mk.injEq,decide_eq_true_eq,decide_eq_false_iff_not,Bool.not_eq_true',Bool.not_eq_false',bne_iff_ne,ne_eq,beq_iff_eq,Bool.not_true,Bool.not_false,beq_eq_false_iff_ne,bne_eq_false_iff_eq,List.length_append,List.length_cons,List.length_nil,List.append_nil,Nat.zero_add,decide_true,decide_false,eq_self_iff_true,n_Engine,fSz_Engine,pSz_SeriesS,fSz_SeriesS,pSz_StringS,fSz_StringS]
 repeat' (with_reducible (first | (refine And.intro ?_ ?_) | intro _))
 all_goals (try simp (disch:=omega) only [w64,wu8,tn0,tn1,tm1,tm2,List.length_append,List.length_cons,List.length_nil] at*)
 all_goals (try simp (disch:=omega) only [w64,wu8,tn0,tn1,tm1,tm2,List.length_append,List.length_cons,List.length_nil] at*)
 all_goals (try omega)
 all_goals (try grind [fSz])
set_option maxRecDepth 100000 in
theorem laws_szEngine.eq:EqS c_laws_szEngine Tryz.f14 [3] [laws_szSeriesS.e,laws_szStringS.e] [] noL (fun i x=>laws_szEngine.F x.1 x.2):=by intro i x;kernel_rfl
theorem laws_szEngine.ok:ConOk Tryz.prog 14 c_laws_szEngine:=okOf laws_szEngine.eq Tryz.func14 rfl (by kernel_rfl) fun i x h hi hw=>laws_szEngine.pure x.1 x.2 h hw
def laws_szEngine.e:GE:=⟨14,c_laws_szEngine,⟨_,Tryz.func14,rfl,rfl⟩,laws_szEngine.ok⟩
def pTo_Engine (x:U11q):Prop:=n_Engine x≤1048576
def fTo_Engine (x:U11q):U11q:=x
def c_laws_toEngine:Con:={A:=T10q,shA:=[.agg 3],R:=T10q,shR:=[(true,3)],fresh:=[(1,72),(2,9)],pre:=fun _ a=>(pTo_Engine a),f:=some fun _ a=>((fTo_Engine a),((),()))}
def laws_toEngine.F (a0:U11q):Prop:=((pTo_SeriesS a0.2.1)∧∀r1,(Eq r1 ((fTo_SeriesS a0.2.1),((),())))→((pTo_StringS a0.2.2)∧∀r2,(Eq r2 ((fTo_StringS a0.2.2),((),())))→(Eq ((a0.1,(r1.1,r2.1)),((),())) ((fTo_Engine a0),((),())))))
theorem laws_toEngine.pure (a0:U11q) (h:(pTo_Engine a0)) (hw:Wf c_laws_toEngine.A a0):laws_toEngine.F a0:=by
 unfold laws_toEngine.F
 have hp:n_Engine a0≤1048576:=h
 simp only [n_Engine] at hp
 simp only [forall_eq,true_and,and_true,caseB_iff,Prod.mk.injEq,decide_eq_true_eq,decide_eq_false_iff_not,Bool.not_eq_true',Bool.not_eq_false',bne_iff_ne,ne_eq,beq_iff_eq,Bool.not_true,Bool.not_false,beq_eq_false_iff_ne,bne_eq_false_iff_eq,List.length_append,List.length_cons,List.length_nil,List.append_nil,Nat.zero_add,decide_true,decide_false,eq_self_iff_true,n_Engine,fTo_Engine,pTo_Engine,pTo_SeriesS,fTo_SeriesS,pTo_StringS,fTo_StringS]
 repeat' (with_reducible (first | (refine And.intro ?_ ?_) | intro _))
 all_goals (try simp (disch:=omega) only [w64,wu8,tn0,tn1,tm1,tm2,List.length_append,List.length_cons,List.length_nil] at*)
 all_goals (try simp (disch:=omega) only [w64,wu8,tn0,tn1,tm1,tm2,List.length_append,List.length_cons,List.length_nil] at*)
 all_goals (try omega)
 all_goals (try grind [])
set_option maxRecDepth 100000 in
theorem laws_toEngine.eq:EqS c_laws_toEngine Tryz.f16 [31] [laws_toSeriesS.e,laws_toStringS.e] [] noL (fun i x=>laws_toEngine.F x):=by intro i x;kernel_rfl
theorem laws_toEngine.ok:ConOk Tryz.prog 16 c_laws_toEngine:=okOf laws_toEngine.eq Tryz.func16 rfl (by kernel_rfl) fun i x h hi hw=>laws_toEngine.pure x h hw
def laws_toEngine.e:GE:=⟨16,c_laws_toEngine,⟨_,Tryz.func16,rfl,rfl⟩,laws_toEngine.ok⟩
instance dec_Engine:DecidableEq U11q:=by (iterate 20 (all_goals (first | infer_instance | refine @instDecidableEqProd _ _ ?_ ?_)))
def fEq_Engine (a b:U11q):Bool:=decide (a=b)
def c_laws_eqEngine:Con:={A:=(.pair T10q T10q),shA:=[.agg 3,.agg 3],R:=.bool,shR:=[(false,1)],pre:=fun _ _=>True,f:=some fun _ a=>((fEq_Engine a.1 a.2),((),()))}
def laws_eqEngine.F (a0:U11q) (a1:U11q):Prop:=(caseB (a0.1 !=a1.1) (Eq (false,((),())) ((fEq_Engine a0 a1),((),()))) (True∧∀r1,(Eq r1 ((fEq_SeriesS a0.2.1 a1.2.1),((),())))→(caseB (!r1.1) (Eq (false,((),())) ((fEq_Engine a0 a1),((),()))) (True∧∀r2,(Eq r2 ((fEq_StringS a0.2.2 a1.2.2),((),())))→(caseB (!r2.1) (Eq (false,((),())) ((fEq_Engine a0 a1),((),()))) (Eq (true,((),())) ((fEq_Engine a0 a1),((),()))))))))
theorem laws_eqEngine.pure (a0:U11q) (a1:U11q) (h:True) (hw:Wf c_laws_eqEngine.A (a0,a1)):laws_eqEngine.F a0 a1:=by
 unfold laws_eqEngine.F
 obtain⟨x1,x2,x3⟩:=a0
 obtain⟨y1,y2,y3⟩:=a1
 simp only [forall_eq,true_and,and_true,caseB_iff,Prod.mk.injEq,decide_eq_true_eq,decide_eq_false_iff_not,Bool.not_eq_true',Bool.not_eq_false',bne_iff_ne,ne_eq,beq_iff_eq,Bool.not_true,Bool.not_false,beq_eq_false_iff_ne,bne_eq_false_iff_eq,List.length_append,List.length_cons,List.length_nil,List.append_nil,Nat.zero_add,decide_true,decide_false,eq_self_iff_true,fEq_Engine,fEq_SeriesS,fEq_StringS]
 repeat' (first | (refine And.intro ?_ ?_) | intro _)
 all_goals simp_all
set_option maxRecDepth 100000 in
theorem laws_eqEngine.eq:EqS c_laws_eqEngine Tryz.f19 [4] [laws_eqSeriesS.e,laws_eqStringS.e] [] noL (fun i x=>laws_eqEngine.F x.1 x.2):=by intro i x;kernel_rfl
theorem laws_eqEngine.ok:ConOk Tryz.prog 19 c_laws_eqEngine:=okOf laws_eqEngine.eq Tryz.func19 rfl (by kernel_rfl) fun i x h hi hw=>laws_eqEngine.pure x.1 x.2 h hw
def laws_eqEngine.e:GE:=⟨19,c_laws_eqEngine,⟨_,Tryz.func19,rfl,rfl⟩,laws_eqEngine.ok⟩
end Go.Proofs.YtnoapekdbmpiaaaGreat.B
