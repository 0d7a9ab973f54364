/- Values of the type Answer:how large,the same,marked. -/
import Derived.Test.YtnoapekdbmpiaaaGreatCTypes
set_option linter.unusedVariables false
set_option linter.unusedSimpArgs false
namespace Go.Proofs.YtnoapekdbmpiaaaGreat.B
open Go Go.Proofs.YtnoapekdbmpiaaaGreat.Bv
def n_Answer (x:U13q):Nat:=(x.2.2.2.length)
def pSz_Answer (x:U13q) (left:Int):Prop:=WfD T12q x∧0≤left∧left≤1048576
def fSz_Answer (x:U13q) (left:Int):Int:=fSz (n_Answer x) left
def c_laws_szAnswer:Con:={A:=(.pair T12q (.int .i64)),shA:=[.agg 4,.one],R:=(.int .i64),shR:=[(false,1)],pre:=fun _ a=>(pSz_Answer a.1 a.2),f:=some fun _ a=>((fSz_Answer a.1 a.2),((),()))}
def laws_szAnswer.F (a0:U13q) (a1:Int):Prop:=(caseB (decide ((wI (a1 - (ln a0.2.2.2)))<(0:Int))) (Eq ((-1),((),())) ((fSz_Answer a0 a1),((),()))) (Eq ((wI (a1 - (ln a0.2.2.2))),((),())) ((fSz_Answer a0 a1),((),()))))
theorem laws_szAnswer.pure (a0:U13q) (a1:Int) (h:(pSz_Answer a0 a1)) (hw:Wf c_laws_szAnswer.A (a0,a1)):laws_szAnswer.F a0 a1:=by
 delta laws_szAnswer.F ln wI
 obtain⟨hwf,p1,p2⟩:=h
 have w3:a0.2.2.2.length≤9223372036854775807:=hwf.2.2.2
 simp only [forall_eq,true_and,and_true,caseB_iff,Prod.mk.injEq,decide_eq_true_eq,decide_eq_false_iff_not,Bool.not_eq_true',Bool.not_eq_false',bne_iff_ne,ne_eq,beq_iff_eq,Bool.not_true,Bool.not_false,beq_eq_false_iff_ne,bne_eq_false_iff_eq,List.length_append,List.length_cons,List.length_nil,List.append_nil,Nat.zero_add,decide_true,decide_false,eq_self_iff_true,n_Answer,fSz_Answer]
 repeat' (with_reducible (first | (refine And.intro ?_ ?_) | intro _))
 all_goals (try simp (disch:=omega) only [w64,wu8,tn0,tn1,tm1,tm2,List.length_append,List.length_cons,List.length_nil] at*)
 all_goals (try simp (disch:=omega) only [w64,wu8,tn0,tn1,tm1,tm2,List.length_append,List.length_cons,List.length_nil] at*)
 all_goals (try omega)
 all_goals (try grind [fSz])
set_option maxRecDepth 100000 in
theorem laws_szAnswer.eq:EqS c_laws_szAnswer Tryz.f184 [3] [] [] noL (fun i x=>laws_szAnswer.F x.1 x.2):=by intro i x;kernel_rfl
theorem laws_szAnswer.ok:ConOk Tryz.prog 184 c_laws_szAnswer:=okOf laws_szAnswer.eq Tryz.func184 rfl (by kernel_rfl) fun i x h hi hw=>laws_szAnswer.pure x.1 x.2 h hw
def laws_szAnswer.e:GE:=⟨184,c_laws_szAnswer,⟨_,Tryz.func184,rfl,rfl⟩,laws_szAnswer.ok⟩
def pTo_Answer (x:U13q):Prop:=n_Answer x≤1048576
def fTo_Answer (x:U13q):U13q:=x
def c_laws_toAnswer:Con:={A:=T12q,shA:=[.agg 4],R:=T12q,shR:=[(true,4)],pre:=fun _ a=>(pTo_Answer a),f:=some fun _ a=>((fTo_Answer a),((),()))}
def laws_toAnswer.F (a0:U13q):Prop:=(Eq ((a0.1,(a0.2.1,(a0.2.2.1,a0.2.2.2))),((),())) ((fTo_Answer a0),((),())))
theorem laws_toAnswer.pure (a0:U13q) (h:(pTo_Answer a0)) (hw:Wf c_laws_toAnswer.A a0):laws_toAnswer.F a0:=by
 unfold laws_toAnswer.F
 have hp:n_Answer a0≤1048576:=h
 simp only [n_Answer] at hp
 simp only [forall_eq,true_and,and_true,caseB_iff,Prod.mk.injEq,decide_eq_true_eq,decide_eq_false_iff_not,Bool.not_eq_true',Bool.not_eq_false',bne_iff_ne,ne_eq,beq_iff_eq,Bool.not_true,Bool.not_false,beq_eq_false_iff_ne,bne_eq_false_iff_eq,List.length_append,List.length_cons,List.length_nil,List.append_nil,Nat.zero_add,decide_true,decide_false,eq_self_iff_true,n_Answer,fTo_Answer,pTo_Answer]
 repeat' (with_reducible (first | (refine And.intro ?_ ?_) | intro _))
 all_goals (try simp (disch:=omega) only [w64,wu8,tn0,tn1,tm1,tm2,List.length_append,List.length_cons,List.length_nil] at*)
 all_goals (try simp (disch:=omega) only [w64,wu8,tn0,tn1,tm1,tm2,List.length_append,List.length_cons,List.length_nil] at*)
 all_goals (try omega)
 all_goals (try grind [])
set_option maxRecDepth 100000 in
theorem laws_toAnswer.eq:EqS c_laws_toAnswer Tryz.f185 [108] [] [] noL (fun i x=>laws_toAnswer.F x):=by intro i x;kernel_rfl
theorem laws_toAnswer.ok:ConOk Tryz.prog 185 c_laws_toAnswer:=okOf laws_toAnswer.eq Tryz.func185 rfl (by kernel_rfl) fun i x h hi hw=>laws_toAnswer.pure x h hw
def laws_toAnswer.e:GE:=⟨185,c_laws_toAnswer,⟨_,Tryz.func185,rfl,rfl⟩,laws_toAnswer.ok⟩
instance dec_Answer:DecidableEq U13q:=by (iterate 20 (all_goals (first | infer_instance | refine @instDecidableEqProd _ _ ?_ ?_)))
def fEq_Answer (a b:U13q):Bool:=decide (a=b)
def c_laws_eqAnswer:Con:={A:=(.pair T12q T12q),shA:=[.agg 4,.agg 4],R:=.bool,shR:=[(false,1)],pre:=fun _ _=>True,f:=some fun _ a=>((fEq_Answer a.1 a.2),((),()))}
def laws_eqAnswer.F (a0:U13q) (a1:U13q):Prop:=(caseB (a0.1 !=a1.1) (Eq (false,((),())) ((fEq_Answer a0 a1),((),()))) (caseB (a0.2.1 !=a1.2.1) (Eq (false,((),())) ((fEq_Answer a0 a1),((),()))) (caseB (a0.2.2.1 !=a1.2.2.1) (Eq (false,((),())) ((fEq_Answer a0 a1),((),()))) (caseB (!(a0.2.2.2==a1.2.2.2)) (Eq (false,((),())) ((fEq_Answer a0 a1),((),()))) (Eq (true,((),())) ((fEq_Answer a0 a1),((),())))))))
theorem laws_eqAnswer.pure (a0:U13q) (a1:U13q) (h:True) (hw:Wf c_laws_eqAnswer.A (a0,a1)):laws_eqAnswer.F a0 a1:=by
 unfold laws_eqAnswer.F
 obtain⟨x1,x2,x3,x4⟩:=a0
 obtain⟨y1,y2,y3,y4⟩:=a1
 simp only [forall_eq,true_and,and_true,caseB_iff,Prod.mk.injEq,decide_eq_true_eq,decide_eq_false_iff_not,Bool.not_eq_true',Bool.not_eq_false',bne_iff_ne,ne_eq,beq_iff_eq,Bool.not_true,Bool.not_false,beq_eq_false_iff_ne,bne_eq_false_iff_eq,List.length_append,List.length_cons,List.length_nil,List.append_nil,Nat.zero_add,decide_true,decide_false,eq_self_iff_true,fEq_Answer]
 repeat' (first | (refine And.intro ?_ ?_) | intro _)
 all_goals simp_all
set_option maxRecDepth 100000 in
theorem laws_eqAnswer.eq:EqS c_laws_eqAnswer Tryz.f186 [4] [] [] noL (fun i x=>laws_eqAnswer.F x.1 x.2):=by intro i x;kernel_rfl
theorem laws_eqAnswer.ok:ConOk Tryz.prog 186 c_laws_eqAnswer:=okOf laws_eqAnswer.eq Tryz.func186 rfl (by kernel_rfl) fun i x h hi hw=>laws_eqAnswer.pure x.1 x.2 h hw
def laws_eqAnswer.e:GE:=⟨186,c_laws_eqAnswer,⟨_,Tryz.func186,rfl,rfl⟩,laws_eqAnswer.ok⟩
end Go.Proofs.YtnoapekdbmpiaaaGreat.B
