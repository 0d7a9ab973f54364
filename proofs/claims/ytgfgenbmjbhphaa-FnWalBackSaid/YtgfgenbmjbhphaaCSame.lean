/- Points compared;sliced. -/
import Derived.Test.YtgfgenbmjbhphaaCDraw
import Derived.Test.YtgfgenbmjbhphaaCPts
namespace Go.Proofs.Ytgfgenbmjbhphaa.B
set_option linter.unusedVariables false
set_option linter.unusedSimpArgs false
open Go Go.Proofs.Ytgfgenbmjbhphaa.Bv
def fBig (code:List Int):Bool:=decide (1048576<code.length)
def c_laws_big:Con:={A:=(.list (.int .u8)),shA:=[.one],R:=.bool,shR:=[(false,1)],pre:=fun _ _=>True,f:=some fun _ a=>((fBig a),((),()))}
def laws_big.F (a0:(List Int)):Prop:=(Eq ((decide ((ln a0)>(1048576:Int))),((),())) ((fBig a0),((),())))
theorem laws_big.pure (a0:(List Int)) (h:True) (hw:Wf c_laws_big.A a0):laws_big.F a0:=by
 delta laws_big.F ln
 simp only [forall_eq,true_and,and_true,caseB_iff,Prod.mk.injEq,decide_eq_true_eq,decide_eq_false_iff_not,Bool.not_eq_true',Bool.not_eq_false',bne_iff_ne,ne_eq,beq_iff_eq,Bool.not_true,Bool.not_false,beq_eq_false_iff_ne,bne_eq_false_iff_eq,List.length_append,List.length_cons,List.length_nil,List.append_nil,Nat.zero_add,decide_true,decide_false,eq_self_iff_true]
 repeat' (with_reducible (first | (refine And.intro ?_ ?_) | intro _))
 all_goals (try simp (disch:=omega) only [w64,wu8,tn0,tn1,tm1,tm2,List.length_append,List.length_cons,List.length_nil] at*)
 all_goals (try simp (disch:=omega) only [w64,wu8,tn0,tn1,tm1,tm2,List.length_append,List.length_cons,List.length_nil] at*)
 all_goals (try omega)
 all_goals (try grind [fBig])
set_option maxRecDepth 100000 in
theorem laws_big.eq:EqS c_laws_big Try.f5 [4] [] [] noL (fun i x=>laws_big.F x):=by intro i x;kernel_rfl
theorem laws_big.ok:ConOk Try.prog 5 c_laws_big:=okOf laws_big.eq Try.func5 rfl (by kernel_rfl) fun i x h hi hw=>laws_big.pure x h hw
def laws_big.e:GE:=⟨5,c_laws_big,⟨_,Try.func5,rfl,rfl⟩,laws_big.ok⟩
end Go.Proofs.Ytgfgenbmjbhphaa.B
