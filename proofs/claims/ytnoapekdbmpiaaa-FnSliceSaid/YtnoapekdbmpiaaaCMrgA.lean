/- Points sliced;the place of a point. -/
import Derived.Test.YtnoapekdbmpiaaaCMrg
namespace Go.Proofs.Ytnoapekdbmpiaaa.B
set_option linter.unusedVariables false
set_option linter.unusedSimpArgs false
open Go Go.Proofs.Ytnoapekdbmpiaaa.Bv
def pLenP (l:List Pt):Prop:=l.length≤1099511627776
def fIdP (l:List Pt):List Pt:=l
structure bsI (l:List Pt) (t:Int) (u:Unit) (i j:Int):Prop where
 h1:0≤i
 h2:i≤j
 h3:j≤l.length
 h4:∀k,k<i.toNat→ltI (l.getD k (0,0)).1 t=true
 h5:∀k,j.toNat≤k→k<l.length→ltI (l.getD k (0,0)).1 t=false
def bsM (l:List Pt) (t:Int) (u:Unit) (i j:Int):Nat:=(j - i).toNat
def c_slices_Clone_impl_Point_impl_Point:Con:={A:=(.list (.pair (.int .i64) (.int .i64))),shA:=[.one],R:=(.list (.pair (.int .i64) (.int .i64))),shR:=[(false,1)],fresh:=[(0,38)],pre:=fun _ a=>(pLenP a),f:=some fun _ a=>((fIdP a),((),()))}
def slices_Clone_impl_Point_impl_Point.F (a0:(List (Int×Int))):Prop:=(∀(b1:Bool),(b1=true→a0=[])→(caseB b1 (Eq (([]:(List (Int×Int))),((),())) ((fIdP a0),((),()))) (List.length ([]:List (Int×Int))+List.length a0≤9223372036854775807∧((List.length ([]:List (Int×Int))+List.length a0)*16≤140737488355328∧(Eq ((([]:List (Int×Int))++a0),((),())) ((fIdP a0),((),())))))))
theorem slices_Clone_impl_Point_impl_Point.pure (a0:(List (Int×Int))) (h:(pLenP a0)) (hw:Wf c_slices_Clone_impl_Point_impl_Point.A a0):slices_Clone_impl_Point_impl_Point.F a0:=by
 unfold slices_Clone_impl_Point_impl_Point.F
 have hp:a0.length≤1099511627776:=h
 simp only [forall_eq,true_and,and_true,caseB_iff,Prod.mk.injEq,decide_eq_true_eq,decide_eq_false_iff_not,Bool.not_eq_true',Bool.not_eq_false',bne_iff_ne,ne_eq,beq_iff_eq,Bool.not_true,Bool.not_false,beq_eq_false_iff_ne,bne_eq_false_iff_eq,List.length_append,List.length_cons,List.length_nil,List.append_nil,Nat.zero_add,decide_true,decide_false,eq_self_iff_true,fIdP,pLenP]
 repeat' (with_reducible (first | (refine And.intro ?_ ?_) | intro _))
 all_goals (try simp (disch:=omega) only [w64,wu8,tn0,tn1,tm1,tm2,List.length_append,List.length_cons,List.length_nil] at*)
 all_goals (try simp (disch:=omega) only [w64,wu8,tn0,tn1,tm1,tm2,List.length_append,List.length_cons,List.length_nil] at*)
 all_goals (try omega)
 all_goals (try grind [])
 all_goals (try simp_all)
set_option maxRecDepth 100000 in
theorem slices_Clone_impl_Point_impl_Point.eq:EqS c_slices_Clone_impl_Point_impl_Point Try.f102 [22] [] [] noL (fun i x=>slices_Clone_impl_Point_impl_Point.F x):=by intro i x;kernel_rfl
theorem slices_Clone_impl_Point_impl_Point.ok:ConOk Try.prog 102 c_slices_Clone_impl_Point_impl_Point:=okOf slices_Clone_impl_Point_impl_Point.eq Try.func102 rfl (by kernel_rfl) fun i x h hi hw=>slices_Clone_impl_Point_impl_Point.pure x h hw
def slices_Clone_impl_Point_impl_Point.e:GE:=⟨102,c_slices_Clone_impl_Point_impl_Point,⟨_,Try.func102,rfl,rfl⟩,slices_Clone_impl_Point_impl_Point.ok⟩
def slices_BinarySearchFunc_impl_Point_impl_Point_int.L (a0:(List (Int×Int))) (a1:Int) (a2:Unit):Nat→Option LoopAnn:=fun p=>Go.Proofs.Ytnoapekdbmpiaaa.Bv.look p [(60,{kp:={hold:=[0,1,2,8],slots:=[9,10],boxes:=[],rows:=[]},T:=(.pair (.int .i64) (.int .i64)),I:=fun st y=>bsI a0 a1 a2 y.1 y.2,μ:=fun st y=>bsM a0 a1 a2 y.1 y.2})]
end Go.Proofs.Ytnoapekdbmpiaaa.B
