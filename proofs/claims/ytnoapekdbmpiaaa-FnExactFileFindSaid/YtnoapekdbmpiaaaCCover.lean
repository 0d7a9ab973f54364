/- What a stretch of time covers. -/
import Derived.Test.YtnoapekdbmpiaaaCLib
namespace Go.Proofs.Ytnoapekdbmpiaaa.B
set_option linter.unusedVariables false
set_option linter.unusedSimpArgs false
open Go Go.Proofs.Ytnoapekdbmpiaaa.Bv
def fIn (a l h:Int):Bool:=decide (l≤a)&&decide (a≤h)
def upFrom (a:Int) (n:Nat):List Int:=(List.range n).map fun (j:Nat)=>a+(j:Int)
def covI (a b k:Int) (out:List Int):Prop:=0≤a∧a<b∧b≤1099511627776∧(b - 1) / 100 - a / 100<8∧a / 100≤k∧k≤(b - 1) / 100+1∧out=upFrom (a / 100) (k - a / 100).toNat
def covM (a b k:Int) (out:List Int):Nat:=((b - 1) / 100+1 - k).toNat
def c_spec_l1In:Con:={A:=(.pair (.int .i64) (.pair (.int .i64) (.int .i64))),shA:=[.one,.one,.one],R:=.bool,shR:=[(false,1)],pre:=fun _ _=>True,f:=some fun _ a=>((fIn a.1 a.2.1 a.2.2),((),()))}
def spec_l1In.F (a0:Int) (a1:Int) (a2:Int):Prop:=(caseB (decide (a0≥a1)) (Eq ((decide (a0≤a2)),((),())) ((fIn a0 a1 a2),((),()))) (Eq (false,((),())) ((fIn a0 a1 a2),((),()))))
theorem spec_l1In.pure (a0:Int) (a1:Int) (a2:Int) (h:True) (hw:Wf c_spec_l1In.A (a0,a1,a2)):spec_l1In.F a0 a1 a2:=by
 unfold spec_l1In.F fIn
 simp only [caseB_iff,and_true,decide_eq_true_eq,decide_eq_false_iff_not,Prod.mk.injEq]
 exact⟨fun h=>by simp [h],fun h=>by simp [h]⟩
set_option maxRecDepth 100000 in
theorem spec_l1In.eq:EqS c_spec_l1In Try.f53 [4] [] [] noL (fun i x=>spec_l1In.F x.1 x.2.1 x.2.2):=by intro i x;kernel_rfl
theorem spec_l1In.ok:ConOk Try.prog 53 c_spec_l1In:=okOf spec_l1In.eq Try.func53 rfl (by kernel_rfl) fun i x h hi hw=>spec_l1In.pure x.1 x.2.1 x.2.2 h hw
def spec_l1In.e:GE:=⟨53,c_spec_l1In,⟨_,Try.func53,rfl,rfl⟩,spec_l1In.ok⟩
def c_impl_from:Con:={A:=(.pair (.int .i64) (.pair (.int .i64) (.int .i64))),shA:=[.one,.one,.one],R:=.bool,shR:=[(false,1)],pre:=fun _ _=>True,f:=some fun _ a=>((fIn a.1 a.2.1 a.2.2),((),()))}
def impl_from.F (a0:Int) (a1:Int) (a2:Int):Prop:=(caseB (decide (a0≥a1)) (Eq ((decide (a0≤a2)),((),())) ((fIn a0 a1 a2),((),()))) (Eq (false,((),())) ((fIn a0 a1 a2),((),()))))
theorem impl_from.pure (a0:Int) (a1:Int) (a2:Int) (h:True) (hw:Wf c_impl_from.A (a0,a1,a2)):impl_from.F a0 a1 a2:=by
 unfold impl_from.F fIn
 simp only [caseB_iff,and_true,decide_eq_true_eq,decide_eq_false_iff_not,Prod.mk.injEq]
 exact⟨fun h=>by simp [h],fun h=>by simp [h]⟩
set_option maxRecDepth 100000 in
theorem impl_from.eq:EqS c_impl_from Try.f58 [4] [] [] noL (fun i x=>impl_from.F x.1 x.2.1 x.2.2):=by intro i x;kernel_rfl
theorem impl_from.ok:ConOk Try.prog 58 c_impl_from:=okOf impl_from.eq Try.func58 rfl (by kernel_rfl) fun i x h hi hw=>impl_from.pure x.1 x.2.1 x.2.2 h hw
def impl_from.e:GE:=⟨58,c_impl_from,⟨_,Try.func58,rfl,rfl⟩,impl_from.ok⟩
def impl_Cover.L (a0:Int) (a1:Int):Nat→Option LoopAnn:=fun p=>Go.Proofs.Ytnoapekdbmpiaaa.Bv.look p [(506,{kp:={hold:=[6],slots:=[7,8],boxes:=[],rows:=[{bx:=false,s:=7,i:=0,k:=1000899,e:=3,hot:=true}]},T:=(.pair (.int .i64) (.list (.int .i64))),I:=fun st y=>covI a0 a1 y.1 y.2,μ:=fun st y=>covM a0 a1 y.1 y.2})]
end Go.Proofs.Ytnoapekdbmpiaaa.B
