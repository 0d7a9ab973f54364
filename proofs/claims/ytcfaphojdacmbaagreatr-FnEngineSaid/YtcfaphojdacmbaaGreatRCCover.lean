/- What a stretch of time covers. -/
import Derived.Test.YtcfaphojdacmbaaGreatRCLib
set_option maxRecDepth 100000
set_option linter.unusedVariables false
set_option linter.unusedSimpArgs false
namespace Go.Proofs.YtcfaphojdacmbaaGreatR.B
open Go Go.Proofs.YtcfaphojdacmbaaGreatR.Bv
def fIn(a l h:Int):Bool:=decide (l≤a)&&decide (a≤h)
def XrK(a:Int)(n:Nat):List Int:=(List.range n).map fun(j:Nat)=>a+(j:Int)
def covI(a b k:Int)(out:List Int):Prop:=0≤a∧a<b∧b≤1099511627776∧(b - 1) / 100 - a / 100<8∧a / 100≤k∧k≤(b - 1) / 100+1∧out=XrK (a / 100) (k - a / 100).toNat
def covM(a b k:Int)(out:List Int):Nat:=((b - 1) / 100+1 - k).toNat
def X9y:Con:={A:=(.pair (.int .i64) T0q),shA:=[.one,.one,.one],R:=.bool,shR:=[(false,1)],pre:=fun _ _=>True,f:=some fun _ a=>((fIn a.1 a.2.1 a.2.2),((),()))}
def X2a.F(a0:Int)(a1:Int)(a2:Int):Prop:=(X00 (decide (a0≥a1)) (Eq ((decide (a0≤a2)),((),())) ((fIn a0 a1 a2),((),()))) (Eq (false,((),())) ((fIn a0 a1 a2),((),()))))
theorem X2a.pure(a0:Int)(a1:Int)(a2:Int)(h:True)(hw:Wf X9y.A (a0,a1,a2)):X2a.F a0 a1 a2:=by
 unfold X2a.F fIn
 simp only[X01,and_true,decide_eq_true_eq,decide_eq_false_iff_not,Prod.mk.injEq]
 exact⟨fun h=>by simp[h],fun h=>by simp[h]⟩
theorem X2a.eq:EqS X9y Tryz.f49 [4] [] [] noL (fun i x=>X2a.F x.1 x.2.1 x.2.2):=by intro i x;kernel_rfl
theorem X2a.ok:X0l Tryz.prog 49 X9y:=X2b X2a.eq Tryz.func49 rfl (by kernel_rfl) fun i x h hi hw=>X2a.pure x.1 x.2.1 x.2.2 h hw
def X2a.e:GE:=⟨49,X9y,⟨_,Tryz.func49,rfl,rfl⟩,X2a.ok⟩
def X9E:Con:={A:=(.pair (.int .i64) T0q),shA:=[.one,.one,.one],R:=.bool,shR:=[(false,1)],pre:=fun _ _=>True,f:=some fun _ a=>((fIn a.1 a.2.1 a.2.2),((),()))}
def X1H.F(a0:Int)(a1:Int)(a2:Int):Prop:=(X00 (decide (a0≥a1)) (Eq ((decide (a0≤a2)),((),())) ((fIn a0 a1 a2),((),()))) (Eq (false,((),())) ((fIn a0 a1 a2),((),()))))
theorem X1H.pure(a0:Int)(a1:Int)(a2:Int)(h:True)(hw:Wf X9E.A (a0,a1,a2)):X1H.F a0 a1 a2:=by
 unfold X1H.F fIn
 simp only[X01,and_true,decide_eq_true_eq,decide_eq_false_iff_not,Prod.mk.injEq]
 exact⟨fun h=>by simp[h],fun h=>by simp[h]⟩
theorem X1H.eq:EqS X9E Tryz.f114 [4] [] [] noL (fun i x=>X1H.F x.1 x.2.1 x.2.2):=by intro i x;kernel_rfl
theorem X1H.ok:X0l Tryz.prog 114 X9E:=X2b X1H.eq Tryz.func114 rfl (by kernel_rfl) fun i x h hi hw=>X1H.pure x.1 x.2.1 x.2.2 h hw
def X1H.e:GE:=⟨114,X9E,⟨_,Tryz.func114,rfl,rfl⟩,X1H.ok⟩
def Xqp.L(a0:Int)(a1:Int):Nat→Option X0d:=fun p=>Go.Proofs.YtcfaphojdacmbaaGreatR.Bv.look p [(1018,{kp:={hold:=[7],slots:=[5,8],boxes:=[],rows:=[{bx:=false,s:=5,i:=0,k:=1000643,e:=3,hot:=true}]},T:=(.pair (.int .i64) Xc7),I:=fun st y=>covI a0 a1 y.1 y.2,μ:=fun st y=>covM a0 a1 y.1 y.2})]
def Xqw.L(a0:Int)(a1:Int):Nat→Option X0d:=fun p=>Go.Proofs.YtcfaphojdacmbaaGreatR.Bv.look p [(506,{kp:={hold:=[6],slots:=[7,8],boxes:=[],rows:=[{bx:=false,s:=7,i:=0,k:=1000899,e:=3,hot:=true}]},T:=(.pair (.int .i64) Xc7),I:=fun st y=>covI a0 a1 y.1 y.2,μ:=fun st y=>covM a0 a1 y.1 y.2})]
end Go.Proofs.YtcfaphojdacmbaaGreatR.B
