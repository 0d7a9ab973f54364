/- What a stretch of time covers. -/
import Derived.Test.YtcfaphojdacmbaaGreatRCLib
set_option maxRecDepth 100000
set_option linter.unusedVariables false
set_option linter.unusedSimpArgs false
namespace Go.Proofs.YtcfaphojdacmbaaGreatR.B
open Go Go.Proofs.YtcfaphojdacmbaaGreatR.Bv
def fIn(a l h:Int):Bool:=decide (l≤a)&&decide (a≤h)
def Xr1(a:Int)(n:Nat):List Int:=(List.range n).map fun(j:Nat)=>a+(j:Int)
def covI(a b k:Int)(out:List Int):Prop:=0≤a∧a<b∧b≤1099511627776∧(b - 1) / 100 - a / 100<8∧a / 100≤k∧k≤(b - 1) / 100+1∧out=Xr1 (a / 100) (k - a / 100).toNat
def covM(a b k:Int)(out:List Int):Nat:=((b - 1) / 100+1 - k).toNat
def X9k:Con:={A:=(.pair (.int .i64) T0q),shA:=[.one,.one,.one],R:=.bool,shR:=[(false,1)],pre:=fun _ _=>True,f:=some fun _ a=>((fIn a.1 a.2.1 a.2.2),((),()))}
def X27.F(a0:Int)(a1:Int)(a2:Int):Prop:=(X00 (decide (a0≥a1)) (Eq ((decide (a0≤a2)),((),())) ((fIn a0 a1 a2),((),()))) (Eq (false,((),())) ((fIn a0 a1 a2),((),()))))
theorem X27.pure(a0:Int)(a1:Int)(a2:Int)(h:True)(hw:Wf X9k.A (a0,a1,a2)):X27.F a0 a1 a2:=by
 unfold X27.F fIn
 simp only[X01,and_true,decide_eq_true_eq,decide_eq_false_iff_not,Prod.mk.injEq]
 exact⟨fun h=>by simp[h],fun h=>by simp[h]⟩
theorem X27.eq:EqS X9k Tryz.f49 [4] [] [] noL (fun i x=>X27.F x.1 x.2.1 x.2.2):=by intro i x;kernel_rfl
theorem X27.ok:X0l Tryz.prog 49 X9k:=X2d X27.eq Tryz.func49 rfl (by kernel_rfl) fun i x h hi hw=>X27.pure x.1 x.2.1 x.2.2 h hw
def X27.e:GE:=⟨49,X9k,⟨_,Tryz.func49,rfl,rfl⟩,X27.ok⟩
def X9u:Con:={A:=(.pair (.int .i64) T0q),shA:=[.one,.one,.one],R:=.bool,shR:=[(false,1)],pre:=fun _ _=>True,f:=some fun _ a=>((fIn a.1 a.2.1 a.2.2),((),()))}
def X1K.F(a0:Int)(a1:Int)(a2:Int):Prop:=(X00 (decide (a0≥a1)) (Eq ((decide (a0≤a2)),((),())) ((fIn a0 a1 a2),((),()))) (Eq (false,((),())) ((fIn a0 a1 a2),((),()))))
theorem X1K.pure(a0:Int)(a1:Int)(a2:Int)(h:True)(hw:Wf X9u.A (a0,a1,a2)):X1K.F a0 a1 a2:=by
 unfold X1K.F fIn
 simp only[X01,and_true,decide_eq_true_eq,decide_eq_false_iff_not,Prod.mk.injEq]
 exact⟨fun h=>by simp[h],fun h=>by simp[h]⟩
theorem X1K.eq:EqS X9u Tryz.f114 [4] [] [] noL (fun i x=>X1K.F x.1 x.2.1 x.2.2):=by intro i x;kernel_rfl
theorem X1K.ok:X0l Tryz.prog 114 X9u:=X2d X1K.eq Tryz.func114 rfl (by kernel_rfl) fun i x h hi hw=>X1K.pure x.1 x.2.1 x.2.2 h hw
def X1K.e:GE:=⟨114,X9u,⟨_,Tryz.func114,rfl,rfl⟩,X1K.ok⟩
def Xq4.L(a0:Int)(a1:Int):Nat→Option X0d:=fun p=>Go.Proofs.YtcfaphojdacmbaaGreatR.Bv.look p [(1018,{kp:={hold:=[7],slots:=[5,8],boxes:=[],rows:=[{bx:=false,s:=5,i:=0,k:=1000643,e:=3,hot:=true}]},T:=(.pair (.int .i64) XbW),I:=fun st y=>covI a0 a1 y.1 y.2,μ:=fun st y=>covM a0 a1 y.1 y.2})]
def Xqc.L(a0:Int)(a1:Int):Nat→Option X0d:=fun p=>Go.Proofs.YtcfaphojdacmbaaGreatR.Bv.look p [(506,{kp:={hold:=[6],slots:=[7,8],boxes:=[],rows:=[{bx:=false,s:=7,i:=0,k:=1000899,e:=3,hot:=true}]},T:=(.pair (.int .i64) XbW),I:=fun st y=>covI a0 a1 y.1 y.2,μ:=fun st y=>covM a0 a1 y.1 y.2})]
end Go.Proofs.YtcfaphojdacmbaaGreatR.B
