/- What a stretch of time covers. -/
import Derived.Test.YtcfaphojdacmbaaGreatRCLib
set_option maxRecDepth 100000
set_option linter.unusedVariables false
set_option linter.unusedSimpArgs false
namespace Go.Proofs.YtcfaphojdacmbaaGreatR.B
open Go Go.Proofs.YtcfaphojdacmbaaGreatR.Bv
def fIn(a l h:Int):Bool:=decide (l≤a)&&decide (a≤h)
def X8S(t:Int):Int:=if fIn t 0 1099511627776 then t / 100 else -1
def Xs7(a:Int)(n:Nat):List Int:=(List.range n).map fun(j:Nat)=>a+(j:Int)
def covI(a b k:Int)(out:List Int):Prop:=0≤a∧a<b∧b≤1099511627776∧(b - 1) / 100 - a / 100<8∧a / 100≤k∧k≤(b - 1) / 100+1∧out=Xs7 (a / 100) (k - a / 100).toNat
def covM(a b k:Int)(out:List Int):Nat:=((b - 1) / 100+1 - k).toNat
def Xan:Con:={A:=(.pair (.int .i64) T0q),shA:=[.one,.one,.one],R:=.bool,shR:=[(false,1)],pre:=fun _ _=>True,f:=some fun _ a=>((fIn a.1 a.2.1 a.2.2),((),()))}
def X1N.F(a0:Int)(a1:Int)(a2:Int):Prop:=(X00 (decide (a0≥a1)) (Eq ((decide (a0≤a2)),((),())) ((fIn a0 a1 a2),((),()))) (Eq (false,((),())) ((fIn a0 a1 a2),((),()))))
theorem X1N.pure(a0:Int)(a1:Int)(a2:Int)(h:True)(hw:Wf Xan.A (a0,a1,a2)):X1N.F a0 a1 a2:=by
 unfold X1N.F fIn
 simp only[X01,and_true,decide_eq_true_eq,decide_eq_false_iff_not,Prod.mk.injEq]
 exact⟨fun h=>by simp[h],fun h=>by simp[h]⟩
theorem X1N.eq:EqS Xan Tryz.f49 [4] [] [] noL (fun i x=>X1N.F x.1 x.2.1 x.2.2):=by intro i x;kernel_rfl
theorem X1N.ok:X0k Tryz.prog 49 Xan:=X1Z X1N.eq Tryz.func49 rfl (by kernel_rfl) fun i x h hi hw=>X1N.pure x.1 x.2.1 x.2.2 h hw
def X1N.e:GE:=⟨49,Xan,⟨_,Tryz.func49,rfl,rfl⟩,X1N.ok⟩
def Xam:Con:={A:=(.pair (.int .i64) T0q),shA:=[.one,.one,.one],R:=.bool,shR:=[(false,1)],pre:=fun _ _=>True,f:=some fun _ a=>((fIn a.1 a.2.1 a.2.2),((),()))}
def X0K.F(a0:Int)(a1:Int)(a2:Int):Prop:=(X00 (decide (a0≥a1)) (Eq ((decide (a0≤a2)),((),())) ((fIn a0 a1 a2),((),()))) (Eq (false,((),())) ((fIn a0 a1 a2),((),()))))
theorem X0K.pure(a0:Int)(a1:Int)(a2:Int)(h:True)(hw:Wf Xam.A (a0,a1,a2)):X0K.F a0 a1 a2:=by
 unfold X0K.F fIn
 simp only[X01,and_true,decide_eq_true_eq,decide_eq_false_iff_not,Prod.mk.injEq]
 exact⟨fun h=>by simp[h],fun h=>by simp[h]⟩
theorem X0K.eq:EqS Xam Tryz.f114 [4] [] [] noL (fun i x=>X0K.F x.1 x.2.1 x.2.2):=by intro i x;kernel_rfl
theorem X0K.ok:X0k Tryz.prog 114 Xam:=X1Z X0K.eq Tryz.func114 rfl (by kernel_rfl) fun i x h hi hw=>X0K.pure x.1 x.2.1 x.2.2 h hw
def X0K.e:GE:=⟨114,Xam,⟨_,Tryz.func114,rfl,rfl⟩,X0K.ok⟩
def X7w:Con:={A:=(.int .i64),shA:=[.one],R:=(.int .i64),shR:=[(false,1)],pre:=fun _ _=>True,f:=some fun _ a=>((X8S a),((),()))}
def X31.F(a0:Int):Prop:=(True∧∀r1,(Eq r1 ((fIn a0 0 1099511627776),((),())))→(X00 (!r1.1) (Eq ((-1),((),())) ((X8S a0),((),()))) ((100:Int)≠0∧(Eq ((wI (Int.tdiv a0 (100:Int))),((),())) ((X8S a0),((),()))))))
theorem X31.pure(a0:Int)(h:True)(hw:Wf X7w.A a0):X31.F a0:=by
 unfold X31.F X8S
 simp only[forall_eq,true_and,and_true,X01,Prod.mk.injEq,Bool.not_eq_true',Bool.not_eq_false']
 refine⟨fun h1=>by simp[h1],fun h1=>⟨by omega,?_⟩⟩
 have h2:=h1
 simp only[fIn,Bool.and_eq_true,decide_eq_true_eq]at h2
 rw[if_pos h1,Int.tdiv_eq_ediv_of_nonneg h2.1]
 exact Go.IntWalk.i64_in _ (by omega)
theorem X31.eq:EqS X7w Tryz.f52 [3] [X1N.e] [] noL (fun i x=>X31.F x):=by intro i x;kernel_rfl
theorem X31.ok:X0k Tryz.prog 52 X7w:=X1Z X31.eq Tryz.func52 rfl (by kernel_rfl) fun i x h hi hw=>X31.pure x h hw
def X31.e:GE:=⟨52,X7w,⟨_,Tryz.func52,rfl,rfl⟩,X31.ok⟩
def XrO.L(a0:Int)(a1:Int):Nat→Option X0e:=fun p=>Go.Proofs.YtcfaphojdacmbaaGreatR.Bv.look p [(1018,{kp:={hold:=[7],slots:=[5,8],boxes:=[],rows:=[{bx:=false,s:=5,i:=0,k:=1000643,e:=3,hot:=true}]},T:=(.pair (.int .i64) Xef),I:=fun st y=>covI a0 a1 y.1 y.2,μ:=fun st y=>covM a0 a1 y.1 y.2})]
def XrI.L(a0:Int)(a1:Int):Nat→Option X0e:=fun p=>Go.Proofs.YtcfaphojdacmbaaGreatR.Bv.look p [(506,{kp:={hold:=[6],slots:=[7,8],boxes:=[],rows:=[{bx:=false,s:=7,i:=0,k:=1000899,e:=3,hot:=true}]},T:=(.pair (.int .i64) Xef),I:=fun st y=>covI a0 a1 y.1 y.2,μ:=fun st y=>covM a0 a1 y.1 y.2})]
end Go.Proofs.YtcfaphojdacmbaaGreatR.B
