/- What a stretch of time covers. -/
import Derived.Test.YtgmafgmjbaoomaaGreatCLib
set_option maxRecDepth 100000
set_option linter.unusedVariables false
set_option linter.unusedSimpArgs false
namespace Go.Proofs.YtgmafgmjbaoomaaGreat.B
open Go Go.Proofs.YtgmafgmjbaoomaaGreat.Bv
def fIn(a l h:Int):Bool:=decide (l≤a)&&decide (a≤h)
def X31(t:Int):Int:=if fIn t 0 1099511627776 then t / 100 else -1
def X8r(a:Int)(n:Nat):List Int:=(List.range n).map fun(j:Nat)=>a+(j:Int)
theorem X9Y(a:Int)(n:Nat):(X8r a n).length=n:=by simp[X8r]
theorem Xg9(a:Int)(n:Nat):X8r a (n+1)=X8r a n++[a+(n:Int)]:=by simp[X8r,List.range_succ]
def X1z(a b:Int):List Int:=if a<0∨b≤a∨b>1099511627776∨(b - 1) / 100 - a / 100≥8 then [] else X8r (a / 100) ((b - 1) / 100 - a / 100+1).toNat
def Xjz(a b k:Int)(out:List Int):Prop:=0≤a∧a<b∧b≤1099511627776∧(b - 1) / 100 - a / 100<8∧a / 100≤k∧k≤(b - 1) / 100+1∧out=X8r (a / 100) (k - a / 100).toNat
def XlB(a b k:Int)(out:List Int):Nat:=((b - 1) / 100+1 - k).toNat
theorem Xhw{a b k:Int}{out:List Int}(h:Xjz a b k out)(hk:k≤(b - 1) / 100):
 out.length≤8∧IntKind.wrap .i64 (k+1)=k+1∧Xjz a b (k+1) (out++[k])∧XlB a b (k+1) (out++[k])<XlB a b k out:=by
 obtain⟨h1,h2,h3,h4,h5,h6,h7⟩:=h
 refine⟨by rw[h7,X9Y];omega,Go.IntWalk.i64_in _ (by omega),⟨h1,h2,h3,h4,by omega,by omega,?_⟩,by unfold XlB;omega⟩
 have e:(k+1 - a / 100).toNat=(k - a / 100).toNat+1:=by omega
 rw[e,Xg9,h7]
 congr 2
 omega
theorem Xjx{a b k:Int}{out:List Int}(h:Xjz a b k out)(hk:¬k≤(b - 1) / 100):out=X1z a b:=by
 obtain⟨h1,h2,h3,h4,h5,h6,h7⟩:=h
 unfold X1z
 rw[if_neg (by omega),h7]
 congr 2
 omega
def X7J:Con:={A:=(.pair (.int .i64) T0q),shA:=[.one,.one,.one],R:=.bool,shR:=[(false,1)],pre:=fun _ _=>True,f:=some fun _ a=>((fIn a.1 a.2.1 a.2.2),((),()))}
def X1j.F(a0:Int)(a1:Int)(a2:Int):Prop:=(X00 (decide (a0≥a1)) (Eq ((decide (a0≤a2)),((),())) ((fIn a0 a1 a2),((),()))) (Eq (false,((),())) ((fIn a0 a1 a2),((),()))))
theorem X1j.pure(a0:Int)(a1:Int)(a2:Int)(h:True)(hw:Wf X7J.A (a0,a1,a2)):X1j.F a0 a1 a2:=by
 unfold X1j.F fIn
 simp only[X03,and_true,decide_eq_true_eq,decide_eq_false_iff_not,Prod.mk.injEq]
 exact⟨fun h=>by simp[h],fun h=>by simp[h]⟩
theorem X1j.eq:EqS X7J Tryz.f24 [4] [] [] noL (fun i x=>X1j.F x.1 x.2.1 x.2.2):=by intro i x;kernel_rfl
theorem X1j.ok:X0o Tryz.prog 24 X7J:=X2u X1j.eq Tryz.func24 rfl (by kernel_rfl) fun i x h hi hw=>X1j.pure x.1 x.2.1 x.2.2 h hw
def X1j.e:GE:=⟨24,X7J,⟨_,Tryz.func24,rfl,rfl⟩,X1j.ok⟩
def X7F:Con:={A:=(.pair (.int .i64) T0q),shA:=[.one,.one,.one],R:=.bool,shR:=[(false,1)],pre:=fun _ _=>True,f:=some fun _ a=>((fIn a.1 a.2.1 a.2.2),((),()))}
def X0A.F(a0:Int)(a1:Int)(a2:Int):Prop:=(X00 (decide (a0≥a1)) (Eq ((decide (a0≤a2)),((),())) ((fIn a0 a1 a2),((),()))) (Eq (false,((),())) ((fIn a0 a1 a2),((),()))))
theorem X0A.pure(a0:Int)(a1:Int)(a2:Int)(h:True)(hw:Wf X7F.A (a0,a1,a2)):X0A.F a0 a1 a2:=by
 unfold X0A.F fIn
 simp only[X03,and_true,decide_eq_true_eq,decide_eq_false_iff_not,Prod.mk.injEq]
 exact⟨fun h=>by simp[h],fun h=>by simp[h]⟩
theorem X0A.eq:EqS X7F Tryz.f48 [4] [] [] noL (fun i x=>X0A.F x.1 x.2.1 x.2.2):=by intro i x;kernel_rfl
theorem X0A.ok:X0o Tryz.prog 48 X7F:=X2u X0A.eq Tryz.func48 rfl (by kernel_rfl) fun i x h hi hw=>X0A.pure x.1 x.2.1 x.2.2 h hw
def X0A.e:GE:=⟨48,X7F,⟨_,Tryz.func48,rfl,rfl⟩,X0A.ok⟩
def X4W:Con:={A:=(.int .i64),shA:=[.one],R:=(.int .i64),shR:=[(false,1)],pre:=fun _ _=>True,f:=some fun _ a=>((X31 a),((),()))}
def X1E.F(a0:Int):Prop:=(True∧∀r1,(Eq r1 ((fIn a0 0 1099511627776),((),())))→(X00 (!r1.1) (Eq ((-1),((),())) ((X31 a0),((),()))) ((100:Int)≠0∧(Eq ((wI (Int.tdiv a0 (100:Int))),((),())) ((X31 a0),((),()))))))
theorem X1E.pure(a0:Int)(h:True)(hw:Wf X4W.A a0):X1E.F a0:=by
 unfold X1E.F X31
 simp only[forall_eq,true_and,and_true,X03,Prod.mk.injEq,Bool.not_eq_true',Bool.not_eq_false']
 refine⟨fun h1=>by simp[h1],fun h1=>⟨by omega,?_⟩⟩
 have h2:=h1
 simp only[fIn,Bool.and_eq_true,decide_eq_true_eq]at h2
 rw[if_pos h1,Int.tdiv_eq_ediv_of_nonneg h2.1]
 exact Go.IntWalk.i64_in _ (by omega)
theorem X1E.eq:EqS X4W Tryz.f27 [3] [X1j.e] [] noL (fun i x=>X1E.F x):=by intro i x;kernel_rfl
theorem X1E.ok:X0o Tryz.prog 27 X4W:=X2u X1E.eq Tryz.func27 rfl (by kernel_rfl) fun i x h hi hw=>X1E.pure x h hw
def X1E.e:GE:=⟨27,X4W,⟨_,Tryz.func27,rfl,rfl⟩,X1E.ok⟩
def X6r:Con:={A:=T0q,shA:=[.one,.one],R:=X8Z,shR:=[(false,1)],fresh:=[(0,3)],pre:=fun _ _=>True,f:=some fun _ a=>((X1z a.1 a.2),((),()))}
def X2H.F(a0:Int)(a1:Int):Prop:=(X00 (decide (a0<(0:Int))) (Eq (([]:(List Int)),((),())) ((X1z a0 a1),((),()))) (X00 (decide (a1≤a0)) (Eq (([]:(List Int)),((),())) ((X1z a0 a1),((),()))) (X00 (decide (a1>(1099511627776:Int))) (Eq (([]:(List Int)),((),())) ((X1z a0 a1),((),()))) (True∧∀r1,(Eq r1 ((X31 a0),((),())))→(True∧∀r2,(Eq r2 ((X31 (wI (a1 - (1:Int)))),((),())))→(X00 (decide ((wI (r2.1 - r1.1))≥(8:Int))) (Eq (([]:(List Int)),((),())) ((X1z a0 a1),((),()))) (eS [(7,.val false [.int .i64 r2.1])] [(7,.val false [.int .i64 r2.1])]∧((Xjz a0 a1 r1.1 ([]:List Int))∧∀(y3:(Int×(List Int))),(Xjz a0 a1 y3.1 y3.2)→(X00 (decide (y3.1≤r2.1)) (List.length y3.2+List.length [y3.1]≤9223372036854775807∧((List.length y3.2+List.length [y3.1])*8≤140737488355328∧(eS [(7,.val false [.int .i64 r2.1])] [(7,.val false [.int .i64 r2.1])]∧(Xjz a0 a1 (wI (y3.1+(1:Int))) (y3.2++[y3.1]))∧(XlB a0 a1 (wI (y3.1+(1:Int))) (y3.2++[y3.1]))<(XlB a0 a1 y3.1 y3.2)))) (Eq (y3.2,((),())) ((X1z a0 a1),((),()))))))))))))
def X2H.L(a0:Int)(a1:Int):Nat→Option X0a:=fun p=>Go.Proofs.YtgmafgmjbaoomaaGreat.Bv.look p [(1018,{kp:={hold:=[7],slots:=[5,8],boxes:=[],rows:=[{bx:=false,s:=5,i:=0,k:=1000643,e:=3,hot:=true}]},T:=(.pair (.int .i64) X8Z),I:=fun st y=>Xjz a0 a1 y.1 y.2,μ:=fun st y=>XlB a0 a1 y.1 y.2})]
theorem X2H.pure(a0:Int)(a1:Int)(h:True)(hw:Wf X6r.A (a0,a1)):X2H.F a0 a1:=by
 delta X2H.F wI eS
 simp only[forall_eq,true_and,and_true,X03,Prod.mk.injEq,decide_eq_true_eq,decide_eq_false_iff_not]
 refine⟨fun h1=>by simp[X1z,h1],fun h1=>⟨fun h2=>by simp[X1z,h2],fun h2=>⟨fun h3=>by simp[X1z,h3],fun h3=>?_⟩⟩⟩
 have e0:IntKind.wrap .i64 (a1 - 1)=a1 - 1:=Go.IntWalk.i64_in _ (by omega)
 have e1:X31 a0=a0 / 100:=by unfold X31 fIn;rw[if_pos (by simp;omega)]
 have e2:X31 (a1 - 1)=(a1 - 1) / 100:=by unfold X31 fIn;rw[if_pos (by simp;omega)]
 have e3:IntKind.wrap .i64 ((a1 - 1) / 100 - a0 / 100)=(a1 - 1) / 100 - a0 / 100:=Go.IntWalk.i64_in _ (by omega)
 simp only[e0,e1,e2,e3]
 refine⟨fun h4=>by unfold X1z;rw[if_pos (by omega)],fun h4=>⟨⟨by omega,by omega,by omega,by omega,by omega,by omega,by simp[X8r]⟩,?_⟩⟩
 rintro⟨k,out⟩ hI
 simp only at hI ⊢
 refine⟨fun hk=>?_,fun hk=>Xjx hI hk⟩
 obtain⟨h5,h6,h7,h8⟩:=Xhw hI hk
 rw[h6]
 exact⟨by simp;omega,by simp;omega,h7,h8⟩
theorem X2H.eq:EqS X6r Tryz.f107 [139] [X1E.e] [] (fun i x=>X2H.L x.1 x.2) (fun i x=>X2H.F x.1 x.2):=by intro i x;kernel_rfl
theorem X2H.ok:X0o Tryz.prog 107 X6r:=X2u X2H.eq Tryz.func107 rfl (by kernel_rfl) fun i x h hi hw=>X2H.pure x.1 x.2 h hw
def X2H.e:GE:=⟨107,X6r,⟨_,Tryz.func107,rfl,rfl⟩,X2H.ok⟩
def X6o:Con:={A:=T0q,shA:=[.one,.one],R:=X8Z,shR:=[(false,1)],fresh:=[(0,3)],pre:=fun _ _=>True,f:=some fun _ a=>((X1z a.1 a.2),((),()))}
def X2O.F(a0:Int)(a1:Int):Prop:=(X00 (decide (a0<(0:Int))) (Eq (([]:(List Int)),((),())) ((X1z a0 a1),((),()))) (X00 (decide (a1≤a0)) (Eq (([]:(List Int)),((),())) ((X1z a0 a1),((),()))) (X00 (decide (a1>(1099511627776:Int))) (Eq (([]:(List Int)),((),())) ((X1z a0 a1),((),()))) ((100:Int)≠0∧((100:Int)≠0∧(X00 (decide ((wI ((wI (Int.tdiv (wI (a1 - (1:Int))) (100:Int))) - (wI (Int.tdiv a0 (100:Int)))))≥(8:Int))) (Eq (([]:(List Int)),((),())) ((X1z a0 a1),((),()))) (eS [(6,.val false [.int .i64 (wI (Int.tdiv (wI (a1 - (1:Int))) (100:Int)))])] [(6,.val false [.int .i64 (wI (Int.tdiv (wI (a1 - (1:Int))) (100:Int)))])]∧((Xjz a0 a1 (wI (Int.tdiv a0 (100:Int))) ([]:List Int))∧∀(y1:(Int×(List Int))),(Xjz a0 a1 y1.1 y1.2)→(X00 (decide (y1.1≤(wI (Int.tdiv (wI (a1 - (1:Int))) (100:Int))))) (List.length y1.2+List.length [y1.1]≤9223372036854775807∧((List.length y1.2+List.length [y1.1])*8≤140737488355328∧(eS [(6,.val false [.int .i64 (wI (Int.tdiv (wI (a1 - (1:Int))) (100:Int)))])] [(6,.val false [.int .i64 (wI (Int.tdiv (wI (a1 - (1:Int))) (100:Int)))])]∧(Xjz a0 a1 (wI (y1.1+(1:Int))) (y1.2++[y1.1]))∧(XlB a0 a1 (wI (y1.1+(1:Int))) (y1.2++[y1.1]))<(XlB a0 a1 y1.1 y1.2)))) (Eq (y1.2,((),())) ((X1z a0 a1),((),()))))))))))))
def X2O.L(a0:Int)(a1:Int):Nat→Option X0a:=fun p=>Go.Proofs.YtgmafgmjbaoomaaGreat.Bv.look p [(506,{kp:={hold:=[6],slots:=[7,8],boxes:=[],rows:=[{bx:=false,s:=7,i:=0,k:=1000899,e:=3,hot:=true}]},T:=(.pair (.int .i64) X8Z),I:=fun st y=>Xjz a0 a1 y.1 y.2,μ:=fun st y=>XlB a0 a1 y.1 y.2})]
theorem X2O.pure(a0:Int)(a1:Int)(h:True)(hw:Wf X6o.A (a0,a1)):X2O.F a0 a1:=by
 delta X2O.F wI eS
 simp only[forall_eq,true_and,and_true,X03,Prod.mk.injEq,decide_eq_true_eq,decide_eq_false_iff_not]
 refine⟨fun h1=>by simp[X1z,h1],fun h1=>⟨fun h2=>by simp[X1z,h2],fun h2=>⟨fun h3=>by simp[X1z,h3],fun h3=>⟨by omega,by omega,?_⟩⟩⟩⟩
 have e0:IntKind.wrap .i64 (a1 - 1)=a1 - 1:=Go.IntWalk.i64_in _ (by omega)
 have e1:IntKind.wrap .i64 (Int.tdiv a0 100)=a0 / 100:=by rw[Int.tdiv_eq_ediv_of_nonneg (by omega)];exact Go.IntWalk.i64_in _ (by omega)
 have e2:IntKind.wrap .i64 (Int.tdiv (a1 - 1) 100)=(a1 - 1) / 100:=by rw[Int.tdiv_eq_ediv_of_nonneg (by omega)];exact Go.IntWalk.i64_in _ (by omega)
 have e3:IntKind.wrap .i64 ((a1 - 1) / 100 - a0 / 100)=(a1 - 1) / 100 - a0 / 100:=Go.IntWalk.i64_in _ (by omega)
 simp only[e0,e1,e2,e3]
 refine⟨fun h4=>by unfold X1z;rw[if_pos (by omega)],fun h4=>⟨⟨by omega,by omega,by omega,by omega,by omega,by omega,by simp[X8r]⟩,?_⟩⟩
 rintro⟨k,out⟩ hI
 simp only at hI ⊢
 refine⟨fun hk=>?_,fun hk=>Xjx hI hk⟩
 obtain⟨h5,h6,h7,h8⟩:=Xhw hI hk
 rw[h6]
 exact⟨by simp;omega,by simp;omega,h7,h8⟩
theorem X2O.eq:EqS X6o Tryz.f143 [139] [] [] (fun i x=>X2O.L x.1 x.2) (fun i x=>X2O.F x.1 x.2):=by intro i x;kernel_rfl
theorem X2O.ok:X0o Tryz.prog 143 X6o:=X2u X2O.eq Tryz.func143 rfl (by kernel_rfl) fun i x h hi hw=>X2O.pure x.1 x.2 h hw
def X2O.e:GE:=⟨143,X6o,⟨_,Tryz.func143,rfl,rfl⟩,X2O.ok⟩
end Go.Proofs.YtgmafgmjbaoomaaGreat.B
