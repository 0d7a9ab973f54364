/- Series compared. -/
import Derived.Test.YtcfaphojdacmbaaGreatRCSame
import Derived.Test.YtcfaphojdacmbaaGreatRCSer
set_option linter.unusedVariables false
set_option linter.unusedSimpArgs false
namespace Go.Proofs.YtcfaphojdacmbaaGreatR.B
open Go Go.Proofs.YtcfaphojdacmbaaGreatR.Bv
def X9z(a b:List Ser):Bool:=decide (a=b)
structure seI (a b:List Ser) (i:Int):Prop where
 h1:0≤i
 h2:i≤a.length
 h3:a.length=b.length
 h4:a.take i.toNat=b.take i.toNat
def seM(a b:List Ser)(i:Int):Nat:=(a.length - i).toNat
theorem XpO{a b:List Ser}{i:Int}(h:seI a b i)(hi:i<a.length)(he:a.getD i.toNat ([],[])=b.getD i.toNat ([],[])):seI a b (i+1):=by
 obtain⟨h1,h2,h3,h4⟩:=h
 refine⟨by omega,by omega,h3,?_⟩
 rw[tn1 h1,X1x ([],[]) (by omega),X1x ([],[]) (by omega),h4,he]
theorem XqM{a b:List Ser}{i:Int}(h:seI a b i)(hi:¬i<a.length):a=b:=by
 obtain⟨h1,h2,h3,h4⟩:=h
 have e:i.toNat=a.length:=by omega
 rw[e,List.take_length,h3,List.take_length]at h4
 exact h4
def X56:Con:={A:=(.pair T9q T9q),shA:=[.one,.one],R:=.bool,shR:=[(false,1)],pre:=fun _ _=>True,f:=some fun _ a=>((X9z a.1 a.2),((),()))}
def X1d.F(a0:(List U1q))(a1:(List U1q)):Prop:=(X00 ((ln a0)!=(ln a1)) (Eq (false,((),())) ((X9z a0 a1),((),()))) (eS [(0,.val false [.lst T2q a0 none]),(1,.val false [.lst T2q a1 none])] [(0,.val false [.lst T2q a0 none]),(1,.val false [.lst T2q a1 none])]∧((seI a0 a1 0)∧∀(y1:Int),(seI a0 a1 y1)→(X00 (decide (y1<(ln a0))) (0≤y1∧(y1<(ln a0)∧(0≤y1∧(y1<(ln a1)∧(X00 (!(((List.getD a0 (tN y1) ([],[])).1)==((List.getD a1 (tN y1) ([],[])).1))) (Eq (false,((),())) ((X9z a0 a1),((),()))) (0≤y1∧(y1<(ln a0)∧(0≤y1∧(y1<(ln a1)∧(True∧∀r2,(Eq r2 ((X7d ((List.getD a0 (tN y1) ([],[])).2) ((List.getD a1 (tN y1) ([],[])).2)),((),())))→(X00 (!r2.1) (Eq (false,((),())) ((X9z a0 a1),((),()))) (eS [(0,.val false [.lst T2q a0 none]),(1,.val false [.lst T2q a1 none])] [(0,.val false [.lst T2q a0 none]),(1,.val false [.lst T2q a1 none])]∧(seI a0 a1 (wI (y1+(1:Int))))∧(seM a0 a1 (wI (y1+(1:Int))))<(seM a0 a1 y1))))))))))))) (Eq (true,((),())) ((X9z a0 a1),((),())))))))
def X1d.L(a0:(List U1q))(a1:(List U1q)):Nat→Option X0d:=fun p=>Go.Proofs.YtcfaphojdacmbaaGreatR.Bv.look p [(58,{kp:={hold:=[0,1],slots:=[5],boxes:=[],rows:=[]},T:=(.int .i64),I:=fun st y=>seI a0 a1 y,μ:=fun st y=>seM a0 a1 y})]
theorem X1d.pure(a0:(List U1q))(a1:(List U1q))(h:True)(hw:Wf X56.A (a0,a1)):X1d.F a0 a1:=by
 delta X1d.F ln tN wI eS
 simp only[Bs,B0,B1,Prod.mk.injEq,X01,Prod.eta]
 have hl:a0.length≤9223372036854775807:=hw.1.1
 refine⟨fun h1=>?_,fun h1=>⟨⟨by omega,by omega,by omega,rfl⟩,?_⟩⟩
 · unfold X9z;exact(decide_eq_false fun e=>h1 (by rw[e])).symm
 rintro i hI
 have q1:=hI.h1
 have q2:=hI.h2
 have q3:=hI.h3
 have e1:∀x y:Ser,x.1=y.1→X7d x.2 y.2=true→x=y:=fun x y h1 h2=>Prod.ext h1 (of_decide_eq_true h2)
 have no:∀{x y:Ser},x=a0.getD i.toNat ([],[])→y=a1.getD i.toNat ([],[])→x≠y→false=X9z a0 a1:=fun hx hy hne=>by
  unfold X9z;refine(decide_eq_false fun e=>?_).symm;subst e;exact hne (hx.trans hy.symm)
 refine⟨fun hi=>⟨q1,hi,q1,by omega,fun h2=>no rfl rfl (fun e=>h2 (by rw[e])),fun h2=>⟨q1,hi,q1,by omega,fun h3=>no rfl rfl (fun e=>by rw[e]at h3;unfold X7d at h3;simp at h3),fun h3=>?_⟩⟩,fun hi=>?_⟩
 · rw[w64 (x:=i+1) (by omega) (by omega)]
   exact⟨XpO hI hi (e1 _ _ h2 h3),by unfold seM;omega⟩
 · unfold X9z;exact(decide_eq_true (XqM hI hi)).symm
set_option maxRecDepth 100000 in
theorem X1d.eq:EqS X56 Tryz.f40 [4] [X0S.e] [] (fun i x=>X1d.L x.1 x.2) (fun i x=>X1d.F x.1 x.2):=by intro i x;kernel_rfl
theorem X1d.ok:X0l Tryz.prog 40 X56:=X2d X1d.eq Tryz.func40 rfl (by kernel_rfl) fun i x h hi hw=>X1d.pure x.1 x.2 h hw
def X1d.e:GE:=⟨40,X56,⟨_,Tryz.func40,rfl,rfl⟩,X1d.ok⟩
end Go.Proofs.YtcfaphojdacmbaaGreatR.B
