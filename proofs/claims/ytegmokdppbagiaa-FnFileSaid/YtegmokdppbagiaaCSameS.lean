/- Series compared. -/
import Derived.Test.YtegmokdppbagiaaCSame
import Derived.Test.YtegmokdppbagiaaCSer
set_option linter.unusedVariables false
set_option linter.unusedSimpArgs false
namespace Go.Proofs.Ytegmokdppbagiaa.B
open Go Go.Proofs.Ytegmokdppbagiaa.Bv
def X4Z(a b:List Ser):Bool:=decide (a=b)
structure seI (a b:List Ser) (i:Int):Prop where
 h1:0≤i
 h2:i≤a.length
 h3:a.length=b.length
 h4:a.take i.toNat=b.take i.toNat
def seM(a b:List Ser)(i:Int):Nat:=(a.length - i).toNat
theorem XhP{a b:List Ser}{i:Int}(h:seI a b i)(hi:i<a.length)(he:a.getD i.toNat ([],[])=b.getD i.toNat ([],[])):seI a b (i+1):=by
 obtain⟨h1,h2,h3,h4⟩:=h
 refine⟨by omega,by omega,h3,?_⟩
 rw[tn1 h1,X44 ([],[]) (by omega),X44 ([],[]) (by omega),h4,he]
theorem Xjk{a b:List Ser}{i:Int}(h:seI a b i)(hi:¬i<a.length):a=b:=by
 obtain⟨h1,h2,h3,h4⟩:=h
 have e:i.toNat=a.length:=by omega
 rw[e,List.take_length,h3,List.take_length]at h4
 exact h4
def X2x:Con:={A:=(.pair (.list T1q) (.list T1q)),shA:=[.one,.one],R:=.bool,shR:=[(false,1)],pre:=fun _ _=>True,f:=some fun _ a=>((X4Z a.1 a.2),((),()))}
def X0x.F(a0:U2q)(a1:U2q):Prop:=(X04 ((ln a0)!=(ln a1)) (Eq (false,((),())) ((X4Z a0 a1),((),()))) (eS [(0,.val false [.lst T1q a0 none]),(1,.val false [.lst T1q a1 none])] [(0,.val false [.lst T1q a0 none]),(1,.val false [.lst T1q a1 none])]∧((seI a0 a1 0)∧∀(y1:Int),(seI a0 a1 y1)→(X04 (decide (y1<(ln a0))) (0≤y1∧(y1<(ln a0)∧(0≤y1∧(y1<(ln a1)∧(X04 (!(((List.getD a0 (tN y1) ([],[])).1)==((List.getD a1 (tN y1) ([],[])).1))) (Eq (false,((),())) ((X4Z a0 a1),((),()))) (0≤y1∧(y1<(ln a0)∧(0≤y1∧(y1<(ln a1)∧(True∧∀r2,(Eq r2 ((X55 ((List.getD a0 (tN y1) ([],[])).2) ((List.getD a1 (tN y1) ([],[])).2)),((),())))→(X04 (!r2.1) (Eq (false,((),())) ((X4Z a0 a1),((),()))) (eS [(0,.val false [.lst T1q a0 none]),(1,.val false [.lst T1q a1 none])] [(0,.val false [.lst T1q a0 none]),(1,.val false [.lst T1q a1 none])]∧(seI a0 a1 (wI (y1+(1:Int))))∧(seM a0 a1 (wI (y1+(1:Int))))<(seM a0 a1 y1))))))))))))) (Eq (true,((),())) ((X4Z a0 a1),((),())))))))
def X0x.L(a0:U2q)(a1:U2q):Nat→Option X0g:=fun p=>Go.Proofs.Ytegmokdppbagiaa.Bv.look p [(58,{kp:={hold:=[0,1],slots:=[5],boxes:=[],rows:=[]},T:=(.int .i64),I:=fun st y=>seI a0 a1 y,μ:=fun st y=>seM a0 a1 y})]
theorem X0x.pure(a0:U2q)(a1:U2q)(h:True)(hw:Wf X2x.A (a0,a1)):X0x.F a0 a1:=by
 delta X0x.F ln tN wI eS
 simp only[Bs,B0,B1,Prod.mk.injEq,X06,Prod.eta]
 have hl:a0.length≤9223372036854775807:=hw.1.1
 refine⟨fun h1=>?_,fun h1=>⟨⟨by omega,by omega,by omega,rfl⟩,?_⟩⟩
 · unfold X4Z;exact(decide_eq_false fun e=>h1 (by rw[e])).symm
 rintro i hI
 have q1:=hI.h1
 have q2:=hI.h2
 have q3:=hI.h3
 have e1:∀x y:Ser,x.1=y.1→X55 x.2 y.2=true→x=y:=fun x y h1 h2=>Prod.ext h1 (of_decide_eq_true h2)
 have no:∀{x y:Ser},x=a0.getD i.toNat ([],[])→y=a1.getD i.toNat ([],[])→x≠y→false=X4Z a0 a1:=fun hx hy hne=>by
  unfold X4Z;refine(decide_eq_false fun e=>?_).symm;subst e;exact hne (hx.trans hy.symm)
 refine⟨fun hi=>⟨q1,hi,q1,by omega,fun h2=>no rfl rfl (fun e=>h2 (by rw[e])),fun h2=>⟨q1,hi,q1,by omega,fun h3=>no rfl rfl (fun e=>by rw[e]at h3;unfold X55 at h3;simp at h3),fun h3=>?_⟩⟩,fun hi=>?_⟩
 · rw[w64 (x:=i+1) (by omega) (by omega)]
   exact⟨XhP hI hi (e1 _ _ h2 h3),by unfold seM;omega⟩
 · unfold X4Z;exact(decide_eq_true (Xjk hI hi)).symm
set_option maxRecDepth 100000 in
theorem X0x.eq:EqS X2x Try.f16 [4] [X0p.e] [] (fun i x=>X0x.L x.1 x.2) (fun i x=>X0x.F x.1 x.2):=by intro i x;kernel_rfl
theorem X0x.ok:X11 Try.prog 16 X2x:=X3V X0x.eq Try.func16 rfl (by kernel_rfl) fun i x h hi hw=>X0x.pure x.1 x.2 h hw
def X0x.e:GE:=⟨16,X2x,⟨_,Try.func16,rfl,rfl⟩,X0x.ok⟩
end Go.Proofs.Ytegmokdppbagiaa.B
