/- Points compared;sliced. -/
import Derived.Test.YtcfaphojdacmbaaGreatRCDraw
import Derived.Test.YtcfaphojdacmbaaGreatRCPts
import Derived.Test.YtcfaphojdacmbaaGreatRCSlc
set_option maxRecDepth 100000
set_option linter.unusedVariables false
set_option linter.unusedSimpArgs false
namespace Go.Proofs.YtcfaphojdacmbaaGreatR.B
open Go Go.Proofs.YtcfaphojdacmbaaGreatR.Bv
def fBig(code:List Int):Bool:=decide (1048576<code.length)
def Xaj(a b:List Pt):Bool:=decide (a=b)
structure saI (a b:List Pt) (i:Int):Prop where
 h1:0≤i
 h2:i≤a.length
 h3:a.length=b.length
 h4:a.take i.toNat=b.take i.toNat
def saM(a b:List Pt)(i:Int):Nat:=(a.length - i).toNat
theorem XpG{a b:List Pt}{i:Int}(h:saI a b i)(hi:i<a.length)(he:a.getD i.toNat (0,0)=b.getD i.toNat (0,0)):saI a b (i+1):=by
 obtain⟨h1,h2,h3,h4⟩:=h
 refine⟨by omega,by omega,h3,?_⟩
 rw[tn1 h1,X1n (0,0) (by omega),X1n (0,0) (by omega),h4,he]
theorem Xqm{a b:List Pt}{i:Int}(h:saI a b i)(hi:¬i<a.length):a=b:=by
 obtain⟨h1,h2,h3,h4⟩:=h
 have e:i.toNat=a.length:=by omega
 rw[e,List.take_length,h3,List.take_length]at h4
 exact h4
def Xa9:Con:={A:=T9q,shA:=[.one],R:=.bool,shR:=[(false,1)],pre:=fun _ _=>True,f:=some fun _ a=>((fBig a),((),()))}
def X5W.F(a0:(List Int)):Prop:=(Eq ((decide ((ln a0)>(1048576:Int))),((),())) ((fBig a0),((),())))
theorem X5W.pure(a0:(List Int))(h:True)(hw:Wf Xa9.A a0):X5W.F a0:=by
 delta X5W.F ln
 simp only[Bs,B0,B1,Prod.mk.injEq,X01]
 repeat' (with_reducible (first | (refine And.intro ?_ ?_) | intro _))
 all_goals (try simp (disch:=omega) only[w64,wu8,tn0,tn1,tm1,tm2,List.length_append,List.length_cons,List.length_nil]at*)
 all_goals (try simp (disch:=omega) only[w64,wu8,tn0,tn1,tm1,tm2,List.length_append,List.length_cons,List.length_nil]at*)
 all_goals (try omega)
 all_goals (try grind[fBig])
theorem X5W.eq:EqS Xa9 Tryz.f10 [4] [] [] noL (fun i x=>X5W.F x):=by intro i x;kernel_rfl
theorem X5W.ok:X0n Tryz.prog 10 Xa9:=X2j X5W.eq Tryz.func10 rfl (by kernel_rfl) fun i x h hi hw=>X5W.pure x h hw
def X5W.e:GE:=⟨10,Xa9,⟨_,Tryz.func10,rfl,rfl⟩,X5W.ok⟩
def X4O:Con:={A:=(.pair (.list T0q) (.list T0q)),shA:=[.one,.one],R:=.bool,shR:=[(false,1)],pre:=fun _ _=>True,f:=some fun _ a=>((Xaj a.1 a.2),((),()))}
def X19.F(a0:U6q)(a1:U6q):Prop:=(X02 ((ln a0)!=(ln a1)) (Eq (false,((),())) ((Xaj a0 a1),((),()))) (eS [(0,.val false [.lst T0q a0 none]),(1,.val false [.lst T0q a1 none])] [(0,.val false [.lst T0q a0 none]),(1,.val false [.lst T0q a1 none])]∧((saI a0 a1 0)∧∀(y1:Int),(saI a0 a1 y1)→(X02 (decide (y1<(ln a0))) (0≤y1∧(y1<(ln a0)∧(0≤y1∧(y1<(ln a1)∧(X02 (!(((List.getD a0 (tN y1) (0,0)).1)==((List.getD a1 (tN y1) (0,0)).1)&&(((List.getD a0 (tN y1) (0,0)).2)==((List.getD a1 (tN y1) (0,0)).2)&&true))) (Eq (false,((),())) ((Xaj a0 a1),((),()))) (eS [(0,.val false [.lst T0q a0 none]),(1,.val false [.lst T0q a1 none])] [(0,.val false [.lst T0q a0 none]),(1,.val false [.lst T0q a1 none])]∧(saI a0 a1 (wI (y1+(1:Int))))∧(saM a0 a1 (wI (y1+(1:Int))))<(saM a0 a1 y1))))))) (Eq (true,((),())) ((Xaj a0 a1),((),())))))))
def X19.L(a0:U6q)(a1:U6q):Nat→Option X0c:=fun p=>Go.Proofs.YtcfaphojdacmbaaGreatR.Bv.look p [(58,{kp:={hold:=[0,1],slots:=[5],boxes:=[],rows:=[]},T:=(.int .i64),I:=fun st y=>saI a0 a1 y,μ:=fun st y=>saM a0 a1 y})]
theorem X19.pure(a0:U6q)(a1:U6q)(h:True)(hw:Wf X4O.A (a0,a1)):X19.F a0 a1:=by
 delta X19.F ln tN wI eS
 simp only[Bs,B0,B1,Prod.mk.injEq,X01,Prod.eta]
 have hl:a0.length≤9223372036854775807:=hw.1.1
 refine⟨fun h1=>?_,fun h1=>⟨⟨by omega,by omega,by omega,rfl⟩,?_⟩⟩
 · unfold Xaj;exact(decide_eq_false fun e=>h1 (by rw[e])).symm
 rintro i hI
 have q1:=hI.h1
 have q2:=hI.h2
 have q3:=hI.h3
 refine⟨fun hi=>⟨q1,hi,q1,by omega,fun h2=>?_,fun h2=>?_⟩,fun hi=>?_⟩
 · unfold Xaj;refine(decide_eq_false fun e=>?_).symm;subst e;simp at h2
 · rw[w64 (x:=i+1) (by omega) (by omega)]
   refine⟨XpG hI hi ?_,by unfold saM;omega⟩
   simp at h2;exact Prod.ext h2.1 h2.2
 · unfold Xaj;exact(decide_eq_true (Xqm hI hi)).symm
theorem X19.eq:EqS X4O Tryz.f35 [4] [] [] (fun i x=>X19.L x.1 x.2) (fun i x=>X19.F x.1 x.2):=by intro i x;kernel_rfl
theorem X19.ok:X0n Tryz.prog 35 X4O:=X2j X19.eq Tryz.func35 rfl (by kernel_rfl) fun i x h hi hw=>X19.pure x.1 x.2 h hw
def X19.e:GE:=⟨35,X4O,⟨_,Tryz.func35,rfl,rfl⟩,X19.ok⟩
end Go.Proofs.YtcfaphojdacmbaaGreatR.B
