/- Points compared;sliced. -/
import Derived.Test.YtcfaphojdacmbaaGreatRCDraw
import Derived.Test.YtcfaphojdacmbaaGreatRCPts
import Derived.Test.YtcfaphojdacmbaaGreatRCSlc
set_option maxRecDepth 100000
set_option linter.unusedVariables false
set_option linter.unusedSimpArgs false
namespace Go.Proofs.YtcfaphojdacmbaaGreatR.B
open Go Go.Proofs.YtcfaphojdacmbaaGreatR.Bv
def fBig(code:List Int):Bool:=decide (1048576<code.length)
def X3f(a b:List Pt):Bool:=decide (a=b)
structure saI (a b:List Pt) (i:Int):Prop where
 h1:0≤i
 h2:i≤a.length
 h3:a.length=b.length
 h4:a.take i.toNat=b.take i.toNat
def saM(a b:List Pt)(i:Int):Nat:=(a.length - i).toNat
theorem Xq9{a b:List Pt}{i:Int}(h:saI a b i)(hi:i<a.length)(he:a.getD i.toNat (0,0)=b.getD i.toNat (0,0)):saI a b (i+1):=by
 obtain⟨h1,h2,h3,h4⟩:=h
 refine⟨by omega,by omega,h3,?_⟩
 rw[tn1 h1,X1S (0,0) (by omega),X1S (0,0) (by omega),h4,he]
theorem XrC{a b:List Pt}{i:Int}(h:saI a b i)(hi:¬i<a.length):a=b:=by
 obtain⟨h1,h2,h3,h4⟩:=h
 have e:i.toNat=a.length:=by omega
 rw[e,List.take_length,h3,List.take_length]at h4
 exact h4
def X1N(l:List Pt)(a b:Int):List Pt:=if X0s l=true then X0Z l a b else []
def Xay:Con:={A:=T8q,shA:=[.one],R:=.bool,shR:=[(false,1)],pre:=fun _ _=>True,f:=some fun _ a=>((fBig a),((),()))}
def X6f.F(a0:(List Int)):Prop:=(Eq ((decide ((ln a0)>(1048576:Int))),((),())) ((fBig a0),((),())))
theorem X6f.pure(a0:(List Int))(h:True)(hw:Wf Xay.A a0):X6f.F a0:=by
 delta X6f.F ln
 simp only[Bs,B0,B1,Prod.mk.injEq,X01]
 repeat' (with_reducible (first | (refine And.intro ?_ ?_) | intro _))
 all_goals (try simp (disch:=omega) only[w64,wu8,tn0,tn1,tm1,tm2,List.length_append,List.length_cons,List.length_nil]at*)
 all_goals (try simp (disch:=omega) only[w64,wu8,tn0,tn1,tm1,tm2,List.length_append,List.length_cons,List.length_nil]at*)
 all_goals (try omega)
 all_goals (try grind[fBig])
theorem X6f.eq:EqS Xay Tryz.f10 [4] [] [] noL (fun i x=>X6f.F x):=by intro i x;kernel_rfl
theorem X6f.ok:X0l Tryz.prog 10 Xay:=X2b X6f.eq Tryz.func10 rfl (by kernel_rfl) fun i x h hi hw=>X6f.pure x h hw
def X6f.e:GE:=⟨10,Xay,⟨_,Tryz.func10,rfl,rfl⟩,X6f.ok⟩
def X51:Con:={A:=(.pair X9z X9z),shA:=[.one,.one],R:=.bool,shR:=[(false,1)],pre:=fun _ _=>True,f:=some fun _ a=>((X3f a.1 a.2),((),()))}
def X1e.F(a0:U6q)(a1:U6q):Prop:=(X00 ((ln a0)!=(ln a1)) (Eq (false,((),())) ((X3f a0 a1),((),()))) (eS [(0,.val false [.lst T0q a0 none]),(1,.val false [.lst T0q a1 none])] [(0,.val false [.lst T0q a0 none]),(1,.val false [.lst T0q a1 none])]∧((saI a0 a1 0)∧∀(y1:Int),(saI a0 a1 y1)→(X00 (decide (y1<(ln a0))) (0≤y1∧(y1<(ln a0)∧(0≤y1∧(y1<(ln a1)∧(X00 (!(((List.getD a0 (tN y1) (0,0)).1)==((List.getD a1 (tN y1) (0,0)).1)&&(((List.getD a0 (tN y1) (0,0)).2)==((List.getD a1 (tN y1) (0,0)).2)&&true))) (Eq (false,((),())) ((X3f a0 a1),((),()))) (eS [(0,.val false [.lst T0q a0 none]),(1,.val false [.lst T0q a1 none])] [(0,.val false [.lst T0q a0 none]),(1,.val false [.lst T0q a1 none])]∧(saI a0 a1 (wI (y1+(1:Int))))∧(saM a0 a1 (wI (y1+(1:Int))))<(saM a0 a1 y1))))))) (Eq (true,((),())) ((X3f a0 a1),((),())))))))
def X1e.L(a0:U6q)(a1:U6q):Nat→Option X0d:=fun p=>Go.Proofs.YtcfaphojdacmbaaGreatR.Bv.look p [(58,{kp:={hold:=[0,1],slots:=[5],boxes:=[],rows:=[]},T:=(.int .i64),I:=fun st y=>saI a0 a1 y,μ:=fun st y=>saM a0 a1 y})]
theorem X1e.pure(a0:U6q)(a1:U6q)(h:True)(hw:Wf X51.A (a0,a1)):X1e.F a0 a1:=by
 delta X1e.F ln tN wI eS
 simp only[Bs,B0,B1,Prod.mk.injEq,X01,Prod.eta]
 have hl:a0.length≤9223372036854775807:=hw.1.1
 refine⟨fun h1=>?_,fun h1=>⟨⟨by omega,by omega,by omega,rfl⟩,?_⟩⟩
 · unfold X3f;exact(decide_eq_false fun e=>h1 (by rw[e])).symm
 rintro i hI
 have q1:=hI.h1
 have q2:=hI.h2
 have q3:=hI.h3
 refine⟨fun hi=>⟨q1,hi,q1,by omega,fun h2=>?_,fun h2=>?_⟩,fun hi=>?_⟩
 · unfold X3f;refine(decide_eq_false fun e=>?_).symm;subst e;simp at h2
 · rw[w64 (x:=i+1) (by omega) (by omega)]
   refine⟨Xq9 hI hi ?_,by unfold saM;omega⟩
   simp at h2;exact Prod.ext h2.1 h2.2
 · unfold X3f;exact(decide_eq_true (XrC hI hi)).symm
theorem X1e.eq:EqS X51 Tryz.f35 [4] [] [] (fun i x=>X1e.L x.1 x.2) (fun i x=>X1e.F x.1 x.2):=by intro i x;kernel_rfl
theorem X1e.ok:X0l Tryz.prog 35 X51:=X2b X1e.eq Tryz.func35 rfl (by kernel_rfl) fun i x h hi hw=>X1e.pure x.1 x.2 h hw
def X1e.e:GE:=⟨35,X51,⟨_,Tryz.func35,rfl,rfl⟩,X1e.ok⟩
def X8p:Con:={A:=(.pair X9z T0q),shA:=[.one,.one,.one],R:=X9z,shR:=[(false,1)],pre:=fun _ _=>True,f:=some fun _ a=>((X1N a.1 a.2.1 a.2.2),((),()))}
def X46.F(a0:U6q)(a1:Int)(a2:Int):Prop:=(True∧∀r1,(Eq r1 ((X0s a0),((),())))→(X00 (!r1.1) (Eq (([]:U6q),((),())) ((X1N a0 a1 a2),((),()))) ((X6l a0 a1 a2)∧∀r2,(Eq r2 ((X0Z a0 a1 a2),((),())))→(Eq (r2.1,((),())) ((X1N a0 a1 a2),((),()))))))
theorem X46.pure(a0:U6q)(a1:Int)(a2:Int)(h:True)(hw:Wf X8p.A (a0,a1,a2)):X46.F a0 a1 a2:=by
 unfold X46.F
 simp only[Bs,B0,B1,Prod.mk.injEq,X01,Prod.eta]
 have hl:a0.length≤9223372036854775807:=hw.1.1
 refine⟨fun h1=>?_,fun h1=>?_⟩
 · unfold X1N;rw[if_neg (by rw[h1];decide)]
 · have:=(X6p h1).2
   refine⟨by unfold X6l;omega,?_⟩
   unfold X1N;rw[if_pos h1]
theorem X46.eq:EqS X8p Tryz.f34 [64] [X0O.e,X1V.e] [] noL (fun i x=>X46.F x.1 x.2.1 x.2.2):=by intro i x;kernel_rfl
theorem X46.ok:X0l Tryz.prog 34 X8p:=X2b X46.eq Tryz.func34 rfl (by kernel_rfl) fun i x h hi hw=>X46.pure x.1 x.2.1 x.2.2 h hw
def X46.e:GE:=⟨34,X8p,⟨_,Tryz.func34,rfl,rfl⟩,X46.ok⟩
end Go.Proofs.YtcfaphojdacmbaaGreatR.B
