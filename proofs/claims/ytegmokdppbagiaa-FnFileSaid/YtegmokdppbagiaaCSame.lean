/- Points compared;sliced. -/
import Derived.Test.YtegmokdppbagiaaCDraw
import Derived.Test.YtegmokdppbagiaaCPts
set_option maxRecDepth 100000
set_option linter.unusedVariables false
set_option linter.unusedSimpArgs false
namespace Go.Proofs.Ytegmokdppbagiaa.B
open Go Go.Proofs.Ytegmokdppbagiaa.Bv
def Xj5(code:List Int):Bool:=decide (1048576<code.length)
def X55(a b:List Pt):Bool:=decide (a=b)
structure saI (a b:List Pt) (i:Int):Prop where
 h1:0≤i
 h2:i≤a.length
 h3:a.length=b.length
 h4:a.take i.toNat=b.take i.toNat
def saM(a b:List Pt)(i:Int):Nat:=(a.length - i).toNat
theorem XhT{a b:List Pt}{i:Int}(h:saI a b i)(hi:i<a.length)(he:a.getD i.toNat (0,0)=b.getD i.toNat (0,0)):saI a b (i+1):=by
 obtain⟨h1,h2,h3,h4⟩:=h
 refine⟨by omega,by omega,h3,?_⟩
 rw[tn1 h1,X44 (0,0) (by omega),X44 (0,0) (by omega),h4,he]
theorem Xjc{a b:List Pt}{i:Int}(h:saI a b i)(hi:¬i<a.length):a=b:=by
 obtain⟨h1,h2,h3,h4⟩:=h
 have e:i.toNat=a.length:=by omega
 rw[e,List.take_length,h3,List.take_length]at h4
 exact h4
def X64:Con:={A:=T6q,shA:=[.one],R:=.bool,shR:=[(false,1)],pre:=fun _ _=>True,f:=some fun _ a=>((Xj5 a),((),()))}
def X37.F(a0:(List Int)):Prop:=(Eq ((decide ((ln a0)>(1048576:Int))),((),())) ((Xj5 a0),((),())))
theorem X37.pure(a0:(List Int))(h:True)(hw:Wf X64.A a0):X37.F a0:=by
 delta X37.F ln
 simp only[Bs,B0,B1,Prod.mk.injEq,X06]
 repeat' (with_reducible (first | (refine And.intro ?_ ?_) | intro _))
 all_goals (try simp (disch:=omega) only[w64,wu8,tn0,tn1,tm1,tm2,List.length_append,List.length_cons,List.length_nil]at*)
 all_goals (try simp (disch:=omega) only[w64,wu8,tn0,tn1,tm1,tm2,List.length_append,List.length_cons,List.length_nil]at*)
 all_goals (try omega)
 all_goals (try grind[Xj5])
theorem X37.eq:EqS X64 Try.f7 [4] [] [] noL (fun i x=>X37.F x):=by intro i x;kernel_rfl
theorem X37.ok:X11 Try.prog 7 X64:=X3V X37.eq Try.func7 rfl (by kernel_rfl) fun i x h hi hw=>X37.pure x h hw
def X37.e:GE:=⟨7,X64,⟨_,Try.func7,rfl,rfl⟩,X37.ok⟩
def X2v:Con:={A:=(.pair (.list T0q) (.list T0q)),shA:=[.one,.one],R:=.bool,shR:=[(false,1)],pre:=fun _ _=>True,f:=some fun _ a=>((X55 a.1 a.2),((),()))}
def X0p.F(a0:U4q)(a1:U4q):Prop:=(X04 ((ln a0)!=(ln a1)) (Eq (false,((),())) ((X55 a0 a1),((),()))) (eS [(0,.val false [.lst T0q a0 none]),(1,.val false [.lst T0q a1 none])] [(0,.val false [.lst T0q a0 none]),(1,.val false [.lst T0q a1 none])]∧((saI a0 a1 0)∧∀(y1:Int),(saI a0 a1 y1)→(X04 (decide (y1<(ln a0))) (0≤y1∧(y1<(ln a0)∧(0≤y1∧(y1<(ln a1)∧(X04 (!(((List.getD a0 (tN y1) (0,0)).1)==((List.getD a1 (tN y1) (0,0)).1)&&(((List.getD a0 (tN y1) (0,0)).2)==((List.getD a1 (tN y1) (0,0)).2)&&true))) (Eq (false,((),())) ((X55 a0 a1),((),()))) (eS [(0,.val false [.lst T0q a0 none]),(1,.val false [.lst T0q a1 none])] [(0,.val false [.lst T0q a0 none]),(1,.val false [.lst T0q a1 none])]∧(saI a0 a1 (wI (y1+(1:Int))))∧(saM a0 a1 (wI (y1+(1:Int))))<(saM a0 a1 y1))))))) (Eq (true,((),())) ((X55 a0 a1),((),())))))))
def X0p.L(a0:U4q)(a1:U4q):Nat→Option X0g:=fun p=>Go.Proofs.Ytegmokdppbagiaa.Bv.look p [(58,{kp:={hold:=[0,1],slots:=[5],boxes:=[],rows:=[]},T:=(.int .i64),I:=fun st y=>saI a0 a1 y,μ:=fun st y=>saM a0 a1 y})]
theorem X0p.pure(a0:U4q)(a1:U4q)(h:True)(hw:Wf X2v.A (a0,a1)):X0p.F a0 a1:=by
 delta X0p.F ln tN wI eS
 simp only[Bs,B0,B1,Prod.mk.injEq,X06,Prod.eta]
 have hl:a0.length≤9223372036854775807:=hw.1.1
 refine⟨fun h1=>?_,fun h1=>⟨⟨by omega,by omega,by omega,rfl⟩,?_⟩⟩
 · unfold X55;exact(decide_eq_false fun e=>h1 (by rw[e])).symm
 rintro i hI
 have q1:=hI.h1
 have q2:=hI.h2
 have q3:=hI.h3
 refine⟨fun hi=>⟨q1,hi,q1,by omega,fun h2=>?_,fun h2=>?_⟩,fun hi=>?_⟩
 · unfold X55;refine(decide_eq_false fun e=>?_).symm;subst e;simp at h2
 · rw[w64 (x:=i+1) (by omega) (by omega)]
   refine⟨XhT hI hi ?_,by unfold saM;omega⟩
   simp at h2;exact Prod.ext h2.1 h2.2
 · unfold X55;exact(decide_eq_true (Xjc hI hi)).symm
theorem X0p.eq:EqS X2v Try.f14 [4] [] [] (fun i x=>X0p.L x.1 x.2) (fun i x=>X0p.F x.1 x.2):=by intro i x;kernel_rfl
theorem X0p.ok:X11 Try.prog 14 X2v:=X3V X0p.eq Try.func14 rfl (by kernel_rfl) fun i x h hi hw=>X0p.pure x.1 x.2 h hw
def X0p.e:GE:=⟨14,X2v,⟨_,Try.func14,rfl,rfl⟩,X0p.ok⟩
end Go.Proofs.Ytegmokdppbagiaa.B
