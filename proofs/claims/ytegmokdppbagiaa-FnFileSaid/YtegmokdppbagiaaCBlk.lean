/- Blocks:shown. -/
import Derived.Test.YtegmokdppbagiaaCBits
set_option linter.unusedVariables false
set_option linter.unusedSimpArgs false
namespace Go.Proofs.Ytegmokdppbagiaa.B
open Go Go.Proofs.Ytegmokdppbagiaa.Bv
def X03(l:List Pt):List UInt8:=if X0N l=true∧l≠[] then X1W (X27 l.length++X0h (l.map (·.1))++X0d (l.map (·.2))) else []
theorem X53{l:List Pt}(h:X0N l=true):l.length≤60:=by
 simp only[X0N,Bool.and_eq_true,decide_eq_true_eq]at h;exact h.1
def sbI(l:List Pt)(i:Int)(t v:List Int):Prop:=0≤i∧i≤l.length∧l.length≤60∧l≠[]∧X0N l=true∧(t.length:Int)=i∧(v.length:Int)=i∧t=(l.take i.toNat).map (·.1)∧v=(l.take i.toNat).map (·.2)
def sbM(l:List Pt)(i:Int)(t v:List Int):Nat:=(l.length - i).toNat
theorem XaD{l:List Pt}{i:Nat}(h:i<l.length):(l.take (i+1)).map (·.1)=(l.take i).map (·.1)++[(l.getD i (0,0)).1]∧(l.take (i+1)).map (·.2)=(l.take i).map (·.2)++[(l.getD i (0,0)).2]:=by
 rw[X44 (0,0) h];simp
theorem XaK{l:List Pt}(h:X0N l=false):[]=X03 l:=by simp[X03,h]
def X2P:Con:={A:=(.list T0q),shA:=[.one],R:=.str,shR:=[(false,1)],pre:=fun _ _=>True,f:=some fun _ a=>((X03 a),((),()))}
def X0C.F(a0:U4q):Prop:=(True∧∀r1,(Eq r1 ((X0N a0),((),())))→(X04 (!r1.1) (Eq ([],((),())) ((X03 a0),((),()))) (X04 ((ln a0)==(0:Int)) (Eq ([],((),())) ((X03 a0),((),()))) (eS [(0,.val false [.lst T0q a0 none]),(17,.val false [.lst T0q a0 none]),(18,.val false [.int .i64 (ln a0)])] [(0,.val false [.lst T0q a0 none]),(17,.val false [.lst T0q a0 none]),(18,.val false [.int .i64 (ln a0)])]∧((sbI a0 0 ([]:List Int) ([]:List Int))∧∀(y2:(Int×((List Int)×(List Int)))),(sbI a0 y2.1 y2.2.1 y2.2.2)→(X04 (decide (y2.1<(ln a0))) (0≤y2.1∧(y2.1<(ln a0)∧(List.length y2.2.1+List.length [(List.getD a0 (tN y2.1) (0,0)).1]≤9223372036854775807∧((List.length y2.2.1+List.length [(List.getD a0 (tN y2.1) (0,0)).1])*8≤140737488355328∧(List.length y2.2.2+List.length [(List.getD a0 (tN y2.1) (0,0)).2]≤9223372036854775807∧((List.length y2.2.2+List.length [(List.getD a0 (tN y2.1) (0,0)).2])*8≤140737488355328∧(eS [(0,.val false [.lst T0q a0 none]),(17,.val false [.lst T0q a0 none]),(18,.val false [.int .i64 (ln a0)])] [(0,.val false [.lst T0q a0 none]),(17,.val false [.lst T0q a0 none]),(18,.val false [.int .i64 (ln a0)])]∧(sbI a0 (wI (y2.1+(1:Int))) (y2.2.1++[(List.getD a0 (tN y2.1) (0,0)).1]) (y2.2.2++[(List.getD a0 (tN y2.1) (0,0)).2]))∧(sbM a0 (wI (y2.1+(1:Int))) (y2.2.1++[(List.getD a0 (tN y2.1) (0,0)).1]) (y2.2.2++[(List.getD a0 (tN y2.1) (0,0)).2]))<(sbM a0 y2.1 y2.2.1 y2.2.2)))))))) (True∧∀r3,(Eq r3 ((X27 (ln a0)),((),())))→((X9f y2.2.1)∧∀r4,(Eq r4 ((X0h y2.2.1),((),())))→(List.length r3.1+List.length r4.1≤9223372036854775807∧((X9f y2.2.2)∧∀r5,(Eq r5 ((X0d y2.2.2),((),())))→(List.length (r3.1++r4.1)+List.length r5.1≤9223372036854775807∧(True∧∀r6,(Eq r6 ((X1W ((r3.1++r4.1)++r5.1)),((),())))→(Eq (r6.1,((),())) ((X03 a0),((),())))))))))))))))
def X0C.L(a0:U4q):Nat→Option X0g:=fun p=>Go.Proofs.Ytegmokdppbagiaa.Bv.look p [(122,{kp:={hold:=[0,17,18],slots:=[3,4,19],boxes:=[],rows:=[{bx:=false,s:=3,i:=0,k:=1000387,e:=3,hot:=true},{bx:=false,s:=4,i:=0,k:=1000515,e:=3,hot:=true}]},T:=(.pair (.int .i64) (.pair (.list (.int .i64)) (.list (.int .i64)))),I:=fun st y=>sbI a0 y.1 y.2.1 y.2.2,μ:=fun st y=>sbM a0 y.1 y.2.1 y.2.2})]
theorem X0C.pure(a0:U4q)(h:True)(hw:Wf X2P.A a0):X0C.F a0:=by
 delta X0C.F ln tN wI eS
 simp only[Bs,B0,B1,Prod.mk.injEq,X06,X9f]
 refine⟨fun h1=>XaK h1,fun h1=>?_⟩
 have h60:=X53 h1
 refine⟨fun h2=>?_,fun h2=>⟨⟨by omega,by omega,h60,fun e=>by subst e;exact h2 rfl,h1,rfl,rfl,rfl,rfl⟩,?_⟩⟩
 · have:a0=[]:=List.length_eq_zero_iff.1 (by omega)
   subst this;rfl
 rintro⟨i,t,v⟩ ⟨q1,q2,q3,q4,q5,q6,q7,q8,q9⟩
 simp only at q1 q2 q3 q4 q5 q6 q7 q8 q9 ⊢
 refine⟨fun hi=>?_,fun hi=>?_⟩
 · have hm:=XaD (l:=a0) (i:=i.toNat) (by omega)
   rw[w64 (x:=i+1) (by omega) (by omega)]
   have step:sbI a0 (i+1) (t++[(a0.getD i.toNat (0,0)).1]) (v++[(a0.getD i.toNat (0,0)).2]):=⟨by omega,by omega,q3,q4,q5,by simp;omega,by simp;omega,by rw[tn1 q1,hm.1,q8],by rw[tn1 q1,hm.2,q9]⟩
   have down:sbM a0 (i+1) (t++[(a0.getD i.toNat (0,0)).1]) (v++[(a0.getD i.toNat (0,0)).2])<sbM a0 i t v:=by unfold sbM;omega
   exact⟨q1,by omega,by omega,by omega,by omega,by omega,step,down⟩
 · have e:i.toNat=a0.length:=by omega
   rw[e,List.take_length]at q8 q9
   have l1:=X0m a0.length
   have l2:=X4W t
   have l3:=X4j v
   have hp:v.length≤1099511627776:=by omega
   have hp2:t.length≤1099511627776:=by omega
   have hf:X1W (X27 a0.length++X0h t++X0d v)=X03 a0:=by
    unfold X03
    rw[if_pos ⟨q5,q4⟩,←q8,←q9]
   exact⟨hp2,by omega,hp,by omega,hf⟩
set_option maxRecDepth 100000 in
theorem X0C.eq:EqS X2P Try.f35 [9] [X1X.e,X0K.e,X1O.e,X0D.e,X0o.e] [] (fun i x=>X0C.L x) (fun i x=>X0C.F x):=by intro i x;kernel_rfl
theorem X0C.ok:X11 Try.prog 35 X2P:=X3V X0C.eq Try.func35 rfl (by kernel_rfl) fun i x h hi hw=>X0C.pure x h hw
def X0C.e:GE:=⟨35,X2P,⟨_,Try.func35,rfl,rfl⟩,X0C.ok⟩
end Go.Proofs.Ytegmokdppbagiaa.B
