/- Blocks:shown. -/
import Derived.Test.YtcfaphojdacmbaaGreatRCBits
set_option maxRecDepth 100000
set_option linter.unusedVariables false
set_option linter.unusedSimpArgs false
namespace Go.Proofs.YtcfaphojdacmbaaGreatR.B
open Go Go.Proofs.YtcfaphojdacmbaaGreatR.Bv
def X04(l:List Pt):List UInt8:=if X0s l=true∧l≠[] then X2O (X1P l.length++X0m (l.map (·.1))++X0i (l.map (·.2))) else []
theorem X5d{l:List Pt}(h:X0s l=true):l.length≤60:=by
 simp only[X0s,Bool.and_eq_true,decide_eq_true_eq]at h;exact h.1
def sbI(l:List Pt)(i:Int)(t v:List Int):Prop:=0≤i∧i≤l.length∧l.length≤60∧l≠[]∧X0s l=true∧(t.length:Int)=i∧(v.length:Int)=i∧t=(l.take i.toNat).map (·.1)∧v=(l.take i.toNat).map (·.2)
def sbM(l:List Pt)(i:Int)(t v:List Int):Nat:=(l.length - i).toNat
theorem Xbw{l:List Pt}{i:Nat}(h:i<l.length):(l.take (i+1)).map (·.1)=(l.take i).map (·.1)++[(l.getD i (0,0)).1]∧(l.take (i+1)).map (·.2)=(l.take i).map (·.2)++[(l.getD i (0,0)).2]:=by
 rw[X1S (0,0) h];simp
theorem XbO{l:List Pt}(h:X0s l=false):[]=X04 l:=by simp[X04,h]
def X5F:Con:={A:=X9z,shA:=[.one],R:=.str,shR:=[(false,1)],pre:=fun _ _=>True,f:=some fun _ a=>((X04 a),((),()))}
def X1B.F(a0:U6q):Prop:=(True∧∀r1,(Eq r1 ((X0s a0),((),())))→(X00 (!r1.1) (Eq ([],((),())) ((X04 a0),((),()))) (X00 ((ln a0)==(0:Int)) (Eq ([],((),())) ((X04 a0),((),()))) (eS [(0,.val false [.lst T0q a0 none])] [(0,.val false [.lst T0q a0 none])]∧((sbI a0 0 ([]:List Int) ([]:List Int))∧∀(y2:(Int×((List Int)×(List Int)))),(sbI a0 y2.1 y2.2.1 y2.2.2)→(X00 (decide (y2.1<(ln a0))) (0≤y2.1∧(y2.1<(ln a0)∧(List.length y2.2.1+List.length [(List.getD a0 (tN y2.1) (0,0)).1]≤9223372036854775807∧((List.length y2.2.1+List.length [(List.getD a0 (tN y2.1) (0,0)).1])*8≤140737488355328∧(0≤y2.1∧(y2.1<(ln a0)∧(List.length y2.2.2+List.length [(List.getD a0 (tN y2.1) (0,0)).2]≤9223372036854775807∧((List.length y2.2.2+List.length [(List.getD a0 (tN y2.1) (0,0)).2])*8≤140737488355328∧(eS [(0,.val false [.lst T0q a0 none])] [(0,.val false [.lst T0q a0 none])]∧(sbI a0 (wI (y2.1+(1:Int))) (y2.2.1++[(List.getD a0 (tN y2.1) (0,0)).1]) (y2.2.2++[(List.getD a0 (tN y2.1) (0,0)).2]))∧(sbM a0 (wI (y2.1+(1:Int))) (y2.2.1++[(List.getD a0 (tN y2.1) (0,0)).1]) (y2.2.2++[(List.getD a0 (tN y2.1) (0,0)).2]))<(sbM a0 y2.1 y2.2.1 y2.2.2)))))))))) (True∧∀r3,(Eq r3 ((X1P (ln a0)),((),())))→(True∧∀r4,(Eq r4 ((X0m y2.2.1),((),())))→(List.length r3.1+List.length r4.1≤9223372036854775807∧(True∧∀r5,(Eq r5 ((X0i y2.2.2),((),())))→(List.length (r3.1++r4.1)+List.length r5.1≤9223372036854775807∧(True∧∀r6,(Eq r6 ((X2O ((r3.1++r4.1)++r5.1)),((),())))→(Eq (r6.1,((),())) ((X04 a0),((),())))))))))))))))
def X1B.L(a0:U6q):Nat→Option X0d:=fun p=>Go.Proofs.YtcfaphojdacmbaaGreatR.Bv.look p [(250,{kp:={hold:=[0],slots:=[3,4,5],boxes:=[],rows:=[{bx:=false,s:=3,i:=0,k:=1000387,e:=3,hot:=true},{bx:=false,s:=4,i:=0,k:=1000515,e:=3,hot:=true}]},T:=(.pair (.int .i64) (.pair Xc7 Xc7)),I:=fun st y=>sbI a0 y.1 y.2.1 y.2.2,μ:=fun st y=>sbM a0 y.1 y.2.1 y.2.2})]
theorem X1B.pure(a0:U6q)(h:True)(hw:Wf X5F.A a0):X1B.F a0:=by
 delta X1B.F ln tN wI eS
 simp only[Bs,B0,B1,Prod.mk.injEq,X01]
 refine⟨fun h1=>XbO h1,fun h1=>?_⟩
 have h60:=X5d h1
 refine⟨fun h2=>?_,fun h2=>⟨⟨by omega,by omega,h60,fun e=>by subst e;exact h2 rfl,h1,rfl,rfl,rfl,rfl⟩,?_⟩⟩
 · have:a0=[]:=List.length_eq_zero_iff.1 (by omega)
   subst this;rfl
 rintro⟨i,t,v⟩ ⟨q1,q2,q3,q4,q5,q6,q7,q8,q9⟩
 simp only at q1 q2 q3 q4 q5 q6 q7 q8 q9 ⊢
 refine⟨fun hi=>?_,fun hi=>?_⟩
 · have hm:=Xbw (l:=a0) (i:=i.toNat) (by omega)
   rw[w64 (x:=i+1) (by omega) (by omega)]
   have step:sbI a0 (i+1) (t++[(a0.getD i.toNat (0,0)).1]) (v++[(a0.getD i.toNat (0,0)).2]):=⟨by omega,by omega,q3,q4,q5,by simp;omega,by simp;omega,by rw[tn1 q1,hm.1,q8],by rw[tn1 q1,hm.2,q9]⟩
   have down:sbM a0 (i+1) (t++[(a0.getD i.toNat (0,0)).1]) (v++[(a0.getD i.toNat (0,0)).2])<sbM a0 i t v:=by unfold sbM;omega
   exact⟨q1,by omega,by omega,by omega,q1,by omega,by omega,by omega,step,down⟩
 · have e:i.toNat=a0.length:=by omega
   rw[e,List.take_length]at q8 q9
   have l1:=X0w a0.length
   have l2:=X6T t
   have l3:=X64 v
   have hp:v.length≤1099511627776:=by omega
   have hp2:t.length≤1099511627776:=by omega
   have hf:X2O (X1P a0.length++X0m t++X0i v)=X04 a0:=by
    unfold X04
    rw[if_pos ⟨q5,q4⟩,←q8,←q9]
   exact⟨by omega,by omega,hf⟩
theorem X1B.eq:EqS X5F Tryz.f124 [9] [X0O.e,X3Q.e,X3J.e,X1h.e,X0T.e] [] (fun i x=>X1B.L x) (fun i x=>X1B.F x):=by intro i x;kernel_rfl
theorem X1B.ok:X0l Tryz.prog 124 X5F:=X2b X1B.eq Tryz.func124 rfl (by kernel_rfl) fun i x h hi hw=>X1B.pure x h hw
def X1B.e:GE:=⟨124,X5F,⟨_,Tryz.func124,rfl,rfl⟩,X1B.ok⟩
def X5z:Con:={A:=X9z,shA:=[.one],R:=.str,shR:=[(false,1)],pre:=fun _ _=>True,f:=some fun _ a=>((X04 a),((),()))}
def X1l.F(a0:U6q):Prop:=(True∧∀r1,(Eq r1 ((X0s a0),((),())))→(X00 (!r1.1) (Eq ([],((),())) ((X04 a0),((),()))) (X00 ((ln a0)==(0:Int)) (Eq ([],((),())) ((X04 a0),((),()))) (eS [(0,.val false [.lst T0q a0 none]),(17,.val false [.lst T0q a0 none]),(18,.val false [.int .i64 (ln a0)])] [(0,.val false [.lst T0q a0 none]),(17,.val false [.lst T0q a0 none]),(18,.val false [.int .i64 (ln a0)])]∧((sbI a0 0 ([]:List Int) ([]:List Int))∧∀(y2:(Int×((List Int)×(List Int)))),(sbI a0 y2.1 y2.2.1 y2.2.2)→(X00 (decide (y2.1<(ln a0))) (0≤y2.1∧(y2.1<(ln a0)∧(List.length y2.2.1+List.length [(List.getD a0 (tN y2.1) (0,0)).1]≤9223372036854775807∧((List.length y2.2.1+List.length [(List.getD a0 (tN y2.1) (0,0)).1])*8≤140737488355328∧(List.length y2.2.2+List.length [(List.getD a0 (tN y2.1) (0,0)).2]≤9223372036854775807∧((List.length y2.2.2+List.length [(List.getD a0 (tN y2.1) (0,0)).2])*8≤140737488355328∧(eS [(0,.val false [.lst T0q a0 none]),(17,.val false [.lst T0q a0 none]),(18,.val false [.int .i64 (ln a0)])] [(0,.val false [.lst T0q a0 none]),(17,.val false [.lst T0q a0 none]),(18,.val false [.int .i64 (ln a0)])]∧(sbI a0 (wI (y2.1+(1:Int))) (y2.2.1++[(List.getD a0 (tN y2.1) (0,0)).1]) (y2.2.2++[(List.getD a0 (tN y2.1) (0,0)).2]))∧(sbM a0 (wI (y2.1+(1:Int))) (y2.2.1++[(List.getD a0 (tN y2.1) (0,0)).1]) (y2.2.2++[(List.getD a0 (tN y2.1) (0,0)).2]))<(sbM a0 y2.1 y2.2.1 y2.2.2)))))))) (True∧∀r3,(Eq r3 ((X1P (ln a0)),((),())))→((Xe4 y2.2.1)∧∀r4,(Eq r4 ((X0m y2.2.1),((),())))→(List.length r3.1+List.length r4.1≤9223372036854775807∧((Xe4 y2.2.2)∧∀r5,(Eq r5 ((X0i y2.2.2),((),())))→(List.length (r3.1++r4.1)+List.length r5.1≤9223372036854775807∧(True∧∀r6,(Eq r6 ((X2O ((r3.1++r4.1)++r5.1)),((),())))→(Eq (r6.1,((),())) ((X04 a0),((),())))))))))))))))
def X1l.L(a0:U6q):Nat→Option X0d:=fun p=>Go.Proofs.YtcfaphojdacmbaaGreatR.Bv.look p [(122,{kp:={hold:=[0,17,18],slots:=[3,4,19],boxes:=[],rows:=[{bx:=false,s:=3,i:=0,k:=1000387,e:=3,hot:=true},{bx:=false,s:=4,i:=0,k:=1000515,e:=3,hot:=true}]},T:=(.pair (.int .i64) (.pair Xc7 Xc7)),I:=fun st y=>sbI a0 y.1 y.2.1 y.2.2,μ:=fun st y=>sbM a0 y.1 y.2.1 y.2.2})]
theorem X1l.pure(a0:U6q)(h:True)(hw:Wf X5z.A a0):X1l.F a0:=by
 delta X1l.F ln tN wI eS
 simp only[Bs,B0,B1,Prod.mk.injEq,X01,Xe4]
 refine⟨fun h1=>XbO h1,fun h1=>?_⟩
 have h60:=X5d h1
 refine⟨fun h2=>?_,fun h2=>⟨⟨by omega,by omega,h60,fun e=>by subst e;exact h2 rfl,h1,rfl,rfl,rfl,rfl⟩,?_⟩⟩
 · have:a0=[]:=List.length_eq_zero_iff.1 (by omega)
   subst this;rfl
 rintro⟨i,t,v⟩ ⟨q1,q2,q3,q4,q5,q6,q7,q8,q9⟩
 simp only at q1 q2 q3 q4 q5 q6 q7 q8 q9 ⊢
 refine⟨fun hi=>?_,fun hi=>?_⟩
 · have hm:=Xbw (l:=a0) (i:=i.toNat) (by omega)
   rw[w64 (x:=i+1) (by omega) (by omega)]
   have step:sbI a0 (i+1) (t++[(a0.getD i.toNat (0,0)).1]) (v++[(a0.getD i.toNat (0,0)).2]):=⟨by omega,by omega,q3,q4,q5,by simp;omega,by simp;omega,by rw[tn1 q1,hm.1,q8],by rw[tn1 q1,hm.2,q9]⟩
   have down:sbM a0 (i+1) (t++[(a0.getD i.toNat (0,0)).1]) (v++[(a0.getD i.toNat (0,0)).2])<sbM a0 i t v:=by unfold sbM;omega
   exact⟨q1,by omega,by omega,by omega,by omega,by omega,step,down⟩
 · have e:i.toNat=a0.length:=by omega
   rw[e,List.take_length]at q8 q9
   have l1:=X0w a0.length
   have l2:=X6T t
   have l3:=X64 v
   have hp:v.length≤1099511627776:=by omega
   have hp2:t.length≤1099511627776:=by omega
   have hf:X2O (X1P a0.length++X0m t++X0i v)=X04 a0:=by
    unfold X04
    rw[if_pos ⟨q5,q4⟩,←q8,←q9]
   exact⟨hp2,by omega,hp,by omega,hf⟩
theorem X1l.eq:EqS X5z Tryz.f194 [9] [X1t.e,X3Z.e,X3L.e,X1k.e,X0P.e] [] (fun i x=>X1l.L x) (fun i x=>X1l.F x):=by intro i x;kernel_rfl
theorem X1l.ok:X0l Tryz.prog 194 X5z:=X2b X1l.eq Tryz.func194 rfl (by kernel_rfl) fun i x h hi hw=>X1l.pure x h hw
def X1l.e:GE:=⟨194,X5z,⟨_,Tryz.func194,rfl,rfl⟩,X1l.ok⟩
end Go.Proofs.YtcfaphojdacmbaaGreatR.B
