/- Blocks:shown. -/
import Derived.Test.YtcfaphojdacmbaaGreatRCBits
set_option maxRecDepth 100000
set_option linter.unusedVariables false
set_option linter.unusedSimpArgs false
namespace Go.Proofs.YtcfaphojdacmbaaGreatR.B
open Go Go.Proofs.YtcfaphojdacmbaaGreatR.Bv
def X04(l:List Pt):List UInt8:=if X0x l=true∧l≠[] then X2H (X1K l.length++X0l (l.map (·.1))++X0i (l.map (·.2))) else []
theorem X5F{l:List Pt}(h:X0x l=true):l.length≤60:=by
 simp only[X0x,Bool.and_eq_true,decide_eq_true_eq]at h;exact h.1
def sbI(l:List Pt)(i:Int)(t v:List Int):Prop:=0≤i∧i≤l.length∧l.length≤60∧l≠[]∧X0x l=true∧(t.length:Int)=i∧(v.length:Int)=i∧t=(l.take i.toNat).map (·.1)∧v=(l.take i.toNat).map (·.2)
def sbM(l:List Pt)(i:Int)(t v:List Int):Nat:=(l.length - i).toNat
theorem Xb1{l:List Pt}{i:Nat}(h:i<l.length):(l.take (i+1)).map (·.1)=(l.take i).map (·.1)++[(l.getD i (0,0)).1]∧(l.take (i+1)).map (·.2)=(l.take i).map (·.2)++[(l.getD i (0,0)).2]:=by
 rw[X1P (0,0) h];simp
theorem Xb2{l:List Pt}(h:X0x l=false):[]=X04 l:=by simp[X04,h]
def X5o:Con:={A:=Xar,shA:=[.one],R:=.str,shR:=[(false,1)],pre:=fun _ _=>True,f:=some fun _ a=>((X04 a),((),()))}
def X1B.F(a0:U6q):Prop:=(True∧∀r1,(Eq r1 ((X0x a0),((),())))→(X00 (!r1.1) (Eq ([],((),())) ((X04 a0),((),()))) (X00 ((ln a0)==(0:Int)) (Eq ([],((),())) ((X04 a0),((),()))) (eS [(0,.val false [.lst T0q a0 none])] [(0,.val false [.lst T0q a0 none])]∧((sbI a0 0 ([]:List Int) ([]:List Int))∧∀(y2:(Int×((List Int)×(List Int)))),(sbI a0 y2.1 y2.2.1 y2.2.2)→(X00 (decide (y2.1<(ln a0))) (0≤y2.1∧(y2.1<(ln a0)∧(List.length y2.2.1+List.length [(List.getD a0 (tN y2.1) (0,0)).1]≤9223372036854775807∧((List.length y2.2.1+List.length [(List.getD a0 (tN y2.1) (0,0)).1])*8≤140737488355328∧(0≤y2.1∧(y2.1<(ln a0)∧(List.length y2.2.2+List.length [(List.getD a0 (tN y2.1) (0,0)).2]≤9223372036854775807∧((List.length y2.2.2+List.length [(List.getD a0 (tN y2.1) (0,0)).2])*8≤140737488355328∧(eS [(0,.val false [.lst T0q a0 none])] [(0,.val false [.lst T0q a0 none])]∧(sbI a0 (wI (y2.1+(1:Int))) (y2.2.1++[(List.getD a0 (tN y2.1) (0,0)).1]) (y2.2.2++[(List.getD a0 (tN y2.1) (0,0)).2]))∧(sbM a0 (wI (y2.1+(1:Int))) (y2.2.1++[(List.getD a0 (tN y2.1) (0,0)).1]) (y2.2.2++[(List.getD a0 (tN y2.1) (0,0)).2]))<(sbM a0 y2.1 y2.2.1 y2.2.2)))))))))) (True∧∀r3,(Eq r3 ((X1K (ln a0)),((),())))→(True∧∀r4,(Eq r4 ((X0l y2.2.1),((),())))→(List.length r3.1+List.length r4.1≤9223372036854775807∧(True∧∀r5,(Eq r5 ((X0i y2.2.2),((),())))→(List.length (r3.1++r4.1)+List.length r5.1≤9223372036854775807∧(True∧∀r6,(Eq r6 ((X2H ((r3.1++r4.1)++r5.1)),((),())))→(Eq (r6.1,((),())) ((X04 a0),((),())))))))))))))))
def X1B.L(a0:U6q):Nat→Option X0c:=fun p=>Go.Proofs.YtcfaphojdacmbaaGreatR.Bv.look p [(250,{kp:={hold:=[0],slots:=[3,4,5],boxes:=[],rows:=[{bx:=false,s:=3,i:=0,k:=1000387,e:=3,hot:=true},{bx:=false,s:=4,i:=0,k:=1000515,e:=3,hot:=true}]},T:=(.pair (.int .i64) (.pair XcE XcE)),I:=fun st y=>sbI a0 y.1 y.2.1 y.2.2,μ:=fun st y=>sbM a0 y.1 y.2.1 y.2.2})]
theorem X1B.pure(a0:U6q)(h:True)(hw:Wf X5o.A a0):X1B.F a0:=by
 delta X1B.F ln tN wI eS
 simp only[Bs,B0,B1,Prod.mk.injEq,X01]
 refine⟨fun h1=>Xb2 h1,fun h1=>?_⟩
 have h60:=X5F h1
 refine⟨fun h2=>?_,fun h2=>⟨⟨by omega,by omega,h60,fun e=>by subst e;exact h2 rfl,h1,rfl,rfl,rfl,rfl⟩,?_⟩⟩
 · have:a0=[]:=List.length_eq_zero_iff.1 (by omega)
   subst this;rfl
 rintro⟨i,t,v⟩ ⟨q1,q2,q3,q4,q5,q6,q7,q8,q9⟩
 simp only at q1 q2 q3 q4 q5 q6 q7 q8 q9 ⊢
 refine⟨fun hi=>?_,fun hi=>?_⟩
 · have hm:=Xb1 (l:=a0) (i:=i.toNat) (by omega)
   rw[w64 (x:=i+1) (by omega) (by omega)]
   have step:sbI a0 (i+1) (t++[(a0.getD i.toNat (0,0)).1]) (v++[(a0.getD i.toNat (0,0)).2]):=⟨by omega,by omega,q3,q4,q5,by simp;omega,by simp;omega,by rw[tn1 q1,hm.1,q8],by rw[tn1 q1,hm.2,q9]⟩
   have down:sbM a0 (i+1) (t++[(a0.getD i.toNat (0,0)).1]) (v++[(a0.getD i.toNat (0,0)).2])<sbM a0 i t v:=by unfold sbM;omega
   exact⟨q1,by omega,by omega,by omega,q1,by omega,by omega,by omega,step,down⟩
 · have e:i.toNat=a0.length:=by omega
   rw[e,List.take_length]at q8 q9
   have l1:=X0v a0.length
   have l2:=X6q t
   have l3:=X5W v
   have hp:v.length≤1099511627776:=by omega
   have hp2:t.length≤1099511627776:=by omega
   have hf:X2H (X1K a0.length++X0l t++X0i v)=X04 a0:=by
    unfold X04
    rw[if_pos ⟨q5,q4⟩,←q8,←q9]
   exact⟨by omega,by omega,hf⟩
theorem X1B.eq:EqS X5o Tryz.f124 [9] [X13.e,X3D.e,X3A.e,X1j.e,X0Q.e] [] (fun i x=>X1B.L x) (fun i x=>X1B.F x):=by intro i x;kernel_rfl
theorem X1B.ok:X0n Tryz.prog 124 X5o:=X2g X1B.eq Tryz.func124 rfl (by kernel_rfl) fun i x h hi hw=>X1B.pure x h hw
def X1B.e:GE:=⟨124,X5o,⟨_,Tryz.func124,rfl,rfl⟩,X1B.ok⟩
def X5i:Con:={A:=Xar,shA:=[.one],R:=.str,shR:=[(false,1)],pre:=fun _ _=>True,f:=some fun _ a=>((X04 a),((),()))}
def X1f.F(a0:U6q):Prop:=(True∧∀r1,(Eq r1 ((X0x a0),((),())))→(X00 (!r1.1) (Eq ([],((),())) ((X04 a0),((),()))) (X00 ((ln a0)==(0:Int)) (Eq ([],((),())) ((X04 a0),((),()))) (eS [(0,.val false [.lst T0q a0 none]),(17,.val false [.lst T0q a0 none]),(18,.val false [.int .i64 (ln a0)])] [(0,.val false [.lst T0q a0 none]),(17,.val false [.lst T0q a0 none]),(18,.val false [.int .i64 (ln a0)])]∧((sbI a0 0 ([]:List Int) ([]:List Int))∧∀(y2:(Int×((List Int)×(List Int)))),(sbI a0 y2.1 y2.2.1 y2.2.2)→(X00 (decide (y2.1<(ln a0))) (0≤y2.1∧(y2.1<(ln a0)∧(List.length y2.2.1+List.length [(List.getD a0 (tN y2.1) (0,0)).1]≤9223372036854775807∧((List.length y2.2.1+List.length [(List.getD a0 (tN y2.1) (0,0)).1])*8≤140737488355328∧(List.length y2.2.2+List.length [(List.getD a0 (tN y2.1) (0,0)).2]≤9223372036854775807∧((List.length y2.2.2+List.length [(List.getD a0 (tN y2.1) (0,0)).2])*8≤140737488355328∧(eS [(0,.val false [.lst T0q a0 none]),(17,.val false [.lst T0q a0 none]),(18,.val false [.int .i64 (ln a0)])] [(0,.val false [.lst T0q a0 none]),(17,.val false [.lst T0q a0 none]),(18,.val false [.int .i64 (ln a0)])]∧(sbI a0 (wI (y2.1+(1:Int))) (y2.2.1++[(List.getD a0 (tN y2.1) (0,0)).1]) (y2.2.2++[(List.getD a0 (tN y2.1) (0,0)).2]))∧(sbM a0 (wI (y2.1+(1:Int))) (y2.2.1++[(List.getD a0 (tN y2.1) (0,0)).1]) (y2.2.2++[(List.getD a0 (tN y2.1) (0,0)).2]))<(sbM a0 y2.1 y2.2.1 y2.2.2)))))))) (True∧∀r3,(Eq r3 ((X1K (ln a0)),((),())))→((Xdq y2.2.1)∧∀r4,(Eq r4 ((X0l y2.2.1),((),())))→(List.length r3.1+List.length r4.1≤9223372036854775807∧((Xdq y2.2.2)∧∀r5,(Eq r5 ((X0i y2.2.2),((),())))→(List.length (r3.1++r4.1)+List.length r5.1≤9223372036854775807∧(True∧∀r6,(Eq r6 ((X2H ((r3.1++r4.1)++r5.1)),((),())))→(Eq (r6.1,((),())) ((X04 a0),((),())))))))))))))))
def X1f.L(a0:U6q):Nat→Option X0c:=fun p=>Go.Proofs.YtcfaphojdacmbaaGreatR.Bv.look p [(122,{kp:={hold:=[0,17,18],slots:=[3,4,19],boxes:=[],rows:=[{bx:=false,s:=3,i:=0,k:=1000387,e:=3,hot:=true},{bx:=false,s:=4,i:=0,k:=1000515,e:=3,hot:=true}]},T:=(.pair (.int .i64) (.pair XcE XcE)),I:=fun st y=>sbI a0 y.1 y.2.1 y.2.2,μ:=fun st y=>sbM a0 y.1 y.2.1 y.2.2})]
theorem X1f.pure(a0:U6q)(h:True)(hw:Wf X5i.A a0):X1f.F a0:=by
 delta X1f.F ln tN wI eS
 simp only[Bs,B0,B1,Prod.mk.injEq,X01,Xdq]
 refine⟨fun h1=>Xb2 h1,fun h1=>?_⟩
 have h60:=X5F h1
 refine⟨fun h2=>?_,fun h2=>⟨⟨by omega,by omega,h60,fun e=>by subst e;exact h2 rfl,h1,rfl,rfl,rfl,rfl⟩,?_⟩⟩
 · have:a0=[]:=List.length_eq_zero_iff.1 (by omega)
   subst this;rfl
 rintro⟨i,t,v⟩ ⟨q1,q2,q3,q4,q5,q6,q7,q8,q9⟩
 simp only at q1 q2 q3 q4 q5 q6 q7 q8 q9 ⊢
 refine⟨fun hi=>?_,fun hi=>?_⟩
 · have hm:=Xb1 (l:=a0) (i:=i.toNat) (by omega)
   rw[w64 (x:=i+1) (by omega) (by omega)]
   have step:sbI a0 (i+1) (t++[(a0.getD i.toNat (0,0)).1]) (v++[(a0.getD i.toNat (0,0)).2]):=⟨by omega,by omega,q3,q4,q5,by simp;omega,by simp;omega,by rw[tn1 q1,hm.1,q8],by rw[tn1 q1,hm.2,q9]⟩
   have down:sbM a0 (i+1) (t++[(a0.getD i.toNat (0,0)).1]) (v++[(a0.getD i.toNat (0,0)).2])<sbM a0 i t v:=by unfold sbM;omega
   exact⟨q1,by omega,by omega,by omega,by omega,by omega,step,down⟩
 · have e:i.toNat=a0.length:=by omega
   rw[e,List.take_length]at q8 q9
   have l1:=X0v a0.length
   have l2:=X6q t
   have l3:=X5W v
   have hp:v.length≤1099511627776:=by omega
   have hp2:t.length≤1099511627776:=by omega
   have hf:X2H (X1K a0.length++X0l t++X0i v)=X04 a0:=by
    unfold X04
    rw[if_pos ⟨q5,q4⟩,←q8,←q9]
   exact⟨hp2,by omega,hp,by omega,hf⟩
theorem X1f.eq:EqS X5i Tryz.f194 [9] [X1o.e,X3N.e,X3y.e,X1h.e,X0M.e] [] (fun i x=>X1f.L x) (fun i x=>X1f.F x):=by intro i x;kernel_rfl
theorem X1f.ok:X0n Tryz.prog 194 X5i:=X2g X1f.eq Tryz.func194 rfl (by kernel_rfl) fun i x h hi hw=>X1f.pure x h hw
def X1f.e:GE:=⟨194,X5i,⟨_,Tryz.func194,rfl,rfl⟩,X1f.ok⟩
end Go.Proofs.YtcfaphojdacmbaaGreatR.B
