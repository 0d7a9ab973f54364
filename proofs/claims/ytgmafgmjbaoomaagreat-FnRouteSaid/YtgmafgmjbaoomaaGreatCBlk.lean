/- Blocks:shown. -/
import Derived.Test.YtgmafgmjbaoomaaGreatCBits
set_option maxRecDepth 100000
set_option linter.unusedVariables false
set_option linter.unusedSimpArgs false
namespace Go.Proofs.YtgmafgmjbaoomaaGreat.B
open Go Go.Proofs.YtgmafgmjbaoomaaGreat.Bv
def X0c(l:List Pt):List UInt8:=if X1G l=true∧l≠[] then X28 (X1H l.length++X0j (l.map (·.1))++X0f (l.map (·.2))) else []
theorem X7f{l:List Pt}(h:X1G l=true):l.length≤60:=by
 simp only[X1G,Bool.and_eq_true,decide_eq_true_eq]at h;exact h.1
def sbI(l:List Pt)(i:Int)(t v:List Int):Prop:=0≤i∧i≤l.length∧l.length≤60∧l≠[]∧X1G l=true∧(t.length:Int)=i∧(v.length:Int)=i∧t=(l.take i.toNat).map (·.1)∧v=(l.take i.toNat).map (·.2)
def sbM(l:List Pt)(i:Int)(t v:List Int):Nat:=(l.length - i).toNat
theorem X9O{l:List Pt}{i:Nat}(h:i<l.length):(l.take (i+1)).map (·.1)=(l.take i).map (·.1)++[(l.getD i (0,0)).1]∧(l.take (i+1)).map (·.2)=(l.take i).map (·.2)++[(l.getD i (0,0)).2]:=by
 rw[X0S (0,0) h];simp
theorem Xa0{l:List Pt}(h:X1G l=false):[]=X0c l:=by simp[X0c,h]
def X4e:Con:={A:=X60,shA:=[.one],R:=.str,shR:=[(false,1)],pre:=fun _ _=>True,f:=some fun _ a=>((X0c a),((),()))}
def X1d.F(a0:U5q):Prop:=(True∧∀r1,(Eq r1 ((X1G a0),((),())))→(X00 (!r1.1) (Eq ([],((),())) ((X0c a0),((),()))) (X00 ((ln a0)==(0:Int)) (Eq ([],((),())) ((X0c a0),((),()))) (eS [(0,.val false [.lst T0q a0 none])] [(0,.val false [.lst T0q a0 none])]∧((sbI a0 0 ([]:List Int) ([]:List Int))∧∀(y2:(Int×((List Int)×(List Int)))),(sbI a0 y2.1 y2.2.1 y2.2.2)→(X00 (decide (y2.1<(ln a0))) (0≤y2.1∧(y2.1<(ln a0)∧(List.length y2.2.1+List.length [(List.getD a0 (tN y2.1) (0,0)).1]≤9223372036854775807∧((List.length y2.2.1+List.length [(List.getD a0 (tN y2.1) (0,0)).1])*8≤140737488355328∧(0≤y2.1∧(y2.1<(ln a0)∧(List.length y2.2.2+List.length [(List.getD a0 (tN y2.1) (0,0)).2]≤9223372036854775807∧((List.length y2.2.2+List.length [(List.getD a0 (tN y2.1) (0,0)).2])*8≤140737488355328∧(eS [(0,.val false [.lst T0q a0 none])] [(0,.val false [.lst T0q a0 none])]∧(sbI a0 (wI (y2.1+(1:Int))) (y2.2.1++[(List.getD a0 (tN y2.1) (0,0)).1]) (y2.2.2++[(List.getD a0 (tN y2.1) (0,0)).2]))∧(sbM a0 (wI (y2.1+(1:Int))) (y2.2.1++[(List.getD a0 (tN y2.1) (0,0)).1]) (y2.2.2++[(List.getD a0 (tN y2.1) (0,0)).2]))<(sbM a0 y2.1 y2.2.1 y2.2.2)))))))))) (True∧∀r3,(Eq r3 ((X1H (ln a0)),((),())))→(True∧∀r4,(Eq r4 ((X0j y2.2.1),((),())))→(List.length r3.1+List.length r4.1≤9223372036854775807∧(True∧∀r5,(Eq r5 ((X0f y2.2.2),((),())))→(List.length (r3.1++r4.1)+List.length r5.1≤9223372036854775807∧(True∧∀r6,(Eq r6 ((X28 ((r3.1++r4.1)++r5.1)),((),())))→(Eq (r6.1,((),())) ((X0c a0),((),())))))))))))))))
def X1d.L(a0:U5q):Nat→Option X0a:=fun p=>Go.Proofs.YtgmafgmjbaoomaaGreat.Bv.look p [(250,{kp:={hold:=[0],slots:=[3,4,5],boxes:=[],rows:=[{bx:=false,s:=3,i:=0,k:=1000387,e:=3,hot:=true},{bx:=false,s:=4,i:=0,k:=1000515,e:=3,hot:=true}]},T:=(.pair (.int .i64) (.pair X8Z X8Z)),I:=fun st y=>sbI a0 y.1 y.2.1 y.2.2,μ:=fun st y=>sbM a0 y.1 y.2.1 y.2.2})]
theorem X1d.pure(a0:U5q)(h:True)(hw:Wf X4e.A a0):X1d.F a0:=by
 delta X1d.F ln tN wI eS
 simp only[Bs,B0,B1,Prod.mk.injEq,X03]
 refine⟨fun h1=>Xa0 h1,fun h1=>?_⟩
 have h60:=X7f h1
 refine⟨fun h2=>?_,fun h2=>⟨⟨by omega,by omega,h60,fun e=>by subst e;exact h2 rfl,h1,rfl,rfl,rfl,rfl⟩,?_⟩⟩
 · have:a0=[]:=List.length_eq_zero_iff.1 (by omega)
   subst this;rfl
 rintro⟨i,t,v⟩ ⟨q1,q2,q3,q4,q5,q6,q7,q8,q9⟩
 simp only at q1 q2 q3 q4 q5 q6 q7 q8 q9 ⊢
 refine⟨fun hi=>?_,fun hi=>?_⟩
 · have hm:=X9O (l:=a0) (i:=i.toNat) (by omega)
   rw[w64 (x:=i+1) (by omega) (by omega)]
   have step:sbI a0 (i+1) (t++[(a0.getD i.toNat (0,0)).1]) (v++[(a0.getD i.toNat (0,0)).2]):=⟨by omega,by omega,q3,q4,q5,by simp;omega,by simp;omega,by rw[tn1 q1,hm.1,q8],by rw[tn1 q1,hm.2,q9]⟩
   have down:sbM a0 (i+1) (t++[(a0.getD i.toNat (0,0)).1]) (v++[(a0.getD i.toNat (0,0)).2])<sbM a0 i t v:=by unfold sbM;omega
   exact⟨q1,by omega,by omega,by omega,q1,by omega,by omega,by omega,step,down⟩
 · have e:i.toNat=a0.length:=by omega
   rw[e,List.take_length]at q8 q9
   have l1:=X1v a0.length
   have l2:=X55 t
   have l3:=X4K v
   have hp:v.length≤1099511627776:=by omega
   have hp2:t.length≤1099511627776:=by omega
   have hf:X28 (X1H a0.length++X0j t++X0f v)=X0c a0:=by
    unfold X0c
    rw[if_pos ⟨q5,q4⟩,←q8,←q9]
   exact⟨by omega,by omega,hf⟩
theorem X1d.eq:EqS X4e Tryz.f61 [9] [X2Z.e,X1t.e,X2W.e,X0Z.e,X0H.e] [] (fun i x=>X1d.L x) (fun i x=>X1d.F x):=by intro i x;kernel_rfl
theorem X1d.ok:X0o Tryz.prog 61 X4e:=X2u X1d.eq Tryz.func61 rfl (by kernel_rfl) fun i x h hi hw=>X1d.pure x h hw
def X1d.e:GE:=⟨61,X4e,⟨_,Tryz.func61,rfl,rfl⟩,X1d.ok⟩
def X4c:Con:={A:=X60,shA:=[.one],R:=.str,shR:=[(false,1)],pre:=fun _ _=>True,f:=some fun _ a=>((X0c a),((),()))}
def X1b.F(a0:U5q):Prop:=(True∧∀r1,(Eq r1 ((X1G a0),((),())))→(X00 (!r1.1) (Eq ([],((),())) ((X0c a0),((),()))) (X00 ((ln a0)==(0:Int)) (Eq ([],((),())) ((X0c a0),((),()))) (eS [(0,.val false [.lst T0q a0 none]),(17,.val false [.lst T0q a0 none]),(18,.val false [.int .i64 (ln a0)])] [(0,.val false [.lst T0q a0 none]),(17,.val false [.lst T0q a0 none]),(18,.val false [.int .i64 (ln a0)])]∧((sbI a0 0 ([]:List Int) ([]:List Int))∧∀(y2:(Int×((List Int)×(List Int)))),(sbI a0 y2.1 y2.2.1 y2.2.2)→(X00 (decide (y2.1<(ln a0))) (0≤y2.1∧(y2.1<(ln a0)∧(List.length y2.2.1+List.length [(List.getD a0 (tN y2.1) (0,0)).1]≤9223372036854775807∧((List.length y2.2.1+List.length [(List.getD a0 (tN y2.1) (0,0)).1])*8≤140737488355328∧(List.length y2.2.2+List.length [(List.getD a0 (tN y2.1) (0,0)).2]≤9223372036854775807∧((List.length y2.2.2+List.length [(List.getD a0 (tN y2.1) (0,0)).2])*8≤140737488355328∧(eS [(0,.val false [.lst T0q a0 none]),(17,.val false [.lst T0q a0 none]),(18,.val false [.int .i64 (ln a0)])] [(0,.val false [.lst T0q a0 none]),(17,.val false [.lst T0q a0 none]),(18,.val false [.int .i64 (ln a0)])]∧(sbI a0 (wI (y2.1+(1:Int))) (y2.2.1++[(List.getD a0 (tN y2.1) (0,0)).1]) (y2.2.2++[(List.getD a0 (tN y2.1) (0,0)).2]))∧(sbM a0 (wI (y2.1+(1:Int))) (y2.2.1++[(List.getD a0 (tN y2.1) (0,0)).1]) (y2.2.2++[(List.getD a0 (tN y2.1) (0,0)).2]))<(sbM a0 y2.1 y2.2.1 y2.2.2)))))))) (True∧∀r3,(Eq r3 ((X1H (ln a0)),((),())))→((Xco y2.2.1)∧∀r4,(Eq r4 ((X0j y2.2.1),((),())))→(List.length r3.1+List.length r4.1≤9223372036854775807∧((Xco y2.2.2)∧∀r5,(Eq r5 ((X0f y2.2.2),((),())))→(List.length (r3.1++r4.1)+List.length r5.1≤9223372036854775807∧(True∧∀r6,(Eq r6 ((X28 ((r3.1++r4.1)++r5.1)),((),())))→(Eq (r6.1,((),())) ((X0c a0),((),())))))))))))))))
def X1b.L(a0:U5q):Nat→Option X0a:=fun p=>Go.Proofs.YtgmafgmjbaoomaaGreat.Bv.look p [(122,{kp:={hold:=[0,17,18],slots:=[3,4,19],boxes:=[],rows:=[{bx:=false,s:=3,i:=0,k:=1000387,e:=3,hot:=true},{bx:=false,s:=4,i:=0,k:=1000515,e:=3,hot:=true}]},T:=(.pair (.int .i64) (.pair X8Z X8Z)),I:=fun st y=>sbI a0 y.1 y.2.1 y.2.2,μ:=fun st y=>sbM a0 y.1 y.2.1 y.2.2})]
theorem X1b.pure(a0:U5q)(h:True)(hw:Wf X4c.A a0):X1b.F a0:=by
 delta X1b.F ln tN wI eS
 simp only[Bs,B0,B1,Prod.mk.injEq,X03,Xco]
 refine⟨fun h1=>Xa0 h1,fun h1=>?_⟩
 have h60:=X7f h1
 refine⟨fun h2=>?_,fun h2=>⟨⟨by omega,by omega,h60,fun e=>by subst e;exact h2 rfl,h1,rfl,rfl,rfl,rfl⟩,?_⟩⟩
 · have:a0=[]:=List.length_eq_zero_iff.1 (by omega)
   subst this;rfl
 rintro⟨i,t,v⟩ ⟨q1,q2,q3,q4,q5,q6,q7,q8,q9⟩
 simp only at q1 q2 q3 q4 q5 q6 q7 q8 q9 ⊢
 refine⟨fun hi=>?_,fun hi=>?_⟩
 · have hm:=X9O (l:=a0) (i:=i.toNat) (by omega)
   rw[w64 (x:=i+1) (by omega) (by omega)]
   have step:sbI a0 (i+1) (t++[(a0.getD i.toNat (0,0)).1]) (v++[(a0.getD i.toNat (0,0)).2]):=⟨by omega,by omega,q3,q4,q5,by simp;omega,by simp;omega,by rw[tn1 q1,hm.1,q8],by rw[tn1 q1,hm.2,q9]⟩
   have down:sbM a0 (i+1) (t++[(a0.getD i.toNat (0,0)).1]) (v++[(a0.getD i.toNat (0,0)).2])<sbM a0 i t v:=by unfold sbM;omega
   exact⟨q1,by omega,by omega,by omega,by omega,by omega,step,down⟩
 · have e:i.toNat=a0.length:=by omega
   rw[e,List.take_length]at q8 q9
   have l1:=X1v a0.length
   have l2:=X55 t
   have l3:=X4K v
   have hp:v.length≤1099511627776:=by omega
   have hp2:t.length≤1099511627776:=by omega
   have hf:X28 (X1H a0.length++X0j t++X0f v)=X0c a0:=by
    unfold X0c
    rw[if_pos ⟨q5,q4⟩,←q8,←q9]
   exact⟨hp2,by omega,hp,by omega,hf⟩
theorem X1b.eq:EqS X4c Tryz.f102 [9] [X36.e,X1s.e,X2V.e,X12.e,X0F.e] [] (fun i x=>X1b.L x) (fun i x=>X1b.F x):=by intro i x;kernel_rfl
theorem X1b.ok:X0o Tryz.prog 102 X4c:=X2u X1b.eq Tryz.func102 rfl (by kernel_rfl) fun i x h hi hw=>X1b.pure x h hw
def X1b.e:GE:=⟨102,X4c,⟨_,Tryz.func102,rfl,rfl⟩,X1b.ok⟩
end Go.Proofs.YtgmafgmjbaoomaaGreat.B
