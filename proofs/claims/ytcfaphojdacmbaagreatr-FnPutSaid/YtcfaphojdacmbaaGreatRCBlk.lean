/- Blocks:shown. -/
import Derived.Test.YtcfaphojdacmbaaGreatRCBits
set_option maxRecDepth 100000
set_option linter.unusedVariables false
set_option linter.unusedSimpArgs false
namespace Go.Proofs.YtcfaphojdacmbaaGreatR.B
open Go Go.Proofs.YtcfaphojdacmbaaGreatR.Bv
def X04(l:List Pt):List UInt8:=if X0u l=true∧l≠[] then X2K (X1P l.length++X0m (l.map (·.1))++X0i (l.map (·.2))) else []
theorem X4V{l:List Pt}(h:X0u l=true):l.length≤60:=by
 simp only[X0u,Bool.and_eq_true,decide_eq_true_eq]at h;exact h.1
def sbI(l:List Pt)(i:Int)(t v:List Int):Prop:=0≤i∧i≤l.length∧l.length≤60∧l≠[]∧X0u l=true∧(t.length:Int)=i∧(v.length:Int)=i∧t=(l.take i.toNat).map (·.1)∧v=(l.take i.toNat).map (·.2)
def sbM(l:List Pt)(i:Int)(t v:List Int):Nat:=(l.length - i).toNat
theorem Xbq{l:List Pt}{i:Nat}(h:i<l.length):(l.take (i+1)).map (·.1)=(l.take i).map (·.1)++[(l.getD i (0,0)).1]∧(l.take (i+1)).map (·.2)=(l.take i).map (·.2)++[(l.getD i (0,0)).2]:=by
 rw[X1x (0,0) h];simp
theorem Xbs{l:List Pt}(h:X0u l=false):[]=X04 l:=by simp[X04,h]
def X5r:Con:={A:=X9H,shA:=[.one],R:=.str,shR:=[(false,1)],pre:=fun _ _=>True,f:=some fun _ a=>((X04 a),((),()))}
def X1D.F(a0:U6q):Prop:=(True∧∀r1,(Eq r1 ((X0u a0),((),())))→(X00 (!r1.1) (Eq ([],((),())) ((X04 a0),((),()))) (X00 ((ln a0)==(0:Int)) (Eq ([],((),())) ((X04 a0),((),()))) (eS [(0,.val false [.lst T0q a0 none])] [(0,.val false [.lst T0q a0 none])]∧((sbI a0 0 ([]:List Int) ([]:List Int))∧∀(y2:(Int×((List Int)×(List Int)))),(sbI a0 y2.1 y2.2.1 y2.2.2)→(X00 (decide (y2.1<(ln a0))) (0≤y2.1∧(y2.1<(ln a0)∧(List.length y2.2.1+List.length [(List.getD a0 (tN y2.1) (0,0)).1]≤9223372036854775807∧((List.length y2.2.1+List.length [(List.getD a0 (tN y2.1) (0,0)).1])*8≤140737488355328∧(0≤y2.1∧(y2.1<(ln a0)∧(List.length y2.2.2+List.length [(List.getD a0 (tN y2.1) (0,0)).2]≤9223372036854775807∧((List.length y2.2.2+List.length [(List.getD a0 (tN y2.1) (0,0)).2])*8≤140737488355328∧(eS [(0,.val false [.lst T0q a0 none])] [(0,.val false [.lst T0q a0 none])]∧(sbI a0 (wI (y2.1+(1:Int))) (y2.2.1++[(List.getD a0 (tN y2.1) (0,0)).1]) (y2.2.2++[(List.getD a0 (tN y2.1) (0,0)).2]))∧(sbM a0 (wI (y2.1+(1:Int))) (y2.2.1++[(List.getD a0 (tN y2.1) (0,0)).1]) (y2.2.2++[(List.getD a0 (tN y2.1) (0,0)).2]))<(sbM a0 y2.1 y2.2.1 y2.2.2)))))))))) (True∧∀r3,(Eq r3 ((X1P (ln a0)),((),())))→(True∧∀r4,(Eq r4 ((X0m y2.2.1),((),())))→(List.length r3.1+List.length r4.1≤9223372036854775807∧(True∧∀r5,(Eq r5 ((X0i y2.2.2),((),())))→(List.length (r3.1++r4.1)+List.length r5.1≤9223372036854775807∧(True∧∀r6,(Eq r6 ((X2K ((r3.1++r4.1)++r5.1)),((),())))→(Eq (r6.1,((),())) ((X04 a0),((),())))))))))))))))
def X1D.L(a0:U6q):Nat→Option X0d:=fun p=>Go.Proofs.YtcfaphojdacmbaaGreatR.Bv.look p [(250,{kp:={hold:=[0],slots:=[3,4,5],boxes:=[],rows:=[{bx:=false,s:=3,i:=0,k:=1000387,e:=3,hot:=true},{bx:=false,s:=4,i:=0,k:=1000515,e:=3,hot:=true}]},T:=(.pair (.int .i64) (.pair XbW XbW)),I:=fun st y=>sbI a0 y.1 y.2.1 y.2.2,μ:=fun st y=>sbM a0 y.1 y.2.1 y.2.2})]
theorem X1D.pure(a0:U6q)(h:True)(hw:Wf X5r.A a0):X1D.F a0:=by
 delta X1D.F ln tN wI eS
 simp only[Bs,B0,B1,Prod.mk.injEq,X01]
 refine⟨fun h1=>Xbs h1,fun h1=>?_⟩
 have h60:=X4V h1
 refine⟨fun h2=>?_,fun h2=>⟨⟨by omega,by omega,h60,fun e=>by subst e;exact h2 rfl,h1,rfl,rfl,rfl,rfl⟩,?_⟩⟩
 · have:a0=[]:=List.length_eq_zero_iff.1 (by omega)
   subst this;rfl
 rintro⟨i,t,v⟩ ⟨q1,q2,q3,q4,q5,q6,q7,q8,q9⟩
 simp only at q1 q2 q3 q4 q5 q6 q7 q8 q9 ⊢
 refine⟨fun hi=>?_,fun hi=>?_⟩
 · have hm:=Xbq (l:=a0) (i:=i.toNat) (by omega)
   rw[w64 (x:=i+1) (by omega) (by omega)]
   have step:sbI a0 (i+1) (t++[(a0.getD i.toNat (0,0)).1]) (v++[(a0.getD i.toNat (0,0)).2]):=⟨by omega,by omega,q3,q4,q5,by simp;omega,by simp;omega,by rw[tn1 q1,hm.1,q8],by rw[tn1 q1,hm.2,q9]⟩
   have down:sbM a0 (i+1) (t++[(a0.getD i.toNat (0,0)).1]) (v++[(a0.getD i.toNat (0,0)).2])<sbM a0 i t v:=by unfold sbM;omega
   exact⟨q1,by omega,by omega,by omega,q1,by omega,by omega,by omega,step,down⟩
 · have e:i.toNat=a0.length:=by omega
   rw[e,List.take_length]at q8 q9
   have l1:=X0w a0.length
   have l2:=X6A t
   have l3:=X5Z v
   have hp:v.length≤1099511627776:=by omega
   have hp2:t.length≤1099511627776:=by omega
   have hf:X2K (X1P a0.length++X0m t++X0i v)=X04 a0:=by
    unfold X04
    rw[if_pos ⟨q5,q4⟩,←q8,←q9]
   exact⟨by omega,by omega,hf⟩
theorem X1D.eq:EqS X5r Tryz.f124 [9] [X15.e,X3N.e,X3D.e,X1j.e,X0N.e] [] (fun i x=>X1D.L x) (fun i x=>X1D.F x):=by intro i x;kernel_rfl
theorem X1D.ok:X0l Tryz.prog 124 X5r:=X2d X1D.eq Tryz.func124 rfl (by kernel_rfl) fun i x h hi hw=>X1D.pure x h hw
def X1D.e:GE:=⟨124,X5r,⟨_,Tryz.func124,rfl,rfl⟩,X1D.ok⟩
def X5w:Con:={A:=X9H,shA:=[.one],R:=.str,shR:=[(false,1)],pre:=fun _ _=>True,f:=some fun _ a=>((X04 a),((),()))}
def X1k.F(a0:U6q):Prop:=(True∧∀r1,(Eq r1 ((X0u a0),((),())))→(X00 (!r1.1) (Eq ([],((),())) ((X04 a0),((),()))) (X00 ((ln a0)==(0:Int)) (Eq ([],((),())) ((X04 a0),((),()))) (eS [(0,.val false [.lst T0q a0 none]),(17,.val false [.lst T0q a0 none]),(18,.val false [.int .i64 (ln a0)])] [(0,.val false [.lst T0q a0 none]),(17,.val false [.lst T0q a0 none]),(18,.val false [.int .i64 (ln a0)])]∧((sbI a0 0 ([]:List Int) ([]:List Int))∧∀(y2:(Int×((List Int)×(List Int)))),(sbI a0 y2.1 y2.2.1 y2.2.2)→(X00 (decide (y2.1<(ln a0))) (0≤y2.1∧(y2.1<(ln a0)∧(List.length y2.2.1+List.length [(List.getD a0 (tN y2.1) (0,0)).1]≤9223372036854775807∧((List.length y2.2.1+List.length [(List.getD a0 (tN y2.1) (0,0)).1])*8≤140737488355328∧(List.length y2.2.2+List.length [(List.getD a0 (tN y2.1) (0,0)).2]≤9223372036854775807∧((List.length y2.2.2+List.length [(List.getD a0 (tN y2.1) (0,0)).2])*8≤140737488355328∧(eS [(0,.val false [.lst T0q a0 none]),(17,.val false [.lst T0q a0 none]),(18,.val false [.int .i64 (ln a0)])] [(0,.val false [.lst T0q a0 none]),(17,.val false [.lst T0q a0 none]),(18,.val false [.int .i64 (ln a0)])]∧(sbI a0 (wI (y2.1+(1:Int))) (y2.2.1++[(List.getD a0 (tN y2.1) (0,0)).1]) (y2.2.2++[(List.getD a0 (tN y2.1) (0,0)).2]))∧(sbM a0 (wI (y2.1+(1:Int))) (y2.2.1++[(List.getD a0 (tN y2.1) (0,0)).1]) (y2.2.2++[(List.getD a0 (tN y2.1) (0,0)).2]))<(sbM a0 y2.1 y2.2.1 y2.2.2)))))))) (True∧∀r3,(Eq r3 ((X1P (ln a0)),((),())))→((XeT y2.2.1)∧∀r4,(Eq r4 ((X0m y2.2.1),((),())))→(List.length r3.1+List.length r4.1≤9223372036854775807∧((XeT y2.2.2)∧∀r5,(Eq r5 ((X0i y2.2.2),((),())))→(List.length (r3.1++r4.1)+List.length r5.1≤9223372036854775807∧(True∧∀r6,(Eq r6 ((X2K ((r3.1++r4.1)++r5.1)),((),())))→(Eq (r6.1,((),())) ((X04 a0),((),())))))))))))))))
def X1k.L(a0:U6q):Nat→Option X0d:=fun p=>Go.Proofs.YtcfaphojdacmbaaGreatR.Bv.look p [(122,{kp:={hold:=[0,17,18],slots:=[3,4,19],boxes:=[],rows:=[{bx:=false,s:=3,i:=0,k:=1000387,e:=3,hot:=true},{bx:=false,s:=4,i:=0,k:=1000515,e:=3,hot:=true}]},T:=(.pair (.int .i64) (.pair XbW XbW)),I:=fun st y=>sbI a0 y.1 y.2.1 y.2.2,μ:=fun st y=>sbM a0 y.1 y.2.1 y.2.2})]
theorem X1k.pure(a0:U6q)(h:True)(hw:Wf X5w.A a0):X1k.F a0:=by
 delta X1k.F ln tN wI eS
 simp only[Bs,B0,B1,Prod.mk.injEq,X01,XeT]
 refine⟨fun h1=>Xbs h1,fun h1=>?_⟩
 have h60:=X4V h1
 refine⟨fun h2=>?_,fun h2=>⟨⟨by omega,by omega,h60,fun e=>by subst e;exact h2 rfl,h1,rfl,rfl,rfl,rfl⟩,?_⟩⟩
 · have:a0=[]:=List.length_eq_zero_iff.1 (by omega)
   subst this;rfl
 rintro⟨i,t,v⟩ ⟨q1,q2,q3,q4,q5,q6,q7,q8,q9⟩
 simp only at q1 q2 q3 q4 q5 q6 q7 q8 q9 ⊢
 refine⟨fun hi=>?_,fun hi=>?_⟩
 · have hm:=Xbq (l:=a0) (i:=i.toNat) (by omega)
   rw[w64 (x:=i+1) (by omega) (by omega)]
   have step:sbI a0 (i+1) (t++[(a0.getD i.toNat (0,0)).1]) (v++[(a0.getD i.toNat (0,0)).2]):=⟨by omega,by omega,q3,q4,q5,by simp;omega,by simp;omega,by rw[tn1 q1,hm.1,q8],by rw[tn1 q1,hm.2,q9]⟩
   have down:sbM a0 (i+1) (t++[(a0.getD i.toNat (0,0)).1]) (v++[(a0.getD i.toNat (0,0)).2])<sbM a0 i t v:=by unfold sbM;omega
   exact⟨q1,by omega,by omega,by omega,by omega,by omega,step,down⟩
 · have e:i.toNat=a0.length:=by omega
   rw[e,List.take_length]at q8 q9
   have l1:=X0w a0.length
   have l2:=X6A t
   have l3:=X5Z v
   have hp:v.length≤1099511627776:=by omega
   have hp2:t.length≤1099511627776:=by omega
   have hf:X2K (X1P a0.length++X0m t++X0i v)=X04 a0:=by
    unfold X04
    rw[if_pos ⟨q5,q4⟩,←q8,←q9]
   exact⟨hp2,by omega,hp,by omega,hf⟩
theorem X1k.eq:EqS X5w Tryz.f194 [9] [X1q.e,X3T.e,X3F.e,X1g.e,X0O.e] [] (fun i x=>X1k.L x) (fun i x=>X1k.F x):=by intro i x;kernel_rfl
theorem X1k.ok:X0l Tryz.prog 194 X5w:=X2d X1k.eq Tryz.func194 rfl (by kernel_rfl) fun i x h hi hw=>X1k.pure x h hw
def X1k.e:GE:=⟨194,X5w,⟨_,Tryz.func194,rfl,rfl⟩,X1k.ok⟩
end Go.Proofs.YtcfaphojdacmbaaGreatR.B
