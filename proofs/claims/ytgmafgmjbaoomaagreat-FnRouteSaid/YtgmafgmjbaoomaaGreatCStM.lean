/- States of buckets. -/
import Derived.Test.YtgmafgmjbaoomaaGreatCSt
set_option maxRecDepth 100000
set_option linter.unusedVariables false
set_option linter.unusedSimpArgs false
namespace Go.Proofs.YtgmafgmjbaoomaaGreat.B
open Go Go.Proofs.YtgmafgmjbaoomaaGreat.Bv
def X8A{α:Type}(a:α):Prop:=False
def Xep{α β:Type}(a:α)(b:β):Prop:=False
def XjF{α β γ:Type}(a:α)(b:β)(c:γ):Prop:=False
def Xiu(s:Stt):Prop:=s.1=1∧s.2.2.2.2.1.2.1.length≤1000000000∧s.2.2.2.2.1.2.2.length≤1000000000
def X7X:Con:={A:=Xfd,shA:=[.agg 3],R:=.bool,shR:=[(false,1)],pre:=fun _ a=>(X8A a),f:=some fun _ a=>((Xc7 a),((),()))}
theorem X6V.ok:X0o Tryz.prog 51 X7X:=fun w M vs cs i x F FI b h1 h2 h3 h4 h5 h6 h7 hp=>hp.elim
def X6V.e:GE:=⟨51,X7X,⟨_,Tryz.func51,rfl,rfl⟩,X6V.ok⟩
def X7Y:Con:={A:=Xfd,shA:=[.agg 3],R:=.bool,shR:=[(false,1)],pre:=fun _ a=>(X8A a),f:=some fun _ a=>((Xc7 a),((),()))}
theorem X72.ok:X0o Tryz.prog 29 X7Y:=fun w M vs cs i x F FI b h1 h2 h3 h4 h5 h6 h7 hp=>hp.elim
def X72.e:GE:=⟨29,X7Y,⟨_,Tryz.func29,rfl,rfl⟩,X72.ok⟩
def X4V:Con:={A:=T3q,shA:=[.agg 8],R:=.bool,shR:=[(false,1)],pre:=fun _ a=>(Xiu a),f:=some fun _ a=>((X1S a),((),()))}
def X23.F(a0:U2q):Prop:=(True∧∀r1,(Eq r1 ((X2A a0.2.2.2.2.2),((),())))→(X00 (!r1.1) (Eq (false,((),())) ((X1S a0),((),()))) (X00 (a0.1==(1:Int)) (True∧∀r2,(Eq r2 ((fIn a0.2.1 0 100000),((),())))→(X00 r2.1 (True∧∀r3,(Eq r3 ((X6n a0.2.2.1),((),())))→(X00 r3.1 (True∧∀r4,(Eq r4 ((X3G a0.2.2.2.1 a0.2.2.1),((),())))→(X00 r4.1 (X00 (a0.2.2.2.2.1.1==(0:Int)) (Eq (((wI ((ln a0.2.2.2.2.1.2.1)+(ln a0.2.2.2.2.1.2.2)))==(0:Int)),((),())) ((X1S a0),((),()))) (Eq (false,((),())) ((X1S a0),((),())))) (Eq (false,((),())) ((X1S a0),((),()))))) (Eq (false,((),())) ((X1S a0),((),()))))) (Eq (false,((),())) ((X1S a0),((),()))))) (X00 (a0.1==(2:Int)) (X00 (a0.2.1==(0:Int)) (X00 (a0.2.2.1==(0:Int)) (X00 ((ln a0.2.2.2.1)==(0:Int)) ((X8A (a0.2.2.2.2.1.1,(a0.2.2.2.2.1.2.1,a0.2.2.2.2.1.2.2)))∧∀r5,(Eq r5 ((Xc7 (a0.2.2.2.2.1.1,(a0.2.2.2.2.1.2.1,a0.2.2.2.2.1.2.2))),((),())))→(Eq (r5.1,((),())) ((X1S a0),((),())))) (Eq (false,((),())) ((X1S a0),((),())))) (Eq (false,((),())) ((X1S a0),((),())))) (Eq (false,((),())) ((X1S a0),((),())))) (Eq (false,((),())) ((X1S a0),((),())))))))
theorem X23.pure(a0:U2q)(h:(Xiu a0))(hw:Wf X4V.A a0):X23.F a0:=by
 delta X23.F ln wI
 simp only[Bs,B0,B1,Prod.mk.injEq,X03,Prod.eta]
 obtain⟨hp,hl1,hl2⟩:=h
 have no:∀b,X2A a0.2.2.2.2.2=true→a0.1=1→(fIn a0.2.1 0 100000&&(X6n a0.2.2.1&&(X3G a0.2.2.2.1 a0.2.2.1&&X8s a0.2.2.2.2.1)))=b→b=X1S a0:=fun b h h1 h2=>by unfold X1S;rw[h,if_pos h1,h2,Bool.true_and]
 have no2:∀b,X2A a0.2.2.2.2.2=true→a0.1=2→(decide (a0.2.1=0)&&(decide (a0.2.2.1=0)&&(decide (a0.2.2.2.1.length=0)&&Xc7 a0.2.2.2.2.1)))=b→b=X1S a0:=fun b h h1 h2=>by unfold X1S;rw[h,if_neg (by omega),if_pos h1,h2,Bool.true_and]
 have no3:¬a0.1=1→¬a0.1=2→false=X1S a0:=fun h1 h2=>by unfold X1S;rw[if_neg h1,if_neg h2,Bool.and_false]
 have no0:X2A a0.2.2.2.2.2=false→false=X1S a0:=fun h=>by unfold X1S;rw[h,Bool.false_and]
 rw[w64 (x:=(a0.2.2.2.2.1.2.1.length:Int)+a0.2.2.2.2.1.2.2.length) (by omega) (by omega)]
 refine⟨no0,fun h0=>⟨fun h1=>⟨fun h2=>⟨fun h3=>⟨fun h4=>⟨fun h5=>no _ h0 h1 ?_,fun h5=>no _ h0 h1 ?_⟩,fun h4=>no _ h0 h1 (by simp[h4])⟩,fun h3=>no _ h0 h1 (by simp[h3])⟩,fun h2=>no _ h0 h1 (by simp[h2])⟩,fun h1=>⟨fun h1b=>⟨fun h2=>⟨fun h3=>⟨fun h4=>⟨False.elim (by omega),no2 _ h0 h1b ?_⟩,fun h4=>no2 _ h0 h1b ?_⟩,fun h3=>no2 _ h0 h1b (by simp[h3])⟩,fun h2=>no2 _ h0 h1b (by simp[h2])⟩,fun h1b=>no3 h1 h1b⟩⟩⟩
 · rw[h2,h3,h4]
   unfold X8s
   rw[decide_eq_true h5]
   simp only[Bool.true_and]
   rw[Bool.eq_iff_iff]
   simp only[beq_iff_eq,Bool.and_eq_true,decide_eq_true_eq]
   omega
 · rw[h2,h3,h4];unfold X8s;rw[decide_eq_false h5];rfl
 · rw[decide_eq_true h2,decide_eq_true h3,decide_eq_true (by omega:a0.2.2.2.1.length=0)];simp
 · rw[decide_eq_false (by omega:¬a0.2.2.2.1.length=0)];simp
theorem X23.eq:EqS X4V Tryz.f20 [4] [X0V.e,X0A.e,X2d.e,X1a.e,X6V.e] [] noL (fun i x=>X23.F x):=by intro i x;kernel_rfl
theorem X23.ok:X0o Tryz.prog 20 X4V:=X2u X23.eq Tryz.func20 rfl (by kernel_rfl) fun i x h hi hw=>X23.pure x h hw
def X23.e:GE:=⟨20,X4V,⟨_,Tryz.func20,rfl,rfl⟩,X23.ok⟩
def X4M:Con:={A:=T3q,shA:=[.agg 8],R:=.bool,shR:=[(false,1)],pre:=fun _ a=>(Xiu a),f:=some fun _ a=>((X1S a),((),()))}
def X1l.F(a0:U2q):Prop:=(X00 (decide ((ln a0.2.2.2.2.2)>(4:Int))) (Eq (false,((),())) ((X1S a0),((),()))) (eS [(1,.box 2 0)] [(1,.box 2 0)]∧((stI a0 0 a0.1 a0.2.1 a0.2.2.1 a0.2.2.2.1 a0.2.2.2.2.1.1 a0.2.2.2.2.1.2.1 a0.2.2.2.2.1.2.2 a0.2.2.2.2.2)∧∀(y1:(Int×(Int×(Int×(Int×(U5q×(Int×(U8q×((List U4q)×(List U7q)))))))))),(stI a0 y1.1 y1.2.1 y1.2.2.1 y1.2.2.2.1 y1.2.2.2.2.1 y1.2.2.2.2.2.1 y1.2.2.2.2.2.2.1 y1.2.2.2.2.2.2.2.1 y1.2.2.2.2.2.2.2.2)→(X00 (decide (y1.1<(ln y1.2.2.2.2.2.2.2.2))) (0≤y1.1∧(y1.1<(ln y1.2.2.2.2.2.2.2.2)∧(True∧∀r2,(Eq r2 ((fIn ((List.getD y1.2.2.2.2.2.2.2.2 (tN y1.1) (0,(0,(0,(0,(0,[])))))).1) 1 4),((),())))→(X00 (!r2.1) (Eq (false,((),())) ((X1S a0),((),()))) (X00 (decide (y1.1>(0:Int))) (0≤(wI (y1.1 - (1:Int)))∧((wI (y1.1 - (1:Int)))<(ln y1.2.2.2.2.2.2.2.2)∧(X00 (decide (((List.getD y1.2.2.2.2.2.2.2.2 (tN (wI (y1.1 - (1:Int)))) (0,(0,(0,(0,(0,[])))))).1)≥((List.getD y1.2.2.2.2.2.2.2.2 (tN y1.1) (0,(0,(0,(0,(0,[])))))).1))) (Eq (false,((),())) ((X1S a0),((),()))) (True∧∀r3,(Eq r3 ((fIn ((List.getD y1.2.2.2.2.2.2.2.2 (tN y1.1) (0,(0,(0,(0,(0,[])))))).2.1) 1 1000000),((),())))→(X00 (!r3.1) (Eq (false,((),())) ((X1S a0),((),()))) (True∧∀r4,(Eq r4 ((X52 ((List.getD y1.2.2.2.2.2.2.2.2 (tN y1.1) (0,(0,(0,(0,(0,[])))))).2.2.1,((List.getD y1.2.2.2.2.2.2.2.2 (tN y1.1) (0,(0,(0,(0,(0,[])))))).2.2.2.1,((List.getD y1.2.2.2.2.2.2.2.2 (tN y1.1) (0,(0,(0,(0,(0,[])))))).2.2.2.2.1,(List.getD y1.2.2.2.2.2.2.2.2 (tN y1.1) (0,(0,(0,(0,(0,[])))))).2.2.2.2.2)))),((),())))→(X00 (!r4.1) (Eq (false,((),())) ((X1S a0),((),()))) (eS [(1,.box 2 0)] [(1,.box 2 0)]∧(stI a0 (wI (y1.1+(1:Int))) y1.2.1 y1.2.2.1 y1.2.2.2.1 y1.2.2.2.2.1 y1.2.2.2.2.2.1 y1.2.2.2.2.2.2.1 y1.2.2.2.2.2.2.2.1 y1.2.2.2.2.2.2.2.2)∧(stM a0 (wI (y1.1+(1:Int))) y1.2.1 y1.2.2.1 y1.2.2.2.1 y1.2.2.2.2.1 y1.2.2.2.2.2.1 y1.2.2.2.2.2.2.1 y1.2.2.2.2.2.2.2.1 y1.2.2.2.2.2.2.2.2)<(stM a0 y1.1 y1.2.1 y1.2.2.1 y1.2.2.2.1 y1.2.2.2.2.1 y1.2.2.2.2.2.1 y1.2.2.2.2.2.2.1 y1.2.2.2.2.2.2.2.1 y1.2.2.2.2.2.2.2.2))))))))) (True∧∀r5,(Eq r5 ((fIn ((List.getD y1.2.2.2.2.2.2.2.2 (tN y1.1) (0,(0,(0,(0,(0,[])))))).2.1) 1 1000000),((),())))→(X00 (!r5.1) (Eq (false,((),())) ((X1S a0),((),()))) (True∧∀r6,(Eq r6 ((X52 ((List.getD y1.2.2.2.2.2.2.2.2 (tN y1.1) (0,(0,(0,(0,(0,[])))))).2.2.1,((List.getD y1.2.2.2.2.2.2.2.2 (tN y1.1) (0,(0,(0,(0,(0,[])))))).2.2.2.1,((List.getD y1.2.2.2.2.2.2.2.2 (tN y1.1) (0,(0,(0,(0,(0,[])))))).2.2.2.2.1,(List.getD y1.2.2.2.2.2.2.2.2 (tN y1.1) (0,(0,(0,(0,(0,[])))))).2.2.2.2.2)))),((),())))→(X00 (!r6.1) (Eq (false,((),())) ((X1S a0),((),()))) (eS [(1,.box 2 0)] [(1,.box 2 0)]∧(stI a0 (wI (y1.1+(1:Int))) y1.2.1 y1.2.2.1 y1.2.2.2.1 y1.2.2.2.2.1 y1.2.2.2.2.2.1 y1.2.2.2.2.2.2.1 y1.2.2.2.2.2.2.2.1 y1.2.2.2.2.2.2.2.2)∧(stM a0 (wI (y1.1+(1:Int))) y1.2.1 y1.2.2.1 y1.2.2.2.1 y1.2.2.2.2.1 y1.2.2.2.2.2.1 y1.2.2.2.2.2.2.1 y1.2.2.2.2.2.2.2.1 y1.2.2.2.2.2.2.2.2)<(stM a0 y1.1 y1.2.1 y1.2.2.1 y1.2.2.2.1 y1.2.2.2.2.1 y1.2.2.2.2.2.1 y1.2.2.2.2.2.2.1 y1.2.2.2.2.2.2.2.1 y1.2.2.2.2.2.2.2.2))))))))))) (X00 (y1.2.1==(1:Int)) (True∧∀r7,(Eq r7 ((fIn y1.2.2.1 0 100000),((),())))→(X00 (!r7.1) (Eq (false,((),())) ((X1S a0),((),()))) (True∧∀r8,(Eq r8 ((fIn y1.2.2.2.1 0 1099511627776),((),())))→(X00 (!r8.1) (Eq (false,((),())) ((X1S a0),((),()))) (X00 (decide ((ln y1.2.2.2.2.1)>(12:Int))) (Eq (false,((),())) ((X1S a0),((),()))) (True∧∀r9,(Eq r9 ((X8s (y1.2.2.2.2.2.1,(y1.2.2.2.2.2.2.1,y1.2.2.2.2.2.2.2.1))),((),())))→(X00 (!r9.1) (Eq (false,((),())) ((X1S a0),((),()))) (eS [(1,.box 2 0)] [(1,.box 2 0)]∧((suI a0 0 y1.2.1 y1.2.2.1 y1.2.2.2.1 y1.2.2.2.2.1 y1.2.2.2.2.2.1 y1.2.2.2.2.2.2.1 y1.2.2.2.2.2.2.2.1 y1.2.2.2.2.2.2.2.2)∧∀(y10:(Int×(Int×(Int×(Int×(U5q×(Int×(U8q×((List U4q)×(List U7q)))))))))),(suI a0 y10.1 y10.2.1 y10.2.2.1 y10.2.2.2.1 y10.2.2.2.2.1 y10.2.2.2.2.2.1 y10.2.2.2.2.2.2.1 y10.2.2.2.2.2.2.2.1 y10.2.2.2.2.2.2.2.2)→(X00 (decide (y10.1<(ln y10.2.2.2.2.1))) (0≤y10.1∧(y10.1<(ln y10.2.2.2.2.1)∧(True∧∀r11,(Eq r11 ((X31 1099511627776),((),())))→(True∧∀r12,(Eq r12 ((fIn ((List.getD y10.2.2.2.2.1 (tN y10.1) (0,0)).1) 0 r11.1),((),())))→(X00 (!r12.1) (Eq (false,((),())) ((X1S a0),((),()))) (X00 (decide (y10.1>(0:Int))) (0≤(wI (y10.1 - (1:Int)))∧((wI (y10.1 - (1:Int)))<(ln y10.2.2.2.2.1)∧(X00 (decide (((List.getD y10.2.2.2.2.1 (tN (wI (y10.1 - (1:Int)))) (0,0)).1)≥((List.getD y10.2.2.2.2.1 (tN y10.1) (0,0)).1))) (Eq (false,((),())) ((X1S a0),((),()))) (True∧∀r13,(Eq r13 ((X5F ((List.getD y10.2.2.2.2.1 (tN y10.1) (0,0)).1) y10.2.2.2.1),((),())))→(X00 r13.1 (Eq (false,((),())) ((X1S a0),((),()))) (True∧∀r14,(Eq r14 ((fIn ((List.getD y10.2.2.2.2.1 (tN y10.1) (0,0)).2) 0 1),((),())))→(X00 (!r14.1) (Eq (false,((),())) ((X1S a0),((),()))) (eS [(1,.box 2 0)] [(1,.box 2 0)]∧(suI a0 (wI (y10.1+(1:Int))) y10.2.1 y10.2.2.1 y10.2.2.2.1 y10.2.2.2.2.1 y10.2.2.2.2.2.1 y10.2.2.2.2.2.2.1 y10.2.2.2.2.2.2.2.1 y10.2.2.2.2.2.2.2.2)∧(suM a0 (wI (y10.1+(1:Int))) y10.2.1 y10.2.2.1 y10.2.2.2.1 y10.2.2.2.2.1 y10.2.2.2.2.2.1 y10.2.2.2.2.2.2.1 y10.2.2.2.2.2.2.2.1 y10.2.2.2.2.2.2.2.2)<(suM a0 y10.1 y10.2.1 y10.2.2.1 y10.2.2.2.1 y10.2.2.2.2.1 y10.2.2.2.2.2.1 y10.2.2.2.2.2.2.1 y10.2.2.2.2.2.2.2.1 y10.2.2.2.2.2.2.2.2))))))))) (True∧∀r15,(Eq r15 ((X5F ((List.getD y10.2.2.2.2.1 (tN y10.1) (0,0)).1) y10.2.2.2.1),((),())))→(X00 r15.1 (Eq (false,((),())) ((X1S a0),((),()))) (True∧∀r16,(Eq r16 ((fIn ((List.getD y10.2.2.2.2.1 (tN y10.1) (0,0)).2) 0 1),((),())))→(X00 (!r16.1) (Eq (false,((),())) ((X1S a0),((),()))) (eS [(1,.box 2 0)] [(1,.box 2 0)]∧(suI a0 (wI (y10.1+(1:Int))) y10.2.1 y10.2.2.1 y10.2.2.2.1 y10.2.2.2.2.1 y10.2.2.2.2.2.1 y10.2.2.2.2.2.2.1 y10.2.2.2.2.2.2.2.1 y10.2.2.2.2.2.2.2.2)∧(suM a0 (wI (y10.1+(1:Int))) y10.2.1 y10.2.2.1 y10.2.2.2.1 y10.2.2.2.2.1 y10.2.2.2.2.2.1 y10.2.2.2.2.2.2.1 y10.2.2.2.2.2.2.2.1 y10.2.2.2.2.2.2.2.2)<(suM a0 y10.1 y10.2.1 y10.2.2.1 y10.2.2.2.1 y10.2.2.2.2.1 y10.2.2.2.2.2.1 y10.2.2.2.2.2.2.1 y10.2.2.2.2.2.2.2.1 y10.2.2.2.2.2.2.2.2)))))))))))) (Eq (true,((),())) ((X1S a0),((),()))))))))))))) (X00 (y1.2.1==(2:Int)) (X00 (y1.2.2.1==(0:Int)) (X00 (y1.2.2.2.1==(0:Int)) (X00 ((ln y1.2.2.2.2.1)==(0:Int)) ((X8A (y1.2.2.2.2.2.1,(y1.2.2.2.2.2.2.1,y1.2.2.2.2.2.2.2.1)))∧∀r17,(Eq r17 ((Xc7 (y1.2.2.2.2.2.1,(y1.2.2.2.2.2.2.1,y1.2.2.2.2.2.2.2.1))),((),())))→(Eq (r17.1,((),())) ((X1S a0),((),())))) (Eq (false,((),())) ((X1S a0),((),())))) (Eq (false,((),())) ((X1S a0),((),())))) (Eq (false,((),())) ((X1S a0),((),())))) (Eq (false,((),())) ((X1S a0),((),())))))))))
def X1l.L(a0:U2q):Nat→Option X0a:=fun p=>Go.Proofs.YtgmafgmjbaoomaaGreat.Bv.look p [(58,{kp:={hold:=[1],slots:=[3],boxes:=[2],rows:=[]},T:=T12q,I:=fun st y=>stI a0 y.1 y.2.1 y.2.2.1 y.2.2.2.1 y.2.2.2.2.1 y.2.2.2.2.2.1 y.2.2.2.2.2.2.1 y.2.2.2.2.2.2.2.1 y.2.2.2.2.2.2.2.2,μ:=fun st y=>stM a0 y.1 y.2.1 y.2.2.1 y.2.2.2.1 y.2.2.2.2.1 y.2.2.2.2.2.1 y.2.2.2.2.2.2.1 y.2.2.2.2.2.2.2.1 y.2.2.2.2.2.2.2.2}),(7850,{kp:={hold:=[1],slots:=[5],boxes:=[2],rows:=[]},T:=T12q,I:=fun st y=>suI a0 y.1 y.2.1 y.2.2.1 y.2.2.2.1 y.2.2.2.2.1 y.2.2.2.2.2.1 y.2.2.2.2.2.2.1 y.2.2.2.2.2.2.2.1 y.2.2.2.2.2.2.2.2,μ:=fun st y=>suM a0 y.1 y.2.1 y.2.2.1 y.2.2.2.1 y.2.2.2.2.1 y.2.2.2.2.2.1 y.2.2.2.2.2.2.1 y.2.2.2.2.2.2.2.1 y.2.2.2.2.2.2.2.2})]
theorem X1l.pure(a0:U2q)(h:(Xiu a0))(hw:Wf X4M.A a0):X1l.F a0:=by
 delta X1l.F ln tN wI eS
 simp only[Bs,B0,B1,Prod.mk.injEq,X03,Prod.eta,Xaw]
 obtain⟨hp,hl1,hl2⟩:=h
 have no:∀b,X2A a0.2.2.2.2.2=true→a0.1=1→(fIn a0.2.1 0 100000&&(X6n a0.2.2.1&&(X3G a0.2.2.2.1 a0.2.2.1&&X8s a0.2.2.2.2.1)))=b→b=X1S a0:=fun b h h1 h2=>by unfold X1S;rw[h,if_pos h1,h2,Bool.true_and]
 have no2:∀b,X2A a0.2.2.2.2.2=true→a0.1=2→(decide (a0.2.1=0)&&(decide (a0.2.2.1=0)&&(decide (a0.2.2.2.1.length=0)&&Xc7 a0.2.2.2.2.1)))=b→b=X1S a0:=fun b h h1 h2=>by unfold X1S;rw[h,if_neg (by omega),if_pos h1,h2,Bool.true_and]
 have no3:¬a0.1=1→¬a0.1=2→false=X1S a0:=fun h1 h2=>by unfold X1S;rw[if_neg h1,if_neg h2,Bool.and_false]
 have no0:X2A a0.2.2.2.2.2=false→false=X1S a0:=fun h=>by unfold X1S;rw[h,Bool.false_and]
 have hw1:a0.2.2.2.2.2.length≤9223372036854775807:=hw.2.2.2.2.2.1
 have hw2:a0.2.2.2.1.length≤9223372036854775807:=hw.2.2.2.1.1
 refine⟨fun h0=>no0 ?_,fun h0=>⟨⟨rfl,by omega,by omega,fun j hj=>absurd hj (by simp)⟩,?_⟩⟩
 · rw[Bool.eq_false_iff];intro hs;have:=Xl4 hs;omega
 rintro⟨i,k,hh,m,b,f,c,g,s⟩ ⟨ea,hI⟩
 simp only at ea hI ⊢
 subst ea
 simp only at*
 have q1:=hI.1
 have q2:=hI.2.1
 refine⟨fun hi=>?_,fun hi=>?_⟩
 · have K:=Xme hI hi
   have st:∀{P:Prop},P→sxM s (i+1)<sxM s i∧P:=fun h=>⟨by unfold sxM;omega,h⟩
   have dn:sxM s (i+1)<sxM s i:=by unfold sxM;omega
   rw[w64 (x:=i+1) (by omega) (by omega),w64 (x:=i - 1) (by omega) (by omega),show(i - 1).toNat=i.toNat - 1 by omega]
   refine⟨q1,hi,fun c=>no0 (K.n1 c),fun c1=>⟨fun c4=>⟨by omega,by omega,fun c=>no0 (K.n4 c4 c),fun c5=>⟨fun c=>no0 (K.n2 c),fun c2=>⟨fun c=>no0 (K.n3 c),fun c3=>⟨⟨rfl,K.ok c1 c2 c3 (.inr c5)⟩,dn⟩⟩⟩⟩,fun c4=>⟨fun c=>no0 (K.n2 c),fun c2=>⟨fun c=>no0 (K.n3 c),fun c3=>⟨⟨rfl,K.ok c1 c2 c3 (.inl c4)⟩,dn⟩⟩⟩⟩⟩
 have hs:X2A s=true:=(Xmp hI hi).symm
 refine⟨fun h1=>⟨fun h2=>no _ hs h1 (by simp[h2]),fun h2=>⟨fun h3=>no _ hs h1 (by unfold X6n;simp[h3]),fun h3=>⟨fun h4=>no _ hs h1 ?_,fun h4=>⟨fun h5=>no _ hs h1 (by simp[h5]),fun h5=>⟨⟨rfl,by omega,by omega,fun j hj=>absurd hj (by simp)⟩,?_⟩⟩⟩⟩⟩,fun h1=>⟨fun h1b=>⟨fun h2=>⟨fun h3=>⟨fun h4=>⟨False.elim (by omega),no2 _ hs h1b ?_⟩,fun h4=>no2 _ hs h1b ?_⟩,fun h3=>no2 _ hs h1b (by simp[h3])⟩,fun h2=>no2 _ hs h1b (by simp[h2])⟩,fun h1b=>no3 h1 h1b⟩⟩
 · unfold X3G;rw[decide_eq_false (by omega:¬b.length≤12)];simp
 · rintro⟨i',k',hh',m',b',f',c',g',s'⟩ ⟨ea,hJ⟩
   simp only at ea hJ ⊢
   obtain⟨rfl,rfl,rfl,rfl,⟨rfl,rfl,rfl⟩,rfl⟩:k=k'∧hh=hh'∧m=m'∧b=b'∧(f=f'∧c=c'∧g=g')∧s=s':=by
    simp only[Prod.mk.injEq]at ea;exact⟨ea.1,ea.2.1,ea.2.2.1,ea.2.2.2.1,⟨ea.2.2.2.2.1.1,ea.2.2.2.2.1.2.1,ea.2.2.2.2.1.2.2⟩,ea.2.2.2.2.2⟩
   have r1:=hJ.1
   have r2:=hJ.2.1
   refine⟨fun hi'=>?_,fun hi'=>?_⟩
   · have K:=Xma hJ hi'
     have bad:X3G b m=false→false=X1S (k,hh,m,b,(f,c,g),s):=fun h=>no _ hs h1 (by simp[h])
     have dn:bkM b m (i'+1)<bkM b m i':=by unfold bkM;omega
     rw[w64 (x:=i'+1) (by omega) (by omega),w64 (x:=i' - 1) (by omega) (by omega),show(i' - 1).toNat=i'.toNat - 1 by omega]
     refine⟨r1,hi',fun c=>bad (K.n1 c),fun c1=>⟨fun c4=>⟨by omega,by omega,fun c=>bad (K.n4 c4 c),fun c5=>⟨fun c=>bad (K.n2 c),fun c2=>⟨fun c=>bad (K.n3 c),fun c3=>⟨⟨rfl,K.ok c1 c2 c3 (.inr c5)⟩,dn⟩⟩⟩⟩,fun c4=>⟨fun c=>bad (K.n2 c),fun c2=>⟨fun c=>bad (K.n3 c),fun c3=>⟨⟨rfl,K.ok c1 c2 c3 (.inl c4)⟩,dn⟩⟩⟩⟩⟩
   · have hb:X3G b m=true:=by rw[←Xjd hJ hi'];exact decide_eq_true (by omega)
     exact no _ hs h1 (by rw[h2,hb,h5];unfold X6n;rw[h3];rfl)
 · rw[decide_eq_true h2,decide_eq_true h3,decide_eq_true (by omega:b.length=0)];simp
 · rw[decide_eq_false (by omega:¬b.length=0)];simp
theorem X1l.eq:EqS X4M Tryz.f10 [4] [X1j.e,X1W.e,X0G.e,X1E.e,X1J.e,X72.e] [] (fun i x=>X1l.L x) (fun i x=>X1l.F x):=by intro i x;kernel_rfl
theorem X1l.ok:X0o Tryz.prog 10 X4M:=X2u X1l.eq Tryz.func10 rfl (by kernel_rfl) fun i x h hi hw=>X1l.pure x h hw
def X1l.e:GE:=⟨10,X4M,⟨_,Tryz.func10,rfl,rfl⟩,X1l.ok⟩
end Go.Proofs.YtgmafgmjbaoomaaGreat.B
