/- What the law computes. -/
import Derived.Test.YtcfaphojdacmbaaGreatRCLawD
set_option linter.unusedVariables false
set_option linter.unusedSimpArgs false
namespace Go.Proofs.YtcfaphojdacmbaaGreatR.B
open Go Go.Proofs.YtcfaphojdacmbaaGreatR.Bv
def rzI(code:List Int)(floor:Int)(was:List Ser)(i xf:Int)(xc:List Ser)(xg:List Str):Prop:=0≤i∧RZ was floor (xf,(xc,xg))
def rzM(code:List Int)(floor:Int)(was:List Ser)(i xf:Int)(xc:List Ser)(xg:List Str):Nat:=(was.length - i).toNat
def X2Z.F(a0:(List Int)):Prop:=(True∧∀r1,(Eq r1 ((fBig a0),((),())))→(X00 r1.1 (Eq (true,((),())) (true,((),()))) (True∧∀r2,(XgH a0 r2)→((Xm4 (r2.1.1.1,(r2.1.1.2.1,r2.1.1.2.2)) r2.1.2)∧∀r3,(Eq r3 ((X6Q (r2.1.1.1,(r2.1.1.2.1,r2.1.1.2.2)) r2.1.2),((),())))→((X55 (r2.1.1.1,(r2.1.1.2.1,r2.1.1.2.2)))∧∀r4,(Eq r4 ((X0L (r2.1.1.1,(r2.1.1.2.1,r2.1.1.2.2))),((),())))→(X00 (!r4.1) (X00 ((ln r3.1.2.2)==(0:Int)) (Eq ((r3.1.1==(0:Int)),((),())) (true,((),()))) (Eq (false,((),())) (true,((),())))) (X00 (decide (r2.1.2>r2.1.1.1)) (X00 (decide (r2.1.2≤(1099511627776:Int))) ((X55 (r2.1.1.1,(r2.1.1.2.1,r2.1.1.2.2)))∧∀r5,(Eq r5 ((Xa1 (r2.1.1.1,(r2.1.1.2.1,r2.1.1.2.2))),((),())))→(eS [(5,.box 6 0),(6,.val false [.int .i64 r2.1.2]),(7,.val false [.lst T2q r5.1 none])] [(5,.box 6 0),(6,.val false [.int .i64 r2.1.2]),(7,.val false [.lst T2q r5.1 none])]∧((rzI a0 r2.1.2 r5.1 0 r3.1.1 r3.1.2.1 r3.1.2.2)∧∀(y6:(Int×U3q)),(rzI a0 r2.1.2 r5.1 y6.1 y6.2.1 y6.2.2.1 y6.2.2.2)→(X00 (decide (y6.1<(ln r5.1))) (0≤y6.1∧(y6.1<(ln r5.1)∧(True∧∀r7,(Eq r7 ((X6Z ((List.getD r5.1 (tN y6.1) ([],[])).2) r2.1.2 1099511627777),((),())))→(0≤y6.1∧(y6.1<(ln r5.1)∧((X9D (y6.2.1,(y6.2.2.1,y6.2.2.2)) ((List.getD r5.1 (tN y6.1) ([],[])).1) 0 1099511627777)∧∀r8,(Eq r8 ((X6S (y6.2.1,(y6.2.2.1,y6.2.2.2)) ((List.getD r5.1 (tN y6.1) ([],[])).1) 0 1099511627777),((),())))→(True∧∀r9,(Eq r9 ((X6O r8.1 r7.1),((),())))→(X00 (!r9.1) (Eq (false,((),())) (true,((),()))) ((X55 (y6.2.1,(y6.2.2.1,y6.2.2.2)))∧∀r10,(Eq r10 ((XaM (y6.2.1,(y6.2.2.1,y6.2.2.2))),((),())))→(0≤y6.1∧(y6.1<(ln r5.1)∧((X9D (r10.1.1,(r10.1.2.1,r10.1.2.2)) ((List.getD r5.1 (tN y6.1) ([],[])).1) 0 1099511627777)∧∀r11,(Eq r11 ((X6S (r10.1.1,(r10.1.2.1,r10.1.2.2)) ((List.getD r5.1 (tN y6.1) ([],[])).1) 0 1099511627777),((),())))→(True∧∀r12,(Eq r12 ((X6O r11.1 r7.1),((),())))→(X00 (!r12.1) (Eq (false,((),())) (true,((),()))) (eS [(5,.box 6 0),(6,.val false [.int .i64 r2.1.2]),(7,.val false [.lst T2q r5.1 none])] [(5,.box 6 0),(6,.val false [.int .i64 r2.1.2]),(7,.val false [.lst T2q r5.1 none])]∧(rzI a0 r2.1.2 r5.1 (wI (y6.1+(1:Int))) y6.2.1 y6.2.2.1 y6.2.2.2)∧(rzM a0 r2.1.2 r5.1 (wI (y6.1+(1:Int))) y6.2.1 y6.2.2.1 y6.2.2.2)<(rzM a0 r2.1.2 r5.1 y6.1 y6.2.1 y6.2.2.1 y6.2.2.2)))))))))))))))) ((Xqs (y6.2.1,(y6.2.2.1,y6.2.2.2)) [99,112,117] [((wI (r2.1.2 - (1:Int))),1)])∧∀r13,(Eq r13 ((X7T (y6.2.1,(y6.2.2.1,y6.2.2.2)) [99,112,117] [((wI (r2.1.2 - (1:Int))),1)]),((),())))→(X00 (y6.2.1==r2.1.2) ((X55 (y6.2.1,(y6.2.2.1,y6.2.2.2)))∧∀r14,(Eq r14 ((X0L (y6.2.1,(y6.2.2.1,y6.2.2.2))),((),())))→(X00 r14.1 (X00 (r2.1.2==(0:Int)) (X00 (r13.1.2==(1:Int)) (Eq ((r13.1.1.1==r2.1.2),((),())) (true,((),()))) (X00 (decide (r2.1.2>(0:Int))) (X00 (r13.1.2==(2:Int)) (Eq ((r13.1.1.1==r2.1.2),((),())) (true,((),()))) (Eq (false,((),())) (true,((),())))) (Eq (false,((),())) (true,((),()))))) (X00 (decide (r2.1.2>(0:Int))) (X00 (r13.1.2==(2:Int)) (Eq ((r13.1.1.1==r2.1.2),((),())) (true,((),()))) (Eq (false,((),())) (true,((),())))) (Eq (false,((),())) (true,((),()))))) (Eq (false,((),())) (true,((),()))))) (Eq (false,((),())) (true,((),()))))))))) ((X55 (r2.1.1.1,(r2.1.1.2.1,r2.1.1.2.2)))∧∀r15,(Eq r15 ((Xa1 (r2.1.1.1,(r2.1.1.2.1,r2.1.1.2.2))),((),())))→(eS [(5,.box 6 0),(6,.val false [.int .i64 r2.1.1.1]),(7,.val false [.lst T2q r15.1 none])] [(5,.box 6 0),(6,.val false [.int .i64 r2.1.1.1]),(7,.val false [.lst T2q r15.1 none])]∧((rzI a0 r2.1.1.1 r15.1 0 r3.1.1 r3.1.2.1 r3.1.2.2)∧∀(y16:(Int×U3q)),(rzI a0 r2.1.1.1 r15.1 y16.1 y16.2.1 y16.2.2.1 y16.2.2.2)→(X00 (decide (y16.1<(ln r15.1))) (0≤y16.1∧(y16.1<(ln r15.1)∧(True∧∀r17,(Eq r17 ((X6Z ((List.getD r15.1 (tN y16.1) ([],[])).2) r2.1.1.1 1099511627777),((),())))→(0≤y16.1∧(y16.1<(ln r15.1)∧((X9D (y16.2.1,(y16.2.2.1,y16.2.2.2)) ((List.getD r15.1 (tN y16.1) ([],[])).1) 0 1099511627777)∧∀r18,(Eq r18 ((X6S (y16.2.1,(y16.2.2.1,y16.2.2.2)) ((List.getD r15.1 (tN y16.1) ([],[])).1) 0 1099511627777),((),())))→(True∧∀r19,(Eq r19 ((X6O r18.1 r17.1),((),())))→(X00 (!r19.1) (Eq (false,((),())) (true,((),()))) ((X55 (y16.2.1,(y16.2.2.1,y16.2.2.2)))∧∀r20,(Eq r20 ((XaM (y16.2.1,(y16.2.2.1,y16.2.2.2))),((),())))→(0≤y16.1∧(y16.1<(ln r15.1)∧((X9D (r20.1.1,(r20.1.2.1,r20.1.2.2)) ((List.getD r15.1 (tN y16.1) ([],[])).1) 0 1099511627777)∧∀r21,(Eq r21 ((X6S (r20.1.1,(r20.1.2.1,r20.1.2.2)) ((List.getD r15.1 (tN y16.1) ([],[])).1) 0 1099511627777),((),())))→(True∧∀r22,(Eq r22 ((X6O r21.1 r17.1),((),())))→(X00 (!r22.1) (Eq (false,((),())) (true,((),()))) (eS [(5,.box 6 0),(6,.val false [.int .i64 r2.1.1.1]),(7,.val false [.lst T2q r15.1 none])] [(5,.box 6 0),(6,.val false [.int .i64 r2.1.1.1]),(7,.val false [.lst T2q r15.1 none])]∧(rzI a0 r2.1.1.1 r15.1 (wI (y16.1+(1:Int))) y16.2.1 y16.2.2.1 y16.2.2.2)∧(rzM a0 r2.1.1.1 r15.1 (wI (y16.1+(1:Int))) y16.2.1 y16.2.2.1 y16.2.2.2)<(rzM a0 r2.1.1.1 r15.1 y16.1 y16.2.1 y16.2.2.1 y16.2.2.2)))))))))))))))) ((Xqs (y16.2.1,(y16.2.2.1,y16.2.2.2)) [99,112,117] [((wI (r2.1.1.1 - (1:Int))),1)])∧∀r23,(Eq r23 ((X7T (y16.2.1,(y16.2.2.1,y16.2.2.2)) [99,112,117] [((wI (r2.1.1.1 - (1:Int))),1)]),((),())))→(X00 (y16.2.1==r2.1.1.1) ((X55 (y16.2.1,(y16.2.2.1,y16.2.2.2)))∧∀r24,(Eq r24 ((X0L (y16.2.1,(y16.2.2.1,y16.2.2.2))),((),())))→(X00 r24.1 (X00 (r2.1.1.1==(0:Int)) (X00 (r23.1.2==(1:Int)) (Eq ((r23.1.1.1==r2.1.1.1),((),())) (true,((),()))) (X00 (decide (r2.1.1.1>(0:Int))) (X00 (r23.1.2==(2:Int)) (Eq ((r23.1.1.1==r2.1.1.1),((),())) (true,((),()))) (Eq (false,((),())) (true,((),())))) (Eq (false,((),())) (true,((),()))))) (X00 (decide (r2.1.1.1>(0:Int))) (X00 (r23.1.2==(2:Int)) (Eq ((r23.1.1.1==r2.1.1.1),((),())) (true,((),()))) (Eq (false,((),())) (true,((),())))) (Eq (false,((),())) (true,((),()))))) (Eq (false,((),())) (true,((),()))))) (Eq (false,((),())) (true,((),())))))))))) ((X55 (r2.1.1.1,(r2.1.1.2.1,r2.1.1.2.2)))∧∀r25,(Eq r25 ((Xa1 (r2.1.1.1,(r2.1.1.2.1,r2.1.1.2.2))),((),())))→(eS [(5,.box 6 0),(6,.val false [.int .i64 r2.1.1.1]),(7,.val false [.lst T2q r25.1 none])] [(5,.box 6 0),(6,.val false [.int .i64 r2.1.1.1]),(7,.val false [.lst T2q r25.1 none])]∧((rzI a0 r2.1.1.1 r25.1 0 r3.1.1 r3.1.2.1 r3.1.2.2)∧∀(y26:(Int×U3q)),(rzI a0 r2.1.1.1 r25.1 y26.1 y26.2.1 y26.2.2.1 y26.2.2.2)→(X00 (decide (y26.1<(ln r25.1))) (0≤y26.1∧(y26.1<(ln r25.1)∧(True∧∀r27,(Eq r27 ((X6Z ((List.getD r25.1 (tN y26.1) ([],[])).2) r2.1.1.1 1099511627777),((),())))→(0≤y26.1∧(y26.1<(ln r25.1)∧((X9D (y26.2.1,(y26.2.2.1,y26.2.2.2)) ((List.getD r25.1 (tN y26.1) ([],[])).1) 0 1099511627777)∧∀r28,(Eq r28 ((X6S (y26.2.1,(y26.2.2.1,y26.2.2.2)) ((List.getD r25.1 (tN y26.1) ([],[])).1) 0 1099511627777),((),())))→(True∧∀r29,(Eq r29 ((X6O r28.1 r27.1),((),())))→(X00 (!r29.1) (Eq (false,((),())) (true,((),()))) ((X55 (y26.2.1,(y26.2.2.1,y26.2.2.2)))∧∀r30,(Eq r30 ((XaM (y26.2.1,(y26.2.2.1,y26.2.2.2))),((),())))→(0≤y26.1∧(y26.1<(ln r25.1)∧((X9D (r30.1.1,(r30.1.2.1,r30.1.2.2)) ((List.getD r25.1 (tN y26.1) ([],[])).1) 0 1099511627777)∧∀r31,(Eq r31 ((X6S (r30.1.1,(r30.1.2.1,r30.1.2.2)) ((List.getD r25.1 (tN y26.1) ([],[])).1) 0 1099511627777),((),())))→(True∧∀r32,(Eq r32 ((X6O r31.1 r27.1),((),())))→(X00 (!r32.1) (Eq (false,((),())) (true,((),()))) (eS [(5,.box 6 0),(6,.val false [.int .i64 r2.1.1.1]),(7,.val false [.lst T2q r25.1 none])] [(5,.box 6 0),(6,.val false [.int .i64 r2.1.1.1]),(7,.val false [.lst T2q r25.1 none])]∧(rzI a0 r2.1.1.1 r25.1 (wI (y26.1+(1:Int))) y26.2.1 y26.2.2.1 y26.2.2.2)∧(rzM a0 r2.1.1.1 r25.1 (wI (y26.1+(1:Int))) y26.2.1 y26.2.2.1 y26.2.2.2)<(rzM a0 r2.1.1.1 r25.1 y26.1 y26.2.1 y26.2.2.1 y26.2.2.2)))))))))))))))) ((Xqs (y26.2.1,(y26.2.2.1,y26.2.2.2)) [99,112,117] [((wI (r2.1.1.1 - (1:Int))),1)])∧∀r33,(Eq r33 ((X7T (y26.2.1,(y26.2.2.1,y26.2.2.2)) [99,112,117] [((wI (r2.1.1.1 - (1:Int))),1)]),((),())))→(X00 (y26.2.1==r2.1.1.1) ((X55 (y26.2.1,(y26.2.2.1,y26.2.2.2)))∧∀r34,(Eq r34 ((X0L (y26.2.1,(y26.2.2.1,y26.2.2.2))),((),())))→(X00 r34.1 (X00 (r2.1.1.1==(0:Int)) (X00 (r33.1.2==(1:Int)) (Eq ((r33.1.1.1==r2.1.1.1),((),())) (true,((),()))) (X00 (decide (r2.1.1.1>(0:Int))) (X00 (r33.1.2==(2:Int)) (Eq ((r33.1.1.1==r2.1.1.1),((),())) (true,((),()))) (Eq (false,((),())) (true,((),())))) (Eq (false,((),())) (true,((),()))))) (X00 (decide (r2.1.1.1>(0:Int))) (X00 (r33.1.2==(2:Int)) (Eq ((r33.1.1.1==r2.1.1.1),((),())) (true,((),()))) (Eq (false,((),())) (true,((),())))) (Eq (false,((),())) (true,((),()))))) (Eq (false,((),())) (true,((),()))))) (Eq (false,((),())) (true,((),()))))))))))))))))
def X2Z.L(a0:(List Int)):Nat→Option X0c:=fun p=>Go.Proofs.YtcfaphojdacmbaaGreatR.Bv.look p [(4090,{kp:={hold:=[5,6,7],slots:=[8],boxes:=[6],rows:=[{bx:=true,s:=6,i:=1,k:=13800773,e:=83,hot:=true},{bx:=true,s:=6,i:=2,k:=13800775,e:=9,hot:=true}]},T:=(.pair (.int .i64) T4q),I:=fun st y=>rzI a0 (XmY (X9m st 6 0)) (lstC T2q st (X9m st 7 0)) y.1 y.2.1 y.2.2.1 y.2.2.2,μ:=fun st y=>rzM a0 (XmY (X9m st 6 0)) (lstC T2q st (X9m st 7 0)) y.1 y.2.1 y.2.2.1 y.2.2.2})]
theorem X2Z.pure(a0:(List Int))(h:WfD T9q a0)(hw:Wf (Xj7 T9q [.one]).A a0):X2Z.F a0:=by
 delta X2Z.F ln tN wI eS
 simp only[Bs,B0,B1,Prod.mk.injEq,X01,Prod.eta]
 refine⟨fun _=>trivial,fun _ r2 hq=>?_⟩
 obtain⟨⟨e,t⟩,u⟩:=r2
 have hp:X55 e:=hq.1.2.2.1
 have ht:=hq.2
 simp only at ht ⊢
 refine⟨hp,hp,fun h=>?_,fun h=>⟨fun h1=>⟨fun h2=>?_,fun h2=>?_⟩,fun h1=>?_⟩⟩
 · have f2:X6Q e t=eng0:=by unfold X6Q;rw[if_neg (by rw[h];decide)];rfl
   rw[f2]
   simp[eng0]
 · have H0:=XoW h hp t
   rw[show flr e t=t by unfold flr;rw[if_pos (by omega)]]at H0
   have hw:X55 (X6Q e t):=H0.pe
   refine⟨hp,⟨by omega,H0⟩,?_⟩
   rintro⟨i,xf,xc,xg⟩ ⟨h1,H⟩
   simp only at h1 H ⊢
   have hf:=H.fl
   have hpu:=Xmd H
   obtain⟨g1,g2,g3,g4⟩:=X2t H.ok
   obtain⟨k1,_⟩:=X4h g1
   simp only at hf k1
   have hs:=X1t H.w
   have hpe:X55 (t,(xc,xg)):=hf▸H.pe
   have hok:X0L (t,(xc,xg))=true:=hf▸H.ok
   refine⟨fun hi=>?_,fun hi=>?_⟩
   · obtain⟨a,b⟩:=XmL H (i:=i.toNat) (by omega)
     rw[w64 (x:=i+1) (by omega) (by omega)]
     obtain⟨⟨_,o2⟩,_⟩:=Xa6 H.ok H.pe
     refine⟨h1,hi,h1,hi,H.pe,?_⟩
     simp only[a,b,H.pe,o2,h1,hi,true_and,X9D]
     simp
     exact⟨⟨by omega,H⟩,by unfold rzM;omega⟩
   · rw[w64 (x:=_ - 1) (by omega) (by omega)]
     rw[hpu]
     refine⟨⟨H.pe,by unfold Xiy maxLen;decide⟩,?_⟩
     simp only[H.ok,H.pe,hf,true_and]
     by_cases h0:t=0
     · rw[h0]at hpe hok
       simp[h0,hpe,hok]
     · have:0<t:=by omega
       simp[h0,this,hpe,hok]
 · have H0:=XoW h hp t
   rw[show flr e t=e.1 by unfold flr;rw[if_neg (by omega)]]at H0
   have hw:X55 (X6Q e t):=H0.pe
   refine⟨hp,⟨by omega,H0⟩,?_⟩
   rintro⟨i,xf,xc,xg⟩ ⟨h1,H⟩
   simp only at h1 H ⊢
   have hf:=H.fl
   have hpu:=Xmd H
   obtain⟨g1,g2,g3,g4⟩:=X2t H.ok
   obtain⟨k1,_⟩:=X4h g1
   simp only at hf k1
   have hs:=X1t H.w
   have hpe:X55 (e.1,(xc,xg)):=hf▸H.pe
   have hok:X0L (e.1,(xc,xg))=true:=hf▸H.ok
   refine⟨fun hi=>?_,fun hi=>?_⟩
   · obtain⟨a,b⟩:=XmL H (i:=i.toNat) (by omega)
     rw[w64 (x:=i+1) (by omega) (by omega)]
     obtain⟨⟨_,o2⟩,_⟩:=Xa6 H.ok H.pe
     refine⟨h1,hi,h1,hi,H.pe,?_⟩
     simp only[a,b,H.pe,o2,h1,hi,true_and,X9D]
     simp
     exact⟨⟨by omega,H⟩,by unfold rzM;omega⟩
   · rw[w64 (x:=_ - 1) (by omega) (by omega)]
     rw[hpu]
     refine⟨⟨H.pe,by unfold Xiy maxLen;decide⟩,?_⟩
     simp only[H.ok,H.pe,hf,true_and]
     by_cases h0:e.1=0
     · rw[h0]at hpe hok
       simp[h0,hpe,hok]
     · have:0<e.1:=by omega
       simp[h0,this,hpe,hok]
 · have H0:=XoW h hp t
   rw[show flr e t=e.1 by unfold flr;rw[if_neg (by omega)]]at H0
   have hw:X55 (X6Q e t):=H0.pe
   refine⟨hp,⟨by omega,H0⟩,?_⟩
   rintro⟨i,xf,xc,xg⟩ ⟨h1,H⟩
   simp only at h1 H ⊢
   have hf:=H.fl
   have hpu:=Xmd H
   obtain⟨g1,g2,g3,g4⟩:=X2t H.ok
   obtain⟨k1,_⟩:=X4h g1
   simp only at hf k1
   have hs:=X1t H.w
   have hpe:X55 (e.1,(xc,xg)):=hf▸H.pe
   have hok:X0L (e.1,(xc,xg))=true:=hf▸H.ok
   refine⟨fun hi=>?_,fun hi=>?_⟩
   · obtain⟨a,b⟩:=XmL H (i:=i.toNat) (by omega)
     rw[w64 (x:=i+1) (by omega) (by omega)]
     obtain⟨⟨_,o2⟩,_⟩:=Xa6 H.ok H.pe
     refine⟨h1,hi,h1,hi,H.pe,?_⟩
     simp only[a,b,H.pe,o2,h1,hi,true_and,X9D]
     simp
     exact⟨⟨by omega,H⟩,by unfold rzM;omega⟩
   · rw[w64 (x:=_ - 1) (by omega) (by omega)]
     rw[hpu]
     refine⟨⟨H.pe,by unfold Xiy maxLen;decide⟩,?_⟩
     simp only[H.ok,H.pe,hf,true_and]
     by_cases h0:e.1=0
     · rw[h0]at hpe hok
       simp[h0,hpe,hok]
     · have:0<e.1:=by omega
       simp[h0,this,hpe,hok]
set_option maxRecDepth 100000 in
theorem X2Z.eq:EqS (Xj7 T9q [.one]) Tryz.f8 [4] [X60.e,X5R.e,X4F.e,X3V.e,X3Z.e,X1e.e,X3P.e,X1I.e,X3W.e,X24.e] [] (fun i x=>X2Z.L x) (fun i x=>X2Z.F x):=by intro i x;kernel_rfl
theorem X2Z.ok:X0n Tryz.prog 8 (Xj7 T9q [.one]):=X2g X2Z.eq Tryz.func8 rfl (by kernel_rfl) fun i x h hi hw=>X2Z.pure x h hw
end Go.Proofs.YtcfaphojdacmbaaGreatR.B
