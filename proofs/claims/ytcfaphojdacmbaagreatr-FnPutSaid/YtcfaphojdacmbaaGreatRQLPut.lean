/- What the law computes. -/
import Derived.Test.YtcfaphojdacmbaaGreatRCLawD
set_option linter.unusedVariables false
set_option linter.unusedSimpArgs false
namespace Go.Proofs.YtcfaphojdacmbaaGreatR.B
open Go Go.Proofs.YtcfaphojdacmbaaGreatR.Bv
def pzI(code:List Int)(key:Str)(p:List Pt)(was:List Ser)(i ef:Int)(ec:List Ser)(eg:List Str)(xf:Int)(xc:List Ser)(xg:List Str):Prop:=0≤i∧PZ key p was (ef,(ec,eg)) (xf,(xc,xg))
def pzM(code:List Int)(key:Str)(p:List Pt)(was:List Ser)(i ef:Int)(ec:List Ser)(eg:List Str)(xf:Int)(xc:List Ser)(xg:List Str):Nat:=(was.length - i).toNat
def X3W.F(a0:(List Int)):Prop:=(True∧∀r1,(Eq r1 ((fBig a0),((),())))→(X00 r1.1 (Eq (true,((),())) (true,((),()))) (True∧∀r2,(X9C a0 r2)→((Xq3 (r2.1.1.1,(r2.1.1.2.1,r2.1.1.2.2)) r2.1.2.1 r2.1.2.2)∧∀r3,(Eq r3 ((X7I (r2.1.1.1,(r2.1.1.2.1,r2.1.1.2.2)) r2.1.2.1 r2.1.2.2),((),())))→((Xq3 (r2.1.1.1,(r2.1.1.2.1,r2.1.1.2.2)) r2.1.2.1 r2.1.2.2)∧∀r4,(Eq r4 ((X7I (r2.1.1.1,(r2.1.1.2.1,r2.1.1.2.2)) r2.1.2.1 r2.1.2.2),((),())))→(X00 (r3.1.2 !=r4.1.2) (Eq (false,((),())) (true,((),()))) ((X8M (r2.1.1.1,(r2.1.1.2.1,r2.1.1.2.2)))∧∀r5,(Eq r5 ((X1Q (r2.1.1.1,(r2.1.1.2.1,r2.1.1.2.2))),((),())))→(X00 (!r5.1) (X00 (r3.1.2==(1:Int)) (Eq (((ln r3.1.1.2.2)==(0:Int)),((),())) (true,((),()))) (Eq (false,((),())) (true,((),())))) (X00 (r3.1.2 !=(0:Int)) (True∧∀r6,(Eq r6 ((X9z r3.1.1.2.1 r2.1.1.2.1),((),())))→(X00 r6.1 (X00 ((ln r3.1.1.2.2)==(ln r2.1.1.2.2)) (Eq ((r3.1.1.1==r2.1.1.1),((),())) (true,((),()))) (Eq (false,((),())) (true,((),())))) (Eq (false,((),())) (true,((),()))))) ((X8M (r2.1.1.1,(r2.1.1.2.1,r2.1.1.2.2)))∧∀r7,(Eq r7 ((X9P (r2.1.1.1,(r2.1.1.2.1,r2.1.1.2.2))),((),())))→(eS [(3,.box 4 0),(4,.val false [.str r2.1.2.1]),(5,.val false [.lst T0q r2.1.2.2 none]),(6,.box 7 0),(10,.val false [.lst T2q r7.1 none])] [(3,.box 4 0),(4,.val false [.str r2.1.2.1]),(5,.val false [.lst T0q r2.1.2.2 none]),(6,.box 7 0),(10,.val false [.lst T2q r7.1 none])]∧((pzI a0 r2.1.2.1 r2.1.2.2 r7.1 0 r2.1.1.1 r2.1.1.2.1 r2.1.1.2.2 r3.1.1.1 r3.1.1.2.1 r3.1.1.2.2)∧∀(y8:(Int×(Int×((List U1q)×((List U5q)×U3q))))),(pzI a0 r2.1.2.1 r2.1.2.2 r7.1 y8.1 y8.2.1 y8.2.2.1 y8.2.2.2.1 y8.2.2.2.2.1 y8.2.2.2.2.2.1 y8.2.2.2.2.2.2)→(X00 (decide (y8.1<(ln r7.1))) (0≤y8.1∧(y8.1<(ln r7.1)∧(X00 (!(((List.getD r7.1 (tN y8.1) ([],[])).1)==r2.1.2.1)) (0≤y8.1∧(y8.1<(ln r7.1)∧((XcS (y8.2.2.2.2.1,(y8.2.2.2.2.2.1,y8.2.2.2.2.2.2)) ((List.getD r7.1 (tN y8.1) ([],[])).1) 0 1099511627777)∧∀r9,(Eq r9 ((X5a (y8.2.2.2.2.1,(y8.2.2.2.2.2.1,y8.2.2.2.2.2.2)) ((List.getD r7.1 (tN y8.1) ([],[])).1) 0 1099511627777),((),())))→(0≤y8.1∧(y8.1<(ln r7.1)∧(True∧∀r10,(Eq r10 ((X7d r9.1 ((List.getD r7.1 (tN y8.1) ([],[])).2)),((),())))→(X00 (!r10.1) (Eq (false,((),())) (true,((),()))) (eS [(3,.box 4 0),(4,.val false [.str r2.1.2.1]),(5,.val false [.lst T0q r2.1.2.2 none]),(6,.box 7 0),(10,.val false [.lst T2q r7.1 none])] [(3,.box 4 0),(4,.val false [.str r2.1.2.1]),(5,.val false [.lst T0q r2.1.2.2 none]),(6,.box 7 0),(10,.val false [.lst T2q r7.1 none])]∧(pzI a0 r2.1.2.1 r2.1.2.2 r7.1 (wI (y8.1+(1:Int))) y8.2.1 y8.2.2.1 y8.2.2.2.1 y8.2.2.2.2.1 y8.2.2.2.2.2.1 y8.2.2.2.2.2.2)∧(pzM a0 r2.1.2.1 r2.1.2.2 r7.1 (wI (y8.1+(1:Int))) y8.2.1 y8.2.2.1 y8.2.2.2.1 y8.2.2.2.2.1 y8.2.2.2.2.2.1 y8.2.2.2.2.2.2)<(pzM a0 r2.1.2.1 r2.1.2.2 r7.1 y8.1 y8.2.1 y8.2.2.1 y8.2.2.2.1 y8.2.2.2.2.1 y8.2.2.2.2.2.1 y8.2.2.2.2.2.2))))))))) (eS [(3,.box 4 0),(4,.val false [.str r2.1.2.1]),(5,.val false [.lst T0q r2.1.2.2 none]),(6,.box 7 0),(10,.val false [.lst T2q r7.1 none])] [(3,.box 4 0),(4,.val false [.str r2.1.2.1]),(5,.val false [.lst T0q r2.1.2.2 none]),(6,.box 7 0),(10,.val false [.lst T2q r7.1 none])]∧(pzI a0 r2.1.2.1 r2.1.2.2 r7.1 (wI (y8.1+(1:Int))) y8.2.1 y8.2.2.1 y8.2.2.2.1 y8.2.2.2.2.1 y8.2.2.2.2.2.1 y8.2.2.2.2.2.2)∧(pzM a0 r2.1.2.1 r2.1.2.2 r7.1 (wI (y8.1+(1:Int))) y8.2.1 y8.2.2.1 y8.2.2.2.1 y8.2.2.2.2.1 y8.2.2.2.2.2.1 y8.2.2.2.2.2.2)<(pzM a0 r2.1.2.1 r2.1.2.2 r7.1 y8.1 y8.2.1 y8.2.2.1 y8.2.2.2.1 y8.2.2.2.2.1 y8.2.2.2.2.2.1 y8.2.2.2.2.2.2))))) ((XcS (y8.2.1,(y8.2.2.1,y8.2.2.2.1)) r2.1.2.1 0 1099511627777)∧∀r11,(Eq r11 ((X5a (y8.2.1,(y8.2.2.1,y8.2.2.2.1)) r2.1.2.1 0 1099511627777),((),())))→(True∧∀r12,(Eq r12 ((X7P r11.1 r2.1.2.2),((),())))→((X8M (y8.2.2.2.2.1,(y8.2.2.2.2.2.1,y8.2.2.2.2.2.2)))∧∀r13,(Eq r13 ((X1Q (y8.2.2.2.2.1,(y8.2.2.2.2.2.1,y8.2.2.2.2.2.2))),((),())))→(X00 r13.1 (X00 r12.1.2 ((XcS (y8.2.2.2.2.1,(y8.2.2.2.2.2.1,y8.2.2.2.2.2.2)) r2.1.2.1 0 1099511627777)∧∀r14,(Eq r14 ((X5a (y8.2.2.2.2.1,(y8.2.2.2.2.2.1,y8.2.2.2.2.2.2)) r2.1.2.1 0 1099511627777),((),())))→(True∧∀r15,(Eq r15 ((X7d r14.1 r12.1.1),((),())))→(Eq (r15.1,((),())) (true,((),()))))) (Eq (false,((),())) (true,((),())))) (Eq (false,((),())) (true,((),()))))))))))))))))))))
def X3W.L(a0:(List Int)):Nat→Option X0d:=fun p=>Go.Proofs.YtcfaphojdacmbaaGreatR.Bv.look p [(8186,{kp:={hold:=[3,4,5,6,10],slots:=[11],boxes:=[4,7],rows:=[{bx:=true,s:=7,i:=1,k:=13800901,e:=83,hot:=true},{bx:=true,s:=7,i:=2,k:=13800903,e:=9,hot:=true}]},T:=(.pair (.int .i64) (.pair (.int .i64) (.pair T9q (.pair Xcb T4q)))),I:=fun st y=>pzI a0 (strC (X8d st 4 0)) (lstC T0q st (X8d st 5 0)) (lstC T2q st (X8d st 10 0)) y.1 y.2.1 y.2.2.1 y.2.2.2.1 y.2.2.2.2.1 y.2.2.2.2.2.1 y.2.2.2.2.2.2,μ:=fun st y=>pzM a0 (strC (X8d st 4 0)) (lstC T0q st (X8d st 5 0)) (lstC T2q st (X8d st 10 0)) y.1 y.2.1 y.2.2.1 y.2.2.2.1 y.2.2.2.2.1 y.2.2.2.2.2.1 y.2.2.2.2.2.2})]
theorem X3W.pure(a0:(List Int))(h:WfD T8q a0)(hw:Wf (XjI T8q [.one]).A a0):X3W.F a0:=by
 delta X3W.F ln tN wI eS
 simp only[Bs,B0,B1,Prod.mk.injEq,X01,Prod.eta]
 refine⟨fun _=>trivial,fun _ r2 hq=>?_⟩
 obtain⟨⟨e,key,p⟩,u⟩:=r2
 have hp:X8M e:=hq.1.2.2.1
 have hk:Xjw key:=by have:=hq.2.1;simp only at this;unfold Xjw maxLen;omega
 simp only
 refine⟨⟨hp,hk⟩,⟨hp,hk⟩,fun h=>absurd trivial h,fun _=>⟨hp,fun h=>?_,fun h=>?_⟩⟩
 · have f2:X7I e key p=(eng0,1):=by unfold X7I;rw[if_neg (by rw[h];decide)]
   rw[f2]
   simp[eng0]
 obtain⟨o1,o2,o3,o4⟩:=XoP h hp key p
 refine⟨fun h0=>?_,fun h0=>⟨hp,?_⟩⟩
 · rw[o4 h0]
   simp[XmC]
 obtain⟨q1,q2,q3⟩:=o3 h0
 have H0:PZ key p (X9P e) e (X7I e key p).1:=⟨h,hp,o1.1,o1.2,by unfold X9P;rw[if_pos h],q1.2.1,q3⟩
 refine⟨⟨by omega,H0⟩,?_⟩
 rintro⟨i,ef,ec,eg,xf,xc,xg⟩ ⟨h1,H⟩
 simp only at h1 H ⊢
 have hs:(X9P e).length≤5:=by
  rw[H0.w]
  obtain⟨g1,g2,g3,g4⟩:=X2g h
  exact(X16 g4).2.2.1
 refine⟨fun hi=>?_,fun hi=>?_⟩
 · have dn:pzM a0 key p (X9P e) (i+1) ef ec eg xf xc xg<pzM a0 key p (X9P e) i ef ec eg xf xc xg:=by unfold pzM;omega
   rw[w64 (x:=i+1) (by omega) (by omega)]
   refine⟨h1,hi,fun hne=>?_,fun he=>⟨⟨by omega,H⟩,dn⟩⟩
   have a:=XrA H (i:=i.toNat) (by omega) hne
   refine⟨h1,hi,H.px,h1,hi,?_⟩
   simp only[a]
   exact⟨fun c=>(by cases c),fun _=>⟨⟨by omega,H⟩,dn⟩⟩
 · obtain⟨a,b⟩:=XqA H
   refine⟨H.pe,H.px,?_⟩
   simp[H.ok,a,b,H.px,XcS]
set_option maxRecDepth 100000 in
theorem X3W.eq:EqS (XjI T8q [.one]) Tryz.f9 [4] [X5Q.e,X2m.e,X6b.e,X41.e,X0S.e,X44.e,X14.e,X40.e,X1d.e,X63.e,X3Y.e] [] (fun i x=>X3W.L x) (fun i x=>X3W.F x):=by intro i x;kernel_rfl
theorem X3W.ok:X0l Tryz.prog 9 (XjI T8q [.one]):=X2d X3W.eq Tryz.func9 rfl (by kernel_rfl) fun i x h hi hw=>X3W.pure x h hw
end Go.Proofs.YtcfaphojdacmbaaGreatR.B
