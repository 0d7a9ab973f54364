/- What the law computes. -/
import Derived.Test.YtcfaphojdacmbaaGreatRCLawD
set_option linter.unusedVariables false
set_option linter.unusedSimpArgs false
namespace Go.Proofs.YtcfaphojdacmbaaGreatR.B
open Go Go.Proofs.YtcfaphojdacmbaaGreatR.Bv
def X43.F(a0:(List Int)):Prop:=(True∧∀r1,(Eq r1 ((fBig a0),((),())))→(X02 r1.1 (Eq (true,((),())) (true,((),()))) (True∧∀r2,(Xib a0 r2)→((X6f (r2.1.1,(r2.1.2.1,r2.1.2.2)))∧∀r3,(Eq r3 ((X4X (r2.1.1,(r2.1.2.1,r2.1.2.2))),((),())))→((X6f (r2.1.1,(r2.1.2.1,r2.1.2.2)))∧∀r4,(Eq r4 ((X9Q (r2.1.1,(r2.1.2.1,r2.1.2.2))),((),())))→((X6f (r2.1.1,(r2.1.2.1,r2.1.2.2)))∧∀r5,(Eq r5 ((Xbn (r2.1.1,(r2.1.2.1,r2.1.2.2))),((),())))→((X6f (r2.1.1,(r2.1.2.1,r2.1.2.2)))∧∀r6,(Eq r6 ((X1H (r2.1.1,(r2.1.2.1,r2.1.2.2))),((),())))→(X02 (!r6.1) (X02 ((ln r3.1)==(0:Int)) (X02 ((ln r4.1.2.2)==(0:Int)) (Eq (((ln r5.1.2.2)==(0:Int)),((),())) (true,((),()))) (Eq (false,((),())) (true,((),())))) (Eq (false,((),())) (true,((),())))) ((X6f (r4.1.1,(r4.1.2.1,r4.1.2.2)))∧∀r7,(Eq r7 ((Xbn (r4.1.1,(r4.1.2.1,r4.1.2.2))),((),())))→((X6f (r4.1.1,(r4.1.2.1,r4.1.2.2)))∧∀r8,(Eq r8 ((X1H (r4.1.1,(r4.1.2.1,r4.1.2.2))),((),())))→(X02 r8.1 ((X6f (r5.1.1,(r5.1.2.1,r5.1.2.2)))∧∀r9,(Eq r9 ((X1H (r5.1.1,(r5.1.2.1,r5.1.2.2))),((),())))→(X02 r9.1 ((X6f (r2.1.1,(r2.1.2.1,r2.1.2.2)))∧∀r10,(Eq r10 ((X4X (r2.1.1,(r2.1.2.1,r2.1.2.2))),((),())))→(True∧∀r11,(Eq r11 ((X84 r10.1 r3.1),((),())))→(X02 r11.1 ((X6f (r4.1.1,(r4.1.2.1,r4.1.2.2)))∧∀r12,(Eq r12 ((X4X (r4.1.1,(r4.1.2.1,r4.1.2.2))),((),())))→(True∧∀r13,(Eq r13 ((X84 r12.1 r3.1),((),())))→(X02 r13.1 ((X6f (r5.1.1,(r5.1.2.1,r5.1.2.2)))∧∀r14,(Eq r14 ((X4X (r5.1.1,(r5.1.2.1,r5.1.2.2))),((),())))→(True∧∀r15,(Eq r15 ((X84 r14.1 r3.1),((),())))→(X02 r15.1 (X02 ((ln r4.1.2.1)==(0:Int)) (X02 (decide ((ln r5.1.2.2)≤(1:Int))) (X02 ((ln r7.1.2.2)==(ln r5.1.2.2)) (X02 ((ln r7.1.2.2)==(0:Int)) (Eq (true,((),())) (true,((),()))) (0≤(0:Int)∧((0:Int)<(ln r7.1.2.2)∧(0≤(0:Int)∧((0:Int)<(ln r5.1.2.2)∧(Eq (((List.getD r7.1.2.2 (tN (0:Int)) [])==(List.getD r5.1.2.2 (tN (0:Int)) [])),((),())) (true,((),())))))))) (Eq (false,((),())) (true,((),())))) (Eq (false,((),())) (true,((),())))) (Eq (false,((),())) (true,((),())))) (Eq (false,((),())) (true,((),())))))) (Eq (false,((),())) (true,((),())))))) (Eq (false,((),())) (true,((),())))))) (Eq (false,((),())) (true,((),()))))) (Eq (false,((),())) (true,((),()))))))))))))))
theorem X43.pure(a0:(List Int))(h:WfD T9q a0)(hw:Wf (Xj4 T9q [.one]).A a0):X43.F a0:=by
 delta X43.F ln tN
 simp only[Bs,B0,B1,Prod.mk.injEq,X01,Prod.eta]
 refine⟨fun _=>trivial,fun _ r2 hq=>?_⟩
 obtain⟨e,u⟩:=r2
 have hp:X6f e:=hq.2.2.1
 simp only
 refine⟨hp,hp,hp,hp,fun h=>?_,fun h=>?_⟩
 · have f1:X4X e=[]:=by unfold X4X;rw[if_neg (by rw[h];decide)]
   have f2:X9Q e=XpT:=by unfold X9Q;rw[if_neg (by rw[h];decide)]
   have f3:Xbn e=XpT:=by unfold Xbn;rw[if_neg (by rw[h];decide)]
   rw[f1,f2,f3]
   simp[XpT]
 · obtain⟨⟨o1,o2⟩,o3,o4⟩:=Xqj h hp
   obtain⟨⟨t1,t2⟩,t3,t4⟩:=Xot o1 o2 o3
   have ef:X9Q e=fFl e:=by unfold X9Q;rw[if_pos h]
   have eg:Xbn e=X5R (fFl e):=by unfold Xbn;rw[if_pos h]
   have eh:Xbn (fFl e)=X5R (fFl e):=by unfold Xbn;rw[if_pos o1,Xpd o1 o2 o3]
   have pe:X4X e=(X0f e).1:=by unfold X4X;rw[if_pos h]
   have pf:X4X (fFl e)=(X0f e).1:=by unfold X4X;rw[if_pos o1,o4]
   have pg:X4X (X5R (fFl e))=(X0f e).1:=by unfold X4X;rw[if_pos t1,t4,o4]
   have hl:(X5R (fFl e)).2.2.length≤1:=Xrp _
   rw[ef,eg,eh,pe,pf,pg]
   simp only[o1,o2,t1,t2,hp,o3,Xml,true_and,forall_eq,List.length_nil]
   generalize (X5R (fFl e)).2.2=g at hl ⊢
   rcases g with _ | ⟨x,_ | ⟨y,r⟩⟩
   · simp
   · simp
   · simp at hl
set_option maxRecDepth 100000 in
theorem X43.eq:EqS (Xj4 T9q [.one]) Tryz.f7 [4] [X5W.e,X3Y.e,X4C.e,X1z.e,X20.e,X3U.e,X18.e,X3X.e] [] noL (fun i x=>X43.F x):=by intro i x;kernel_rfl
theorem X43.ok:X0n Tryz.prog 7 (Xj4 T9q [.one]):=X2j X43.eq Tryz.func7 rfl (by kernel_rfl) fun i x h hi hw=>X43.pure x h hw
end Go.Proofs.YtcfaphojdacmbaaGreatR.B
