/- What the law computes. -/
import Derived.Test.YtnoapekdbmpiaaaCFresh
import Derived.Test.YtnoapekdbmpiaaaCLaw
namespace Go.Proofs.Ytnoapekdbmpiaaa.B
set_option linter.unusedVariables false
set_option linter.unusedSimpArgs false
open Go Go.Proofs.Ytnoapekdbmpiaaa.Bv
def laws_FnMerge.F (a0:(List Int)):Prop:=(True∧∀r1,(Eq r1 ((fBig a0),((),())))→(caseB r1.1 (Eq (true,((),())) (true,((),()))) (True∧∀r2,(qDMerge a0 r2)→(True∧∀r3,(Eq r3 ((fMergeT r2.1.1 r2.1.2),((),())))→(True∧∀r4,(Eq r4 ((fPtsOk r2.1.1),((),())))→(caseB (!r4.1) (caseB (!r3.1.2) (Eq (((ln r3.1.1)==(0:Int)),((),())) (true,((),()))) (Eq (false,((),())) (true,((),())))) (True∧∀r5,(Eq r5 ((fPtsOk r2.1.2),((),())))→(caseB (!r5.1) (caseB (!r3.1.2) (Eq (((ln r3.1.1)==(0:Int)),((),())) (true,((),()))) (Eq (false,((),())) (true,((),())))) (caseB (!r3.1.2) (Eq ((decide ((wI ((ln r2.1.1)+(ln r2.1.2)))>(60:Int))),((),())) (true,((),()))) (eS [(0,.val false [.lst (.int .u8) a0 none]),(3,.val false [.lst (.pair (.int .i64) (.int .i64)) r2.1.1 none]),(4,.val false [.lst (.pair (.int .i64) (.int .i64)) r2.1.2 none]),(5,.val false [.lst (.pair (.int .i64) (.int .i64)) r3.1.1 none])] [(0,.val false [.lst (.int .u8) a0 none]),(3,.val false [.lst (.pair (.int .i64) (.int .i64)) r2.1.1 none]),(4,.val false [.lst (.pair (.int .i64) (.int .i64)) r2.1.2 none]),(5,.val false [.lst (.pair (.int .i64) (.int .i64)) r3.1.1 none])]∧((m1I a0 0)∧∀(y6:Int),(m1I a0 y6)→(caseB (decide (y6<(ln r2.1.2))) (0≤y6∧(y6<(ln r2.1.2)∧(0≤y6∧(y6<(ln r2.1.2)∧(True∧∀r7,(Eq r7 ((fSliceT r3.1.1 ((List.getD r2.1.2 (tN y6) (0,0)).1) (wI (((List.getD r2.1.2 (tN y6) (0,0)).1)+(1:Int)))),((),())))→(caseB ((ln r7.1)!=(1:Int)) (Eq (false,((),())) (true,((),()))) (0≤y6∧(y6<(ln r2.1.2)∧(0≤y6∧(y6<(ln r2.1.2)∧(True∧∀r8,(Eq r8 ((fSliceT r3.1.1 ((List.getD r2.1.2 (tN y6) (0,0)).1) (wI (((List.getD r2.1.2 (tN y6) (0,0)).1)+(1:Int)))),((),())))→(0≤(0:Int)∧((0:Int)<(ln r8.1)∧(0≤y6∧(y6<(ln r2.1.2)∧(caseB (!(((List.getD r8.1 (tN (0:Int)) (0,0)).1)==((List.getD r2.1.2 (tN y6) (0,0)).1)&&(((List.getD r8.1 (tN (0:Int)) (0,0)).2)==((List.getD r2.1.2 (tN y6) (0,0)).2)&&true))) (Eq (false,((),())) (true,((),()))) (eS [(0,.val false [.lst (.int .u8) a0 none]),(3,.val false [.lst (.pair (.int .i64) (.int .i64)) r2.1.1 none]),(4,.val false [.lst (.pair (.int .i64) (.int .i64)) r2.1.2 none]),(5,.val false [.lst (.pair (.int .i64) (.int .i64)) r3.1.1 none])] [(0,.val false [.lst (.int .u8) a0 none]),(3,.val false [.lst (.pair (.int .i64) (.int .i64)) r2.1.1 none]),(4,.val false [.lst (.pair (.int .i64) (.int .i64)) r2.1.2 none]),(5,.val false [.lst (.pair (.int .i64) (.int .i64)) r3.1.1 none])]∧(m1I a0 (wI (y6+(1:Int))))∧(m1M a0 (wI (y6+(1:Int))))<(m1M a0 y6)))))))))))))))))) (eS [(0,.val false [.lst (.int .u8) a0 none]),(3,.val false [.lst (.pair (.int .i64) (.int .i64)) r2.1.1 none]),(4,.val false [.lst (.pair (.int .i64) (.int .i64)) r2.1.2 none]),(5,.val false [.lst (.pair (.int .i64) (.int .i64)) r3.1.1 none])] [(0,.val false [.lst (.int .u8) a0 none]),(3,.val false [.lst (.pair (.int .i64) (.int .i64)) r2.1.1 none]),(4,.val false [.lst (.pair (.int .i64) (.int .i64)) r2.1.2 none]),(5,.val false [.lst (.pair (.int .i64) (.int .i64)) r3.1.1 none])]∧((m2I a0 r2.1.1 r2.1.2 (ln r2.1.2) 0)∧∀(y9:(Int×Int)),(m2I a0 r2.1.1 r2.1.2 y9.1 y9.2)→(caseB (decide (y9.2<(ln r2.1.1))) (0≤y9.2∧(y9.2<(ln r2.1.1)∧(0≤y9.2∧(y9.2<(ln r2.1.1)∧(True∧∀r10,(Eq r10 ((fSliceT r2.1.2 ((List.getD r2.1.1 (tN y9.2) (0,0)).1) (wI (((List.getD r2.1.1 (tN y9.2) (0,0)).1)+(1:Int)))),((),())))→(caseB ((ln r10.1)==(0:Int)) (0≤y9.2∧(y9.2<(ln r2.1.1)∧(0≤y9.2∧(y9.2<(ln r2.1.1)∧(True∧∀r11,(Eq r11 ((fSliceT r3.1.1 ((List.getD r2.1.1 (tN y9.2) (0,0)).1) (wI (((List.getD r2.1.1 (tN y9.2) (0,0)).1)+(1:Int)))),((),())))→(caseB ((ln r11.1)!=(1:Int)) (Eq (false,((),())) (true,((),()))) (0≤(0:Int)∧((0:Int)<(ln r11.1)∧(0≤y9.2∧(y9.2<(ln r2.1.1)∧(caseB (!(((List.getD r11.1 (tN (0:Int)) (0,0)).1)==((List.getD r2.1.1 (tN y9.2) (0,0)).1)&&(((List.getD r11.1 (tN (0:Int)) (0,0)).2)==((List.getD r2.1.1 (tN y9.2) (0,0)).2)&&true))) (Eq (false,((),())) (true,((),()))) (eS [(0,.val false [.lst (.int .u8) a0 none]),(3,.val false [.lst (.pair (.int .i64) (.int .i64)) r2.1.1 none]),(4,.val false [.lst (.pair (.int .i64) (.int .i64)) r2.1.2 none]),(5,.val false [.lst (.pair (.int .i64) (.int .i64)) r3.1.1 none])] [(0,.val false [.lst (.int .u8) a0 none]),(3,.val false [.lst (.pair (.int .i64) (.int .i64)) r2.1.1 none]),(4,.val false [.lst (.pair (.int .i64) (.int .i64)) r2.1.2 none]),(5,.val false [.lst (.pair (.int .i64) (.int .i64)) r3.1.1 none])]∧(m2I a0 r2.1.1 r2.1.2 (wI (y9.1+(1:Int))) (wI (y9.2+(1:Int))))∧(m2M a0 r2.1.1 r2.1.2 (wI (y9.1+(1:Int))) (wI (y9.2+(1:Int))))<(m2M a0 r2.1.1 r2.1.2 y9.1 y9.2))))))))))))) (eS [(0,.val false [.lst (.int .u8) a0 none]),(3,.val false [.lst (.pair (.int .i64) (.int .i64)) r2.1.1 none]),(4,.val false [.lst (.pair (.int .i64) (.int .i64)) r2.1.2 none]),(5,.val false [.lst (.pair (.int .i64) (.int .i64)) r3.1.1 none])] [(0,.val false [.lst (.int .u8) a0 none]),(3,.val false [.lst (.pair (.int .i64) (.int .i64)) r2.1.1 none]),(4,.val false [.lst (.pair (.int .i64) (.int .i64)) r2.1.2 none]),(5,.val false [.lst (.pair (.int .i64) (.int .i64)) r3.1.1 none])]∧(m2I a0 r2.1.1 r2.1.2 y9.1 (wI (y9.2+(1:Int))))∧(m2M a0 r2.1.1 r2.1.2 y9.1 (wI (y9.2+(1:Int))))<(m2M a0 r2.1.1 r2.1.2 y9.1 y9.2)))))))) (True∧∀r12,(qFresh a0 5 r12)→(True∧∀r13,(qDMerge r12.1 r13)→(True∧∀r14,(Eq r14 ((fMergeT r3.1.1 r13.1.1),((),())))→(True∧∀r15,(Eq r15 ((fMergeT r2.1.2 r13.1.1),((),())))→(True∧∀r16,(Eq r16 ((fMergeT r2.1.1 r15.1.1),((),())))→(True∧∀r17,(Eq r17 ((fMergeT r3.1.1 r3.1.1),((),())))→(caseB (y9.1==(ln r3.1.1)) (True∧∀r18,(Eq r18 ((fPtsOk r3.1.1),((),())))→(caseB r18.1 (True∧∀r19,(Eq r19 ((fSameP r17.1.1 r3.1.1),((),())))→(caseB r19.1 (caseB (!r14.1.2) (Eq (true,((),())) (true,((),()))) (caseB (!r15.1.2) (Eq (true,((),())) (true,((),()))) (caseB (!r16.1.2) (Eq (true,((),())) (true,((),()))) (True∧∀r20,(Eq r20 ((fSameP r14.1.1 r16.1.1),((),())))→(Eq (r20.1,((),())) (true,((),()))))))) (Eq (false,((),())) (true,((),()))))) (Eq (false,((),())) (true,((),()))))) (Eq (false,((),())) (true,((),())))))))))))))))))))))))))
def laws_FnMerge.L (a0:(List Int)):Nat→Option LoopAnn:=fun p=>Go.Proofs.Ytnoapekdbmpiaaa.Bv.look p [(1018,{kp:={hold:=[0,3,4,5],slots:=[7],boxes:=[],rows:=[]},T:=(.int .i64),I:=fun st y=>m1I a0 y,μ:=fun st y=>m1M a0 y}),(4090,{kp:={hold:=[0,3,4,5],slots:=[8,9],boxes:=[],rows:=[]},T:=(.pair (.int .i64) (.int .i64)),I:=fun st y=>m2I a0 (lstC (.pair (.int .i64) (.int .i64)) st (cellAt st 3 0)) (lstC (.pair (.int .i64) (.int .i64)) st (cellAt st 4 0)) y.1 y.2,μ:=fun st y=>m2M a0 (lstC (.pair (.int .i64) (.int .i64)) st (cellAt st 3 0)) (lstC (.pair (.int .i64) (.int .i64)) st (cellAt st 4 0)) y.1 y.2})]
theorem laws_FnMerge.pure (a0:(List Int)) (h:WfD (.list (.int .u8)) a0) (hw:Wf (lawCon (.list (.int .u8)) [.one]).A a0):laws_FnMerge.F a0:=by
 delta laws_FnMerge.F ln tN wI eS
 simp only [forall_eq,true_and,and_true,caseB_iff,Prod.mk.injEq,decide_eq_true_eq,decide_eq_false_iff_not,Bool.not_eq_true',Bool.not_eq_false',bne_iff_ne,ne_eq,beq_iff_eq,Bool.not_true,Bool.not_false,beq_eq_false_iff_ne,bne_eq_false_iff_eq,List.length_append,List.length_cons,List.length_nil,List.append_nil,Nat.zero_add,decide_true,decide_false,eq_self_iff_true,Prod.eta]
 refine⟨fun _=>trivial,fun _ r2 hq=>?_⟩
 obtain⟨⟨a,b⟩,u⟩:=r2
 simp only at hq ⊢
 have hla:a.length≤1001:=hq.1
 have hlb:b.length≤1001:=hq.2
 have bad:¬(fPtsOk a=true∧fPtsOk b=true)→((fMergeT a b).2=false→((fMergeT a b).1.length:Int)=0)∧((fMergeT a b).2=true→false=true):=fun h=>by
  rw [mergeT_no h];exact⟨fun _=>rfl,fun h=>h⟩
 refine⟨fun h1=>bad (fun h=>by rw [h1] at h;cases h.1),fun h1=>⟨fun h2=>bad (fun h=>by rw [h2] at h;cases h.2),fun h2=>⟨fun h3=>?_,fun h3=>⟨(by unfold m1I;omega),?_⟩⟩⟩⟩
 · have hn:¬(fMerge a b).length≤60:=fun hc=>by unfold fMergeT at h3;rw [if_pos ⟨h1,h2,hc⟩] at h3;cases h3
   have:=fMerge_length b a
   rw [w64 (by omega) (by omega)];omega
 obtain⟨_,_,hm,eM⟩:=mergeT_yes h3
 have ra:=(fPtsOk_R h1).1
 have rb:=(fPtsOk_R h2).1
 have rx:=PtsR_merge ra rb
 have hx:=merge_ok h1 h2 hm
 rw [eM];simp only
 have eS:∀l lo hi,fPtsOk l=true→fSliceT l lo hi=fSlice l lo hi:=fun l lo hi h=>by unfold fSliceT;rw [if_pos h]
 have inb:∀p∈b,fSliceT (fMerge a b) p.1 (IntKind.wrap .i64 (p.1+1))=[p]:=fun p hp=>by
  have:=rb.2 p hp
  rw [w64 (x:=p.1+1) (by omega) (by omega),eS _ _ _ hx]
  exact slice_one rx.1 ((mem_fMerge rb.1).2 (.inl hp))
 intro i hI
 refine⟨fun hi=>?_,fun hi=>?_⟩
 · have q1:0≤i:=hI
   have hp:=getD_mem (d:=((0,0):Pt)) (by omega:i.toNat<b.length)
   rw [inb _ hp,w64 (x:=i+1) (by omega) (by omega)]
   generalize b.getD i.toNat (0,0)=p
   refine⟨q1,hi,q1,hi,fun h=>absurd (by simp) h,fun _=>⟨q1,hi,q1,hi,by omega,by simp,q1,hi,fun h=>by simp at h,fun _=>⟨by unfold m1I;omega,by unfold m1M;omega⟩⟩⟩
 · refine⟨⟨by omega,by omega,by simp⟩,?_⟩
   rintro⟨n,i⟩ hJ
   simp only at hJ ⊢
   have j1:=hJ.1
   have j2:=hJ.2.1
   have j3:=hJ.2.2
   have j4:=List.length_filter_le (fun x:Pt=>!hasT b x.1) (a.take i.toNat)
   rw [List.length_take] at j4
   refine⟨fun hj=>?_,fun hj=>?_⟩
   · have hp:=getD_mem (d:=((0,0):Pt)) (by omega:i.toNat<a.length)
     have hr:=ra.2 _ hp
     have y:=m2_yes hJ hj
     have z:=m2_no hJ hj
     have dn:∀k,m2M a0 a b k (i+1)<m2M a0 a b n i:=fun k=>by unfold m2M;omega
     rw [w64 (x:=n+1) (by omega) (by omega),w64 (x:=i+1) (by omega) (by omega),w64 (x:=(a.getD i.toNat (0,0)).1+1) (by omega) (by omega),eS b _ _ h2]
     generalize a.getD i.toNat (0,0)=p at hp hr y z ⊢
     refine⟨j1,hj,j1,hj,fun hz=>?_,fun hz=>?_⟩
     · have hb:hasT b p.1=false:=slice_has.1 (List.length_eq_zero_iff.1 (by omega))
       have e:fSliceT (fMerge a b) p.1 (p.1+1)=[p]:=by
        rw [eS _ _ _ hx]
        exact slice_one rx.1 ((mem_fMerge rb.1).2 (.inr ⟨hp,fun y hy e=>by rw [Bool.eq_false_iff] at hb;exact hb (hasT_iff.2 ⟨y,hy,e⟩)⟩))
       rw [e]
       refine⟨j1,hj,j1,hj,fun h=>absurd (by simp) h,fun _=>⟨by omega,by simp,j1,hj,fun h=>by simp at h,fun _=>⟨y hb,dn _⟩⟩⟩
     · have hb:hasT b p.1=true:=by
        cases h:hasT b p.1 with
        | true=>rfl
        | false=>exact absurd (by rw [slice_has.2 h];rfl) hz
       exact⟨z hb,dn _⟩
   · have en:=m2_end ra.1 rb.1 hJ hj
     have hself:fMergeT (fMerge a b) (fMerge a b)=(fMerge a b,true):=by unfold fMergeT;rw [merge_self rx.1,if_pos ⟨hx,hx,hm⟩]
     rw [hself,hx]
     intro r12 _ r13 hq2
     have hs:fSameP (fMerge a b) (fMerge a b)=true:=by unfold fSameP;simp
     refine⟨fun _=>⟨fun _=>⟨fun _=>⟨fun _=>trivial,fun o1=>⟨fun _=>trivial,fun o2=>⟨fun _=>trivial,fun o3=>?_⟩⟩⟩,fun h=>by simp only at h;rw [hs] at h;cases h⟩,fun h=>by cases h⟩,fun h=>absurd en h⟩
     obtain⟨_,c2,_,e1⟩:=mergeT_yes o1
     obtain⟨_,_,_,e2⟩:=mergeT_yes o2
     rw [e2] at o3 ⊢
     simp only at o3 ⊢
     obtain⟨_,_,_,e3⟩:=mergeT_yes o3
     rw [e1,e3]
     simp only
     unfold fSameP
     exact decide_eq_true (merge_assoc ra.1 rb.1 (fPtsOk_R c2).1.1)
set_option maxRecDepth 100000 in
theorem laws_FnMerge.eq:EqS (lawCon (.list (.int .u8)) [.one]) Try.f5 [4] [laws_big.e,impl_Slice.e,spec_PointsOk.e,laws_samePoints.e,spec_DrawMerge.e,impl_Merge.e,spec_Slice.e,laws_fresh.e,impl_PointsOk.e] [] (fun i x=>laws_FnMerge.L x) (fun i x=>laws_FnMerge.F x):=by intro i x;kernel_rfl
theorem laws_FnMerge.ok:ConOk Try.prog 5 (lawCon (.list (.int .u8)) [.one]):=okOf laws_FnMerge.eq Try.func5 rfl (by kernel_rfl) fun i x h hi hw=>laws_FnMerge.pure x h hw
end Go.Proofs.Ytnoapekdbmpiaaa.B
