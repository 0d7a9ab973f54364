/- What the law computes. -/
import Derived.Test.YtgfgenbmjbhphaaCChg2
import Derived.Test.YtgfgenbmjbhphaaCLaw
namespace Go.Proofs.Ytgfgenbmjbhphaa.B
set_option linter.unusedVariables false
set_option linter.unusedSimpArgs false
open Go Go.Proofs.Ytgfgenbmjbhphaa.Bv
theorem showRec_len {r:Rec} (h:fRecOk r=true):(fShowRec r).length≤1000:=by
 obtain⟨_,_,_,_,h5⟩:=recOk_in h
 have v1:=fVar_length r.2.1
 have v2:=fVar_length r.2.2.1
 have v3:=fVar_length (r.2.2.2.1+1)
 unfold fShowRec
 rw [if_pos h]
 simp only [List.length_append,byteR_len];omega
theorem changes_len {a b:Wal} (h:(fChanges a b).2=true):(fChanges a b).1.length≤62:=by
 obtain⟨_,hb⟩:=changes_ok h
 have hl:=(walOk_len hb).1
 have hc:(fCutRecs a b).length≤61:=by
  unfold fCutRecs
  rw [List.length_append,entryRecs_len,List.length_drop]
  split<;>simp<;>omega
 unfold fChanges at h ⊢
 split
 · split
   · simp only;omega
   · split
     · simp only [List.length_cons];omega
     · simp
 · simp
structure lwI (code:List Int) (l:List Rec) (i b0 b1 b2 b3:Int) (b4:List Ent) (x0 x1 x2 x3:Int) (x4:List Ent):Prop where
 hi:0≤i∧i≤l.length∧l.length≤62
 hb:fWalOk ((b0,(b1,(b2,(b3,b4)))):Wal)=true
 hr:runs ((x0,(x1,(x2,(x3,x4)))):Wal) (l.drop i.toNat)=some ((b0,(b1,(b2,(b3,b4)))):Wal)
def lwM (code:List Int) (l:List Rec) (i b0 b1 b2 b3:Int) (b4:List Ent) (x0 x1 x2 x3:Int) (x4:List Ent):Nat:=(l.length - i).toNat
theorem lw_step {code:List Int} {l:List Rec} {i b0 b1 b2 b3:Int} {b4:List Ent} {x0 x1 x2 x3:Int} {x4:List Ent} (h:lwI code l i b0 b1 b2 b3 b4 x0 x1 x2 x3 x4) (hi:i<l.length):
 (fWalStep ((x0,(x1,(x2,(x3,x4)))):Wal) (l.getD i.toNat (0,(0,(0,(0,[])))))).2=true∧fRecOk (l.getD i.toNat (0,(0,(0,(0,[])))))=true∧
 ∀w,(fWalStep ((x0,(x1,(x2,(x3,x4)))):Wal) (l.getD i.toNat (0,(0,(0,(0,[])))))).1=w→lwI code l (i+1) b0 b1 b2 b3 b4 w.1 w.2.1 w.2.2.1 w.2.2.2.1 w.2.2.2.2:=by
 obtain⟨⟨h1,h2,h3⟩,hb,hr⟩:=h
 rw [drop_getD (0,(0,(0,(0,[])))) (by omega:i.toNat<l.length)] at hr
 generalize l.getD i.toNat (0,(0,(0,(0,[]))))=r at hr ⊢
 rw [runs] at hr
 split at hr
 · rename_i hc
   refine⟨hc.1,hc.2,fun w hw=>⟨⟨by omega,by omega,h3⟩,hb,?_⟩⟩
   subst hw
   rw [tn1 h1]
   exact hr
 · cases hr
theorem lw_end {code:List Int} {l:List Rec} {i b0 b1 b2 b3:Int} {b4:List Ent} {x0 x1 x2 x3:Int} {x4:List Ent} (h:lwI code l i b0 b1 b2 b3 b4 x0 x1 x2 x3 x4) (hi:¬i<l.length):((x0,(x1,(x2,(x3,x4)))):Wal)=((b0,(b1,(b2,(b3,b4)))):Wal):=by
 obtain⟨⟨h1,h2,h3⟩,hb,hr⟩:=h
 rw [show l.drop i.toNat=[] by rw [List.drop_eq_nil_iff];omega] at hr
 exact Option.some.inj hr
def laws_FnChanges.F (a0:(List Int)):Prop:=(True∧∀r1,(Eq r1 ((fBig a0),((),())))→(caseB r1.1 (Eq (true,((),())) (true,((),()))) (True∧∀r2,(qDC a0 r2)→(True∧∀r3,(Eq r3 ((fChanges (r2.1.1.1,(r2.1.1.2.1,(r2.1.1.2.2.1,(r2.1.1.2.2.2.1,r2.1.1.2.2.2.2)))) (r2.1.2.1,(r2.1.2.2.1,(r2.1.2.2.2.1,(r2.1.2.2.2.2.1,r2.1.2.2.2.2.2))))),((),())))→(True∧∀r4,(qChg (r2.1.1.1,(r2.1.1.2.1,(r2.1.1.2.2.1,(r2.1.1.2.2.2.1,r2.1.1.2.2.2.2)))) (r2.1.2.1,(r2.1.2.2.1,(r2.1.2.2.2.1,(r2.1.2.2.2.2.1,r2.1.2.2.2.2.2)))) r4)→(caseB (!(r3.1.2==r4.1.2)) (Eq (false,((),())) (true,((),()))) (caseB (!r3.1.2) (Eq (((ln r3.1.1)==(0:Int)),((),())) (true,((),()))) (eS [(4,.box 5 0),(5,.val false [.lst (.pair (.int .i64) (.pair (.int .i64) (.pair (.int .i64) (.pair (.int .i64) .str)))) r3.1.1 none]),(9,.box 10 0)] [(4,.box 5 0),(5,.val false [.lst (.pair (.int .i64) (.pair (.int .i64) (.pair (.int .i64) (.pair (.int .i64) .str)))) r3.1.1 none]),(9,.box 10 0)]∧((lwI a0 r3.1.1 0 r2.1.2.1 r2.1.2.2.1 r2.1.2.2.2.1 r2.1.2.2.2.2.1 r2.1.2.2.2.2.2 r2.1.1.1 r2.1.1.2.1 r2.1.1.2.2.1 r2.1.1.2.2.2.1 r2.1.1.2.2.2.2)∧∀(y5:(Int×(Int×(Int×(Int×(Int×((List (Int×(List UInt8)))×(Int×(Int×(Int×(Int×(List (Int×(List UInt8)))))))))))))),(lwI a0 r3.1.1 y5.1 y5.2.1 y5.2.2.1 y5.2.2.2.1 y5.2.2.2.2.1 y5.2.2.2.2.2.1 y5.2.2.2.2.2.2.1 y5.2.2.2.2.2.2.2.1 y5.2.2.2.2.2.2.2.2.1 y5.2.2.2.2.2.2.2.2.2.1 y5.2.2.2.2.2.2.2.2.2.2)→(caseB (decide (y5.1<(ln r3.1.1))) (0≤y5.1∧(y5.1<(ln r3.1.1)∧(True∧∀r6,(Eq r6 ((fWalStep (y5.2.2.2.2.2.2.1,(y5.2.2.2.2.2.2.2.1,(y5.2.2.2.2.2.2.2.2.1,(y5.2.2.2.2.2.2.2.2.2.1,y5.2.2.2.2.2.2.2.2.2.2)))) ((List.getD r3.1.1 (tN y5.1) (0,(0,(0,(0,[]))))).1,((List.getD r3.1.1 (tN y5.1) (0,(0,(0,(0,[]))))).2.1,((List.getD r3.1.1 (tN y5.1) (0,(0,(0,(0,[]))))).2.2.1,((List.getD r3.1.1 (tN y5.1) (0,(0,(0,(0,[]))))).2.2.2.1,(List.getD r3.1.1 (tN y5.1) (0,(0,(0,(0,[]))))).2.2.2.2))))),((),())))→(0≤y5.1∧(y5.1<(ln r3.1.1)∧(True∧∀r7,(Eq r7 ((fShowRec ((List.getD r3.1.1 (tN y5.1) (0,(0,(0,(0,[]))))).1,((List.getD r3.1.1 (tN y5.1) (0,(0,(0,(0,[]))))).2.1,((List.getD r3.1.1 (tN y5.1) (0,(0,(0,(0,[]))))).2.2.1,((List.getD r3.1.1 (tN y5.1) (0,(0,(0,(0,[]))))).2.2.2.1,(List.getD r3.1.1 (tN y5.1) (0,(0,(0,(0,[]))))).2.2.2.2))))),((),())))→((pStr r7.1)∧∀r8,(Eq r8 ((fReadRec r7.1),((),())))→(caseB (!r6.1.2) (Eq (false,((),())) (true,((),()))) (caseB (!r8.1.2) (Eq (false,((),())) (true,((),()))) (0≤y5.1∧(y5.1<(ln r3.1.1)∧(caseB (!(r8.1.1.1==((List.getD r3.1.1 (tN y5.1) (0,(0,(0,(0,[]))))).1)&&(r8.1.1.2.1==((List.getD r3.1.1 (tN y5.1) (0,(0,(0,(0,[]))))).2.1)&&(r8.1.1.2.2.1==((List.getD r3.1.1 (tN y5.1) (0,(0,(0,(0,[]))))).2.2.1)&&(r8.1.1.2.2.2.1==((List.getD r3.1.1 (tN y5.1) (0,(0,(0,(0,[]))))).2.2.2.1)&&(r8.1.1.2.2.2.2==((List.getD r3.1.1 (tN y5.1) (0,(0,(0,(0,[]))))).2.2.2.2)&&true)))))) (Eq (false,((),())) (true,((),()))) (eS [(4,.box 5 0),(5,.val false [.lst (.pair (.int .i64) (.pair (.int .i64) (.pair (.int .i64) (.pair (.int .i64) .str)))) r3.1.1 none]),(9,.box 10 0)] [(4,.box 5 0),(5,.val false [.lst (.pair (.int .i64) (.pair (.int .i64) (.pair (.int .i64) (.pair (.int .i64) .str)))) r3.1.1 none]),(9,.box 10 0)]∧(lwI a0 r3.1.1 (wI (y5.1+(1:Int))) y5.2.1 y5.2.2.1 y5.2.2.2.1 y5.2.2.2.2.1 y5.2.2.2.2.2.1 r6.1.1.1 r6.1.1.2.1 r6.1.1.2.2.1 r6.1.1.2.2.2.1 r6.1.1.2.2.2.2)∧(lwM a0 r3.1.1 (wI (y5.1+(1:Int))) y5.2.1 y5.2.2.1 y5.2.2.2.1 y5.2.2.2.2.1 y5.2.2.2.2.2.1 r6.1.1.1 r6.1.1.2.1 r6.1.1.2.2.1 r6.1.1.2.2.2.1 r6.1.1.2.2.2.2)<(lwM a0 r3.1.1 y5.1 y5.2.1 y5.2.2.1 y5.2.2.2.1 y5.2.2.2.2.1 y5.2.2.2.2.2.1 y5.2.2.2.2.2.2.1 y5.2.2.2.2.2.2.2.1 y5.2.2.2.2.2.2.2.2.1 y5.2.2.2.2.2.2.2.2.2.1 y5.2.2.2.2.2.2.2.2.2.2)))))))))))))) (True∧∀r9,(Eq r9 ((fChanges (y5.2.1,(y5.2.2.1,(y5.2.2.2.1,(y5.2.2.2.2.1,y5.2.2.2.2.2.1)))) (y5.2.1,(y5.2.2.1,(y5.2.2.2.1,(y5.2.2.2.2.1,y5.2.2.2.2.2.1))))),((),())))→(True∧∀r10,(Eq r10 ((fSameW (y5.2.2.2.2.2.2.1,(y5.2.2.2.2.2.2.2.1,(y5.2.2.2.2.2.2.2.2.1,(y5.2.2.2.2.2.2.2.2.2.1,y5.2.2.2.2.2.2.2.2.2.2)))) (y5.2.1,(y5.2.2.1,(y5.2.2.2.1,(y5.2.2.2.2.1,y5.2.2.2.2.2.1))))),((),())))→(caseB r10.1 (caseB r9.1.2 (Eq (((ln r9.1.1)==(0:Int)),((),())) (true,((),()))) (Eq (false,((),())) (true,((),())))) (Eq (false,((),())) (true,((),()))))))))))))))))
def laws_FnChanges.L (a0:(List Int)):Nat→Option LoopAnn:=fun p=>Go.Proofs.Ytgfgenbmjbhphaa.Bv.look p [(4090,{kp:={hold:=[4,5,9],slots:=[10],boxes:=[5,10],rows:=[]},T:=(.pair (.int .i64) (.pair (.int .i64) (.pair (.int .i64) (.pair (.int .i64) (.pair (.int .i64) (.pair (.list (.pair (.int .i64) .str)) (.pair (.int .i64) (.pair (.int .i64) (.pair (.int .i64) (.pair (.int .i64) (.list (.pair (.int .i64) .str)))))))))))),I:=fun st y=>lwI a0 (lstC (.pair (.int .i64) (.pair (.int .i64) (.pair (.int .i64) (.pair (.int .i64) .str)))) st (cellAt st 5 0)) y.1 y.2.1 y.2.2.1 y.2.2.2.1 y.2.2.2.2.1 y.2.2.2.2.2.1 y.2.2.2.2.2.2.1 y.2.2.2.2.2.2.2.1 y.2.2.2.2.2.2.2.2.1 y.2.2.2.2.2.2.2.2.2.1 y.2.2.2.2.2.2.2.2.2.2,μ:=fun st y=>lwM a0 (lstC (.pair (.int .i64) (.pair (.int .i64) (.pair (.int .i64) (.pair (.int .i64) .str)))) st (cellAt st 5 0)) y.1 y.2.1 y.2.2.1 y.2.2.2.1 y.2.2.2.2.1 y.2.2.2.2.2.1 y.2.2.2.2.2.2.1 y.2.2.2.2.2.2.2.1 y.2.2.2.2.2.2.2.2.1 y.2.2.2.2.2.2.2.2.2.1 y.2.2.2.2.2.2.2.2.2.2})]
theorem laws_FnChanges.pure (a0:(List Int)) (h:WfD (.list (.int .u8)) a0) (hw:Wf (lawCon (.list (.int .u8)) [.one]).A a0):laws_FnChanges.F a0:=by
 delta laws_FnChanges.F ln tN wI eS
 simp only [forall_eq,true_and,and_true,caseB_iff,Prod.mk.injEq,decide_eq_true_eq,decide_eq_false_iff_not,Bool.not_eq_true',Bool.not_eq_false',bne_iff_ne,ne_eq,beq_iff_eq,Bool.not_true,Bool.not_false,beq_eq_false_iff_ne,bne_eq_false_iff_eq,List.length_append,List.length_cons,List.length_nil,List.append_nil,Nat.zero_add,decide_true,decide_false,eq_self_iff_true,Prod.eta]
 refine⟨fun _=>trivial,fun _ r2 hq r4 h4=>?_⟩
 obtain⟨⟨a,b⟩,u⟩:=r2
 simp only at hq h4 ⊢
 unfold qChg at h4
 refine⟨fun h5=>absurd h4.symm h5,fun _=>⟨fun h6=>by rw [changes_no h6];rfl,fun h6=>?_⟩⟩
 have hcl:=changes_len h6
 obtain⟨oa,ob⟩:=changes_ok h6
 refine⟨⟨⟨by omega,by omega,hcl⟩,ob,by rw [show (0:Int).toNat=0 by rfl,List.drop_zero];exact changes_run h6⟩,?_⟩
 rintro⟨i,b0,b1,b2,b3,b4,x0,x1,x2,x3,x4⟩ hI
 simp only at hI ⊢
 have hi0:=hI.hi
 refine⟨fun hi=>?_,fun hi=>?_⟩
 · obtain⟨s1,s2,s3⟩:=lw_step hI hi
   have rs:=read_show s2
   rw [w64 (x:=i+1) (by omega) (by omega)]
   generalize (fChanges a b).1.getD i.toNat (0,(0,(0,(0,[]))))=r at s1 s2 s3 rs ⊢
   rw [rs]
   have hlen:=showRec_len s2
   refine⟨hi0.1,hi,hi0.1,hi,(by unfold pStr maxLen;omega),fun c=>(by rw [s1] at c;cases c),fun _=>⟨fun c=>(by cases c),fun _=>⟨hi0.1,hi,fun c=>(by simp at c),fun _=>⟨s3 _ rfl,by unfold lwM;omega⟩⟩⟩⟩
 · have e:=lw_end hI hi
   have hb:=hI.hb
   rw [e,sameW_self,changes_self hb]
   exact⟨fun _=>⟨fun _=>rfl,fun c=>c.symm⟩,fun c=>c.symm⟩
set_option maxRecDepth 100000 in
theorem laws_FnChanges.eq:EqS (lawCon (.list (.int .u8)) [.one]) Try.f3 [4] [laws_big.e,spec_DrawChanges.e,impl_Changes.e,spec_Changes.e,impl_WalStep.e,impl_ReadRec.e,impl_ShowRec.e,laws_sameWal.e] [] (fun i x=>laws_FnChanges.L x) (fun i x=>laws_FnChanges.F x):=by intro i x;kernel_rfl
theorem laws_FnChanges.ok:ConOk Try.prog 3 (lawCon (.list (.int .u8)) [.one]):=okOf laws_FnChanges.eq Try.func3 rfl (by kernel_rfl) fun i x h hi hw=>laws_FnChanges.pure x h hw
end Go.Proofs.Ytgfgenbmjbhphaa.B
