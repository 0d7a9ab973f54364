/- What the law computes. -/
import Derived.Test.YtgfgenbmjbhphaaCWbk1
import Derived.Test.YtgfgenbmjbhphaaCLaw
namespace Go.Proofs.Ytgfgenbmjbhphaa.B
set_option linter.unusedVariables false
set_option linter.unusedSimpArgs false
open Go Go.Proofs.Ytgfgenbmjbhphaa.Bv
theorem walText_len (w:Wal):(fWalText w).length≤200000:=by
 unfold fWalText;split
 · rename_i h
   have h1:=(walOk_len h).1
   have h2:=recsT_len (fWalRecs w)
   unfold fWalRecs at h2 ⊢
   simp only [List.length_append,List.length_cons,List.length_nil,entryRecs_len] at h2
   omega
 · simp
def laws_FnWalBack.F (a0:(List Int)):Prop:=(True∧∀r1,(Eq r1 ((fBig a0),((),())))→(caseB r1.1 (Eq (true,((),())) (true,((),()))) (True∧∀r2,(qDW a0 r2)→(True∧∀r3,(Eq r3 ((fWalText (r2.1.1,(r2.1.2.1,(r2.1.2.2.1,(r2.1.2.2.2.1,r2.1.2.2.2.2))))),((),())))→(True∧∀r4,(Eq r4 ((fWalOk (r2.1.1,(r2.1.2.1,(r2.1.2.2.1,(r2.1.2.2.2.1,r2.1.2.2.2.2))))),((),())))→(caseB (!r4.1) (Eq ((r3.1==[]),((),())) (true,((),()))) ((pRpl r3.1)∧∀r5,(Eq r5 ((fReplay r3.1),((),())))→(caseB (!r5.1.2.2) (Eq (false,((),())) (true,((),()))) (caseB (r5.1.2.1 !=(ln r3.1)) (Eq (false,((),())) (true,((),()))) (caseB ((ln r3.1)==(0:Int)) (Eq (false,((),())) (true,((),()))) (True∧∀r6,(Eq r6 ((fSameW (r5.1.1.1,(r5.1.1.2.1,(r5.1.1.2.2.1,(r5.1.1.2.2.2.1,r5.1.1.2.2.2.2)))) (r2.1.1,(r2.1.2.1,(r2.1.2.2.1,(r2.1.2.2.2.1,r2.1.2.2.2.2))))),((),())))→(caseB (!r6.1) (Eq (false,((),())) (true,((),()))) (0≤(wI ((ln r3.1) - (1:Int)))∧((wI ((ln r3.1) - (1:Int)))≤(ln r3.1)∧((pRpl (List.take (tN (wI ((ln r3.1) - (1:Int)))) r3.1))∧∀r7,(Eq r7 ((fReplay (List.take (tN (wI ((ln r3.1) - (1:Int)))) r3.1)),((),())))→(caseB ((ln r2.1.2.2.2.2)==(0:Int)) (caseB r7.1.2.2 (caseB (decide (r7.1.2.1<(ln r3.1))) (Eq (((ln r7.1.1.2.2.2.2)==(0:Int)),((),())) (true,((),()))) (Eq (false,((),())) (true,((),())))) (Eq (false,((),())) (true,((),())))) (caseB r7.1.2.2 (caseB (decide (r7.1.2.1<(ln r3.1))) (0≤(wI ((ln r2.1.2.2.2.2) - (1:Int)))∧((wI ((ln r2.1.2.2.2.2) - (1:Int)))≤(ln r2.1.2.2.2.2)∧(True∧∀r8,(Eq r8 ((fSameE r7.1.1.2.2.2.2 (List.take (tN (wI ((ln r2.1.2.2.2.2) - (1:Int)))) r2.1.2.2.2.2)),((),())))→(caseB r8.1 (caseB (r7.1.1.1==r2.1.1) (Eq ((r7.1.1.2.1==r2.1.2.1),((),())) (true,((),()))) (Eq (false,((),())) (true,((),())))) (Eq (false,((),())) (true,((),()))))))) (Eq (false,((),())) (true,((),())))) (Eq (false,((),())) (true,((),()))))))))))))))))))))
theorem laws_FnWalBack.pure (a0:(List Int)) (h:WfD (.list (.int .u8)) a0) (hw:Wf (lawCon (.list (.int .u8)) [.one]).A a0):laws_FnWalBack.F a0:=by
 delta laws_FnWalBack.F ln tN wI
 simp only [forall_eq,true_and,and_true,caseB_iff,Prod.mk.injEq,decide_eq_true_eq,decide_eq_false_iff_not,Bool.not_eq_true',Bool.not_eq_false',bne_iff_ne,ne_eq,beq_iff_eq,Bool.not_true,Bool.not_false,beq_eq_false_iff_ne,bne_eq_false_iff_eq,List.length_append,List.length_cons,List.length_nil,List.append_nil,Nat.zero_add,decide_true,decide_false,eq_self_iff_true,Prod.eta]
 refine⟨fun _=>trivial,fun _ r2 hq=>?_⟩
 obtain⟨w,u⟩:=r2
 simp only at hq ⊢
 have hl:=walText_len w
 refine⟨fun h1=>by unfold fWalText;rw [if_neg (by rw [h1];decide)],fun h1=>?_⟩
 obtain⟨e1,e2⟩:=walBack h1
 obtain⟨c1,c2⟩:=walCut h1
 rw [w64 (x:=((fWalText w).length:Int) - 1) (by omega) (by omega),show (((fWalText w).length:Int) - 1).toNat=(fWalText w).length - 1 by omega,e1]
 have hlt:((fWalText w).take ((fWalText w).length - 1)).length≤1000000:=by rw [List.length_take];omega
 refine⟨by unfold pRpl;omega,fun c=>(by cases c),fun _=>⟨fun c=>absurd rfl c,fun _=>⟨fun c=>(by omega),fun _=>⟨fun c=>(by rw [sameW_self] at c;cases c),fun _=>⟨by omega,by omega,hlt,fun he=>?_,fun he=>?_⟩⟩⟩⟩⟩
 · obtain⟨m,y,f1,f2,f3⟩:=c1 (List.length_eq_zero_iff.1 (by omega))
   rw [f1]
   refine⟨fun _=>⟨fun _=>?_,fun c=>absurd f2 c⟩,fun c=>(by cases c)⟩
   simp only;rw [f3];rfl
 · have hne:w.2.2.2.2≠[]:=fun e=>he (by rw [e];rfl)
   have hpos:=List.length_pos_iff.2 hne
   obtain⟨m,f1,f2⟩:=c2 hne
   rw [f1]
   have hwl:(w.2.2.2.2.length:Int)≤60:=by have:=(walOk_len h1).1;omega
   rw [w64 (x:=(w.2.2.2.2.length:Int) - 1) (by omega) (by omega),show ((w.2.2.2.2.length:Int) - 1).toNat=w.2.2.2.2.length - 1 by omega]
   refine⟨fun _=>⟨fun _=>⟨by omega,by omega,fun _=>⟨fun _=>rfl,fun c=>absurd rfl c⟩,fun c=>?_⟩,fun c=>absurd f2 c⟩,fun c=>(by cases c)⟩
   unfold fSameE at c;simp at c
set_option maxRecDepth 100000 in
theorem laws_FnWalBack.eq:EqS (lawCon (.list (.int .u8)) [.one]) Try.f4 [4] [laws_big.e,laws_sameWal.e,spec_DrawWalText.e,impl_WalText.e,spec_WalOk.e,impl_Replay.e,laws_sameEntries.e] [] noL (fun i x=>laws_FnWalBack.F x):=by intro i x;kernel_rfl
theorem laws_FnWalBack.ok:ConOk Try.prog 4 (lawCon (.list (.int .u8)) [.one]):=okOf laws_FnWalBack.eq Try.func4 rfl (by kernel_rfl) fun i x h hi hw=>laws_FnWalBack.pure x h hw
end Go.Proofs.Ytgfgenbmjbhphaa.B
