/- Engines:flushed,packed. -/
import Derived.Test.YtnoapekdbmpiaaaGreatCEngF
namespace Go.Proofs.YtnoapekdbmpiaaaGreat.B
set_option linter.unusedVariables false
set_option linter.unusedSimpArgs false
open Go Go.Proofs.YtnoapekdbmpiaaaGreat.Bv
def c_impl_oneFile:Con:={A:=(.list (.pair .str (.list (.pair (.int .i64) (.int .i64))))),shA:=[.one],R:=(.list .str),shR:=[(false,1)],fresh:=[(0,9)],pre:=fun _ a=>(pSerOk a),f:=some fun _ a=>((fOne a),((),()))}
def impl_oneFile.F (a0:(List ((List UInt8)×(List (Int×Int))))):Prop:=(caseB ((ln a0)==(0:Int)) (Eq (([]:(List (List UInt8))),((),())) ((fOne a0),((),()))) ((pSerOk a0)∧∀r1,(Eq r1 ((fFileText a0),((),())))→(Eq ([r1.1],((),())) ((fOne a0),((),())))))
theorem impl_oneFile.pure (a0:(List ((List UInt8)×(List (Int×Int))))) (h:(pSerOk a0)) (hw:Wf c_impl_oneFile.A a0):impl_oneFile.F a0:=by
 delta impl_oneFile.F ln
 simp only [forall_eq,true_and,and_true,caseB_iff,Prod.mk.injEq,decide_eq_true_eq,decide_eq_false_iff_not,Bool.not_eq_true',Bool.not_eq_false',bne_iff_ne,ne_eq,beq_iff_eq,Bool.not_true,Bool.not_false,beq_eq_false_iff_ne,bne_eq_false_iff_eq,List.length_append,List.length_cons,List.length_nil,List.append_nil,Nat.zero_add,decide_true,decide_false,eq_self_iff_true,Prod.eta]
 have hp:pSerOk a0:=h
 refine⟨fun h1=>?_,fun h1=>⟨hp,?_⟩⟩
 · have:a0=[]:=List.length_eq_zero_iff.1 (by omega)
   rw [this];rfl
 · unfold fOne;rw [if_neg (fun e=>h1 (by rw [e];rfl))]
set_option maxRecDepth 100000 in
theorem impl_oneFile.eq:EqS c_impl_oneFile Tryz.f81 [23] [impl_FileText.e] [] noL (fun i x=>impl_oneFile.F x):=by intro i x;kernel_rfl
theorem impl_oneFile.ok:ConOk Tryz.prog 81 c_impl_oneFile:=okOf impl_oneFile.eq Tryz.func81 rfl (by kernel_rfl) fun i x h hi hw=>impl_oneFile.pure x h hw
def impl_oneFile.e:GE:=⟨81,c_impl_oneFile,⟨_,Tryz.func81,rfl,rfl⟩,impl_oneFile.ok⟩
def pFl (e:Eng):Prop:=Good 4 e
def pOne (e:Eng):Prop:=Good 5 e
def c_impl_flushed:Con:={A:=(.pair (.int .i64) (.pair (.list (.pair .str (.list (.pair (.int .i64) (.int .i64))))) (.list .str))),shA:=[.agg 3],R:=(.pair (.int .i64) (.pair (.list (.pair .str (.list (.pair (.int .i64) (.int .i64))))) (.list .str))),shR:=[(true,3)],fresh:=[(1,72),(2,9)],pre:=fun _ a=>(pFl a),f:=some fun _ a=>((fFl a),((),()))}
def impl_flushed.F (a0:(Int×((List ((List UInt8)×(List (Int×Int))))×(List (List UInt8))))):Prop:=((pIdE (a0.1,(a0.2.1,a0.2.2)))∧∀r1,(Eq r1 ((fIdE (a0.1,(a0.2.1,a0.2.2))),((),())))→(caseB (decide ((ln r1.1.2.1)>(0:Int))) ((pSerOk r1.1.2.1)∧∀r2,(Eq r2 ((fFileText r1.1.2.1),((),())))→(List.length r1.1.2.2+List.length [r2.1]≤9223372036854775807∧((List.length r1.1.2.2+List.length [r2.1])*16≤140737488355328∧(caseB (decide ((ln (r1.1.2.2++[r2.1]))>(4:Int))) ((pPlainE (r1.1.1,(([]:(List ((List UInt8)×(List (Int×Int))))),(r1.1.2.2++[r2.1]))))∧∀r3,(Eq r3 ((fPlainE (r1.1.1,(([]:(List ((List UInt8)×(List (Int×Int))))),(r1.1.2.2++[r2.1])))),((),())))→((pSerOk r3.1.1)∧∀r4,(Eq r4 ((fOne r3.1.1),((),())))→(Eq ((r1.1.1,(([]:(List ((List UInt8)×(List (Int×Int))))),r4.1)),((),())) ((fFl a0),((),()))))) (Eq ((r1.1.1,(([]:(List ((List UInt8)×(List (Int×Int))))),(r1.1.2.2++[r2.1]))),((),())) ((fFl a0),((),()))))))) (caseB (decide ((ln r1.1.2.2)>(4:Int))) ((pPlainE (r1.1.1,(r1.1.2.1,r1.1.2.2)))∧∀r5,(Eq r5 ((fPlainE (r1.1.1,(r1.1.2.1,r1.1.2.2))),((),())))→((pSerOk r5.1.1)∧∀r6,(Eq r6 ((fOne r5.1.1),((),())))→(Eq ((r1.1.1,(r1.1.2.1,r6.1)),((),())) ((fFl a0),((),()))))) (Eq ((r1.1.1,(r1.1.2.1,r1.1.2.2)),((),())) ((fFl a0),((),()))))))
theorem impl_flushed.pure (a0:(Int×((List ((List UInt8)×(List (Int×Int))))×(List (List UInt8))))) (h:(pFl a0)) (hw:Wf c_impl_flushed.A a0):impl_flushed.F a0:=by
 delta impl_flushed.F ln
 simp only [forall_eq,true_and,and_true,caseB_iff,Prod.mk.injEq,decide_eq_true_eq,decide_eq_false_iff_not,Bool.not_eq_true',Bool.not_eq_false',bne_iff_ne,ne_eq,beq_iff_eq,Bool.not_true,Bool.not_false,beq_eq_false_iff_ne,bne_eq_false_iff_eq,List.length_append,List.length_cons,List.length_nil,List.append_nil,Nat.zero_add,decide_true,decide_false,eq_self_iff_true,Prod.eta,fIdE]
 have G:Good 4 a0:=h
 obtain⟨f1,f2,f3⟩:=good_fl1 G
 have P:=f1.E (by omega)
 have S5:=ser_pSer f1.pl
 have hle:=G.le
 have yes:4<(fFl1 a0).2.2.length→fOneE (fFl1 a0)=fFl a0:=fun h=>by unfold fFl;rw [if_pos h]
 have no:¬4<(fFl1 a0).2.2.length→fFl1 a0=fFl a0:=fun h=>by unfold fFl;rw [if_neg h]
 have e1:a0.2.1≠[]→fFl1 a0=(a0.1,[],a0.2.2++[fFileText a0.2.1]):=fun h=>by unfold fFl1;rw [if_neg h]
 have e2:a0.2.1=[]→fFl1 a0=a0:=fun h=>by unfold fFl1;rw [if_pos h]
 refine⟨good_id G,fun h1=>?_,fun h1=>?_⟩
 · have hne:a0.2.1≠[]:=fun e=>by rw [e] at h1;simp at h1
   rw [e1 hne] at f1 P S5 yes no
   simp only [List.length_append,List.length_cons,List.length_nil] at yes no
   refine⟨ser_pSer G.ca,by omega,by omega,fun h2=>?_,fun h2=>no (by omega)⟩
   exact⟨P,S5,yes (by omega)⟩
 · have he:a0.2.1=[]:=List.length_eq_zero_iff.1 (by omega)
   rw [e2 he] at yes no
   refine⟨fun h2=>?_,fun h2=>no (by omega)⟩
   exfalso;omega
set_option maxRecDepth 100000 in
theorem impl_flushed.eq:EqS c_impl_flushed Tryz.f78 [31] [impl_copyEngine.e,impl_plain.e,impl_oneFile.e,impl_FileText.e] [] noL (fun i x=>impl_flushed.F x):=by intro i x;kernel_rfl
theorem impl_flushed.ok:ConOk Tryz.prog 78 c_impl_flushed:=okOf impl_flushed.eq Tryz.func78 rfl (by kernel_rfl) fun i x h hi hw=>impl_flushed.pure x h hw
def impl_flushed.e:GE:=⟨78,c_impl_flushed,⟨_,Tryz.func78,rfl,rfl⟩,impl_flushed.ok⟩
def c_spec_l10One:Con:={A:=(.pair (.int .i64) (.pair (.list (.pair .str (.list (.pair (.int .i64) (.int .i64))))) (.list .str))),shA:=[.agg 3],R:=(.pair (.int .i64) (.pair (.list (.pair .str (.list (.pair (.int .i64) (.int .i64))))) (.list .str))),shR:=[(true,3)],fresh:=[(2,9)],pre:=fun _ a=>(pOne a),f:=some fun _ a=>((fOneE a),((),()))}
def spec_l10One.F (a0:(Int×((List ((List UInt8)×(List (Int×Int))))×(List (List UInt8))))):Prop:=((pLyr (a0.1,(a0.2.1,a0.2.2)))∧∀r1,(Eq r1 ((fLyr (a0.1,(a0.2.1,a0.2.2))),((),())))→((pPlS r1.1.1 a0.1)∧∀r2,(Eq r2 ((fPlS r1.1.1 a0.1),((),())))→((pSerOk r2.1)∧∀r3,(Eq r3 ((fFileText r2.1),((),())))→(caseB (!(r3.1==[])) (List.length ([]:List (List UInt8))+List.length [r3.1]≤9223372036854775807∧((List.length ([]:List (List UInt8))+List.length [r3.1])*16≤140737488355328∧(Eq ((a0.1,(a0.2.1,(([]:List (List UInt8))++[r3.1]))),((),())) ((fOneE a0),((),()))))) (Eq ((a0.1,(a0.2.1,([]:(List (List UInt8))))),((),())) ((fOneE a0),((),())))))))
theorem spec_l10One.pure (a0:(Int×((List ((List UInt8)×(List (Int×Int))))×(List (List UInt8))))) (h:(pOne a0)) (hw:Wf c_spec_l10One.A a0):spec_l10One.F a0:=by
 unfold spec_l10One.F
 simp only [forall_eq,true_and,and_true,caseB_iff,Prod.mk.injEq,decide_eq_true_eq,decide_eq_false_iff_not,Bool.not_eq_true',Bool.not_eq_false',bne_iff_ne,ne_eq,beq_iff_eq,Bool.not_true,Bool.not_false,beq_eq_false_iff_ne,bne_eq_false_iff_eq,List.length_append,List.length_cons,List.length_nil,List.append_nil,Nat.zero_add,decide_true,decide_false,eq_self_iff_true,Prod.eta]
 have G:Good 5 a0:=h
 obtain⟨l1,l2,l3,l4⟩:=good_spec G (by omega)
 rw [l2];simp only;rw [l4]
 refine⟨l1,l3,ser_pSer G.pl,fun h1=>?_,fun h1=>?_⟩
 · have X:(a0.1,a0.2.1,[fFileText (fPlainE a0).1])=fOneE a0:=by
    unfold fOneE fOne;rw [if_neg (fun e=>h1 ((text_nil G.pl).2 e))]
   first | exact X | exact⟨by omega,by omega,X⟩
 · unfold fOneE fOne;rw [if_pos ((text_nil G.pl).1 h1)]
set_option maxRecDepth 100000 in
theorem spec_l10One.eq:EqS c_spec_l10One Tryz.f79 [31] [spec_l10Layers.e,spec_l10Plain.e,spec_FileText.e] [] noL (fun i x=>spec_l10One.F x):=by intro i x;kernel_rfl
theorem spec_l10One.ok:ConOk Tryz.prog 79 c_spec_l10One:=okOf spec_l10One.eq Tryz.func79 rfl (by kernel_rfl) fun i x h hi hw=>spec_l10One.pure x h hw
def spec_l10One.e:GE:=⟨79,c_spec_l10One,⟨_,Tryz.func79,rfl,rfl⟩,spec_l10One.ok⟩
def c_spec_l10Flush:Con:={A:=(.pair (.int .i64) (.pair (.list (.pair .str (.list (.pair (.int .i64) (.int .i64))))) (.list .str))),shA:=[.agg 3],ownA:=[(2,9)],R:=(.pair (.int .i64) (.pair (.list (.pair .str (.list (.pair (.int .i64) (.int .i64))))) (.list .str))),shR:=[(true,3)],fresh:=[(2,9)],pre:=fun _ a=>(pFl a),f:=some fun _ a=>((fFl a),((),()))}
def spec_l10Flush.F (a0:(Int×((List ((List UInt8)×(List (Int×Int))))×(List (List UInt8))))):Prop:=(caseB (decide ((ln a0.2.1)>(0:Int))) ((pSerOk a0.2.1)∧∀r1,(Eq r1 ((fFileText a0.2.1),((),())))→(List.length a0.2.2+List.length [r1.1]≤9223372036854775807∧((List.length a0.2.2+List.length [r1.1])*16≤140737488355328∧(caseB (decide ((ln (a0.2.2++[r1.1]))>(4:Int))) ((pOne (a0.1,(([]:(List ((List UInt8)×(List (Int×Int))))),(a0.2.2++[r1.1]))))∧∀r2,(Eq r2 ((fOneE (a0.1,(([]:(List ((List UInt8)×(List (Int×Int))))),(a0.2.2++[r1.1])))),((),())))→(Eq ((r2.1.1,(r2.1.2.1,r2.1.2.2)),((),())) ((fFl a0),((),())))) (Eq ((a0.1,(([]:(List ((List UInt8)×(List (Int×Int))))),(a0.2.2++[r1.1]))),((),())) ((fFl a0),((),()))))))) (caseB (decide ((ln a0.2.2)>(4:Int))) ((pOne (a0.1,(a0.2.1,a0.2.2)))∧∀r3,(Eq r3 ((fOneE (a0.1,(a0.2.1,a0.2.2))),((),())))→(Eq ((r3.1.1,(r3.1.2.1,r3.1.2.2)),((),())) ((fFl a0),((),())))) (Eq ((a0.1,(a0.2.1,a0.2.2)),((),())) ((fFl a0),((),())))))
theorem spec_l10Flush.pure (a0:(Int×((List ((List UInt8)×(List (Int×Int))))×(List (List UInt8))))) (h:(pFl a0)) (hw:Wf c_spec_l10Flush.A a0):spec_l10Flush.F a0:=by
 delta spec_l10Flush.F ln
 simp only [forall_eq,true_and,and_true,caseB_iff,Prod.mk.injEq,decide_eq_true_eq,decide_eq_false_iff_not,Bool.not_eq_true',Bool.not_eq_false',bne_iff_ne,ne_eq,beq_iff_eq,Bool.not_true,Bool.not_false,beq_eq_false_iff_ne,bne_eq_false_iff_eq,List.length_append,List.length_cons,List.length_nil,List.append_nil,Nat.zero_add,decide_true,decide_false,eq_self_iff_true,Prod.eta]
 have G:Good 4 a0:=h
 obtain⟨f1,f2,f3⟩:=good_fl1 G
 have P:=f1.E (by omega)
 have S5:=ser_pSer f1.pl
 have hle:=G.le
 have yes:4<(fFl1 a0).2.2.length→fOneE (fFl1 a0)=fFl a0:=fun h=>by unfold fFl;rw [if_pos h]
 have no:¬4<(fFl1 a0).2.2.length→fFl1 a0=fFl a0:=fun h=>by unfold fFl;rw [if_neg h]
 have e1:a0.2.1≠[]→fFl1 a0=(a0.1,[],a0.2.2++[fFileText a0.2.1]):=fun h=>by unfold fFl1;rw [if_neg h]
 have e2:a0.2.1=[]→fFl1 a0=a0:=fun h=>by unfold fFl1;rw [if_pos h]
 refine⟨fun h1=>?_,fun h1=>?_⟩
 · have hne:a0.2.1≠[]:=fun e=>by rw [e] at h1;simp at h1
   rw [e1 hne] at f1 P S5 yes no
   simp only [List.length_append,List.length_cons,List.length_nil] at yes no
   refine⟨ser_pSer G.ca,by omega,by omega,fun h2=>?_,fun h2=>no (by omega)⟩
   exact⟨f1,yes (by omega)⟩
 · have he:a0.2.1=[]:=List.length_eq_zero_iff.1 (by omega)
   rw [e2 he] at yes no
   refine⟨fun h2=>?_,fun h2=>no (by omega)⟩
   exfalso;omega
set_option maxRecDepth 100000 in
theorem spec_l10Flush.eq:EqS c_spec_l10Flush Tryz.f77 [31] [spec_l10One.e,spec_FileText.e] [] noL (fun i x=>spec_l10Flush.F x):=by intro i x;kernel_rfl
theorem spec_l10Flush.ok:ConOk Tryz.prog 77 c_spec_l10Flush:=okOf spec_l10Flush.eq Tryz.func77 rfl (by kernel_rfl) fun i x h hi hw=>spec_l10Flush.pure x h hw
def spec_l10Flush.e:GE:=⟨77,c_spec_l10Flush,⟨_,Tryz.func77,rfl,rfl⟩,spec_l10Flush.ok⟩
def c_impl_Pack:Con:={A:=(.pair (.int .i64) (.pair (.list (.pair .str (.list (.pair (.int .i64) (.int .i64))))) (.list .str))),shA:=[.agg 3],R:=(.pair (.int .i64) (.pair (.list (.pair .str (.list (.pair (.int .i64) (.int .i64))))) (.list .str))),shR:=[(true,3)],fresh:=[(1,72),(2,9)],pre:=fun _ a=>(pEng a),f:=some fun _ a=>((fPack a),((),()))}
def impl_Pack.F (a0:(Int×((List ((List UInt8)×(List (Int×Int))))×(List (List UInt8))))):Prop:=((pEng (a0.1,(a0.2.1,a0.2.2)))∧∀r1,(Eq r1 ((fEngOk (a0.1,(a0.2.1,a0.2.2))),((),())))→(caseB (!r1.1) (Eq ((0,(([]:(List ((List UInt8)×(List (Int×Int))))),([]:(List (List UInt8))))),((),())) ((fPack a0),((),()))) ((pFl (a0.1,(a0.2.1,a0.2.2)))∧∀r2,(Eq r2 ((fFl (a0.1,(a0.2.1,a0.2.2))),((),())))→((pPlainE (r2.1.1,(r2.1.2.1,r2.1.2.2)))∧∀r3,(Eq r3 ((fPlainE (r2.1.1,(r2.1.2.1,r2.1.2.2))),((),())))→((pSerOk r3.1.1)∧∀r4,(Eq r4 ((fOne r3.1.1),((),())))→(Eq ((r2.1.1,(r2.1.2.1,r4.1)),((),())) ((fPack a0),((),()))))))))
theorem impl_Pack.pure (a0:(Int×((List ((List UInt8)×(List (Int×Int))))×(List (List UInt8))))) (h:(pEng a0)) (hw:Wf c_impl_Pack.A a0):impl_Pack.F a0:=by
 unfold impl_Pack.F
 simp only [forall_eq,true_and,and_true,caseB_iff,Prod.mk.injEq,decide_eq_true_eq,decide_eq_false_iff_not,Bool.not_eq_true',Bool.not_eq_false',bne_iff_ne,ne_eq,beq_iff_eq,Bool.not_true,Bool.not_false,beq_eq_false_iff_ne,bne_eq_false_iff_eq,List.length_append,List.length_cons,List.length_nil,List.append_nil,Nat.zero_add,decide_true,decide_false,eq_self_iff_true,Prod.eta]
 have hp:pEng a0:=h
 refine⟨hp,fun h1=>?_,fun h1=>?_⟩
 · unfold fPack;rw [if_neg (by rw [h1];decide)];rfl
 have G:=good_of h1 hp
 obtain⟨g1,g2,g3⟩:=good_fl G
 have X:fPack a0=fOneE (fFl a0):=by unfold fPack;rw [if_pos h1]
 rw [X]
 exact⟨G,g1.E (by omega),ser_pSer g1.pl,rfl⟩
set_option maxRecDepth 100000 in
theorem impl_Pack.eq:EqS c_impl_Pack Tryz.f34 [31] [impl_EngineOk.e,impl_flushed.e,impl_plain.e,impl_oneFile.e] [] noL (fun i x=>impl_Pack.F x):=by intro i x;kernel_rfl
theorem impl_Pack.ok:ConOk Tryz.prog 34 c_impl_Pack:=okOf impl_Pack.eq Tryz.func34 rfl (by kernel_rfl) fun i x h hi hw=>impl_Pack.pure x h hw
def impl_Pack.e:GE:=⟨34,c_impl_Pack,⟨_,Tryz.func34,rfl,rfl⟩,impl_Pack.ok⟩
def c_spec_Pack:Con:={A:=(.pair (.int .i64) (.pair (.list (.pair .str (.list (.pair (.int .i64) (.int .i64))))) (.list .str))),shA:=[.agg 3],R:=(.pair (.int .i64) (.pair (.list (.pair .str (.list (.pair (.int .i64) (.int .i64))))) (.list .str))),shR:=[(true,3)],pre:=fun _ a=>(pEng a),f:=some fun _ a=>((fPack a),((),()))}
def spec_Pack.F (a0:(Int×((List ((List UInt8)×(List (Int×Int))))×(List (List UInt8))))):Prop:=((pEng (a0.1,(a0.2.1,a0.2.2)))∧∀r1,(Eq r1 ((fEngOk (a0.1,(a0.2.1,a0.2.2))),((),())))→(caseB (!r1.1) (Eq ((0,(([]:(List ((List UInt8)×(List (Int×Int))))),([]:(List (List UInt8))))),((),())) ((fPack a0),((),()))) ((pIdE (a0.1,(a0.2.1,a0.2.2)))∧∀r2,(Eq r2 ((fIdE (a0.1,(a0.2.1,a0.2.2))),((),())))→((pFl (r2.1.1,(r2.1.2.1,r2.1.2.2)))∧∀r3,(Eq r3 ((fFl (r2.1.1,(r2.1.2.1,r2.1.2.2))),((),())))→((pOne (r3.1.1,(r3.1.2.1,r3.1.2.2)))∧∀r4,(Eq r4 ((fOneE (r3.1.1,(r3.1.2.1,r3.1.2.2))),((),())))→(Eq ((r4.1.1,(r4.1.2.1,r4.1.2.2)),((),())) ((fPack a0),((),()))))))))
theorem spec_Pack.pure (a0:(Int×((List ((List UInt8)×(List (Int×Int))))×(List (List UInt8))))) (h:(pEng a0)) (hw:Wf c_spec_Pack.A a0):spec_Pack.F a0:=by
 unfold spec_Pack.F
 simp only [forall_eq,true_and,and_true,caseB_iff,Prod.mk.injEq,decide_eq_true_eq,decide_eq_false_iff_not,Bool.not_eq_true',Bool.not_eq_false',bne_iff_ne,ne_eq,beq_iff_eq,Bool.not_true,Bool.not_false,beq_eq_false_iff_ne,bne_eq_false_iff_eq,List.length_append,List.length_cons,List.length_nil,List.append_nil,Nat.zero_add,decide_true,decide_false,eq_self_iff_true,Prod.eta,fIdE]
 have hp:pEng a0:=h
 refine⟨hp,fun h1=>?_,fun h1=>?_⟩
 · unfold fPack;rw [if_neg (by rw [h1];decide)];rfl
 have G:=good_of h1 hp
 obtain⟨g1,g2,g3⟩:=good_fl G
 have X:fPack a0=fOneE (fFl a0):=by unfold fPack;rw [if_pos h1]
 rw [X]
 exact⟨idE_of h1,G,g1.mono (by omega),rfl⟩
set_option maxRecDepth 100000 in
theorem spec_Pack.eq:EqS c_spec_Pack Tryz.f33 [31] [spec_EngineOk.e,spec_l10Copy.e,spec_l10Flush.e,spec_l10One.e] [] noL (fun i x=>spec_Pack.F x):=by intro i x;kernel_rfl
theorem spec_Pack.ok:ConOk Tryz.prog 33 c_spec_Pack:=okOf spec_Pack.eq Tryz.func33 rfl (by kernel_rfl) fun i x h hi hw=>spec_Pack.pure x h hw
def spec_Pack.e:GE:=⟨33,c_spec_Pack,⟨_,Tryz.func33,rfl,rfl⟩,spec_Pack.ok⟩
end Go.Proofs.YtnoapekdbmpiaaaGreat.B
