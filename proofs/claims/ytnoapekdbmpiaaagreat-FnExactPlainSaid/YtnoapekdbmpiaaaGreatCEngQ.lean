/- Engines:asked. -/
import Derived.Test.YtnoapekdbmpiaaaGreatCEngE
namespace Go.Proofs.YtnoapekdbmpiaaaGreat.B
set_option linter.unusedVariables false
set_option linter.unusedSimpArgs false
open Go Go.Proofs.YtnoapekdbmpiaaaGreat.Bv
def fPlain (e:Eng):List Ser:=if fEngOk e=true then (fPlainE e).1 else []
theorem head_parts {e:Eng} (h:fHead e=true):(0≤e.1∧e.1≤1099511627776)∧fSerOk e.2.1=true∧fCnt e.2.1≤40∧e.2.2.length≤4∧fCont e.2.1 e=false:=by
 unfold fHead fTime fIn at h
 simp only [Bool.and_eq_true,decide_eq_true_eq,Bool.not_eq_true'] at h
 exact⟨h.1,h.2.1,h.2.2.1,h.2.2.2.1,h.2.2.2.2⟩
theorem engOk_parts {e:Eng} (h:fEngOk e=true):fHead e=true∧okF e.2.2=true∧fEngRead e=((fPlainE e).1,true)∧fSerOk (fPlainE e).1=true:=by
 have h0:=h
 unfold fEngOk fEngRead at h
 split at h
 · rename_i h1
   split at h
   · rename_i h2
     refine⟨h1,by rw [←okF_plain];exact h2,?_,h⟩
     unfold fEngRead;rw [if_pos h1,if_pos h2,show fSerOk (fPlainE e).1=true from h]
   · cases h
 · cases h
theorem engRead_two (e:Eng):(fEngRead e).2=fEngOk e:=rfl
theorem layers_ok {e:Eng} (h:okF e.2.2=true):fLyr e=(fLay e.2.2++[e.2.1],true):=by unfold fLyr;rw [if_pos h]
theorem plain_tot (e:Eng):tot (fPlain e)≤305:=by
 unfold fPlain;split
 · rename_i h;exact (fSerOk_R (engOk_parts h).2.2.2).2.1
 · simp [tot,cL]
def c_impl_Plain:Con:={A:=(.pair (.int .i64) (.pair (.list (.pair .str (.list (.pair (.int .i64) (.int .i64))))) (.list .str))),shA:=[.agg 3],R:=(.list (.pair .str (.list (.pair (.int .i64) (.int .i64))))),shR:=[(false,1)],fresh:=[(0,72)],pre:=fun _ a=>(pEng a),f:=some fun _ a=>((fPlain a),((),()))}
def impl_Plain.F (a0:(Int×((List ((List UInt8)×(List (Int×Int))))×(List (List UInt8))))):Prop:=((pEng (a0.1,(a0.2.1,a0.2.2)))∧∀r1,(Eq r1 ((fEngRead (a0.1,(a0.2.1,a0.2.2))),((),())))→(caseB (!r1.1.2) (Eq (([]:(List ((List UInt8)×(List (Int×Int))))),((),())) ((fPlain a0),((),()))) (Eq (r1.1.1,((),())) ((fPlain a0),((),())))))
theorem impl_Plain.pure (a0:(Int×((List ((List UInt8)×(List (Int×Int))))×(List (List UInt8))))) (h:(pEng a0)) (hw:Wf c_impl_Plain.A a0):impl_Plain.F a0:=by
 unfold impl_Plain.F
 simp only [forall_eq,true_and,and_true,caseB_iff,Prod.mk.injEq,decide_eq_true_eq,decide_eq_false_iff_not,Bool.not_eq_true',Bool.not_eq_false',bne_iff_ne,ne_eq,beq_iff_eq,Bool.not_true,Bool.not_false,beq_eq_false_iff_ne,bne_eq_false_iff_eq,List.length_append,List.length_cons,List.length_nil,List.append_nil,Nat.zero_add,decide_true,decide_false,eq_self_iff_true,pEng,Prod.eta]
 have hp:pEng a0:=h
 refine⟨hp,fun h1=>?_,fun h1=>?_⟩
 · unfold fPlain;rw [if_neg (by rw [←engRead_two,h1];decide)]
 · have h2:=engOk_parts (e:=a0) h1
   unfold fPlain;rw [if_pos (show fEngOk a0=true from h1),h2.2.2.1]
set_option maxRecDepth 100000 in
theorem impl_Plain.eq:EqS c_impl_Plain Tryz.f24 [29] [impl_engineRead.e] [] noL (fun i x=>impl_Plain.F x):=by intro i x;kernel_rfl
theorem impl_Plain.ok:ConOk Tryz.prog 24 c_impl_Plain:=okOf impl_Plain.eq Tryz.func24 rfl (by kernel_rfl) fun i x h hi hw=>impl_Plain.pure x h hw
def impl_Plain.e:GE:=⟨24,c_impl_Plain,⟨_,Tryz.func24,rfl,rfl⟩,impl_Plain.ok⟩
def c_spec_Plain:Con:={A:=(.pair (.int .i64) (.pair (.list (.pair .str (.list (.pair (.int .i64) (.int .i64))))) (.list .str))),shA:=[.agg 3],R:=(.list (.pair .str (.list (.pair (.int .i64) (.int .i64))))),shR:=[(false,1)],pre:=fun _ a=>(pEng a),f:=some fun _ a=>((fPlain a),((),()))}
def spec_Plain.F (a0:(Int×((List ((List UInt8)×(List (Int×Int))))×(List (List UInt8))))):Prop:=((pEng (a0.1,(a0.2.1,a0.2.2)))∧∀r1,(Eq r1 ((fEngOk (a0.1,(a0.2.1,a0.2.2))),((),())))→(caseB (!r1.1) (Eq (([]:(List ((List UInt8)×(List (Int×Int))))),((),())) ((fPlain a0),((),()))) ((pLyr (a0.1,(a0.2.1,a0.2.2)))∧∀r2,(Eq r2 ((fLyr (a0.1,(a0.2.1,a0.2.2))),((),())))→((pPlS r2.1.1 a0.1)∧∀r3,(Eq r3 ((fPlS r2.1.1 a0.1),((),())))→(Eq (r3.1,((),())) ((fPlain a0),((),())))))))
theorem spec_Plain.pure (a0:(Int×((List ((List UInt8)×(List (Int×Int))))×(List (List UInt8))))) (h:(pEng a0)) (hw:Wf c_spec_Plain.A a0):spec_Plain.F a0:=by
 unfold spec_Plain.F
 simp only [forall_eq,true_and,and_true,caseB_iff,Prod.mk.injEq,decide_eq_true_eq,decide_eq_false_iff_not,Bool.not_eq_true',Bool.not_eq_false',bne_iff_ne,ne_eq,beq_iff_eq,Bool.not_true,Bool.not_false,beq_eq_false_iff_ne,bne_eq_false_iff_eq,List.length_append,List.length_cons,List.length_nil,List.append_nil,Nat.zero_add,decide_true,decide_false,eq_self_iff_true,Prod.eta]
 have hp:pEng a0:=h
 refine⟨hp,fun h1=>?_,fun h1=>?_⟩
 · unfold fPlain;rw [if_neg (by rw [h1];decide)]
 · obtain⟨g1,g2,g3,g4⟩:=engOk_parts h1
   obtain⟨k1,k2,k3,k4,k5⟩:=head_parts g1
   obtain⟨s1,s2,s3,s4⟩:=fSerOk_R k2
   have ht:=lays_tot a0
   have e2:=plS_E s1 g2
   rw [layers_ok g2]
   simp only
   refine⟨⟨hp.2,by omega⟩,by unfold pPlS;omega,?_⟩
   unfold fPlain;rw [if_pos h1];exact e2
set_option maxRecDepth 100000 in
theorem spec_Plain.eq:EqS c_spec_Plain Tryz.f23 [29] [spec_EngineOk.e,spec_l10Layers.e,spec_l10Plain.e] [] noL (fun i x=>spec_Plain.F x):=by intro i x;kernel_rfl
theorem spec_Plain.ok:ConOk Tryz.prog 23 c_spec_Plain:=okOf spec_Plain.eq Tryz.func23 rfl (by kernel_rfl) fun i x h hi hw=>spec_Plain.pure x h hw
def spec_Plain.e:GE:=⟨23,c_spec_Plain,⟨_,Tryz.func23,rfl,rfl⟩,spec_Plain.ok⟩
end Go.Proofs.YtnoapekdbmpiaaaGreat.B
