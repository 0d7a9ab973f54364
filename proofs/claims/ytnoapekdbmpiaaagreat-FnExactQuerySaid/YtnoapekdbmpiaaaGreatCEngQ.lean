/- Engines:asked. -/
import Derived.Test.YtnoapekdbmpiaaaGreatCEngE
namespace Go.Proofs.YtnoapekdbmpiaaaGreat.B
set_option linter.unusedVariables false
set_option linter.unusedSimpArgs false
open Go Go.Proofs.YtnoapekdbmpiaaaGreat.Bv
def fQuery (e:Eng) (k:Str) (a b:Int):List Pt:=if fEngOk e=true then fSlice (ptsOf (fPlainE e).1 k) a b else []
theorem head_parts {e:Eng} (h:fHead e=true):(0≤e.1∧e.1≤1099511627776)∧fSerOk e.2.1=true∧fCnt e.2.1≤40∧e.2.2.length≤4∧fCont e.2.1 e=false:=by
 unfold fHead fTime fIn at h
 simp only [Bool.and_eq_true,decide_eq_true_eq,Bool.not_eq_true'] at h
 exact⟨h.1,h.2.1,h.2.2.1,h.2.2.2.1,h.2.2.2.2⟩
theorem engOk_parts {e:Eng} (h:fEngOk e=true):fHead e=true∧okF e.2.2=true∧fEngRead e=((fPlainE e).1,true)∧fSerOk (fPlainE e).1=true:=by
 have h0:=h
 unfold fEngOk fEngRead at h
 split at h
 · rename_i h1
   split at h
   · rename_i h2
     refine⟨h1,by rw [←okF_plain];exact h2,?_,h⟩
     unfold fEngRead;rw [if_pos h1,if_pos h2,show fSerOk (fPlainE e).1=true from h]
   · cases h
 · cases h
theorem engRead_two (e:Eng):(fEngRead e).2=fEngOk e:=rfl
theorem layers_ok {e:Eng} (h:okF e.2.2=true):fLyr e=(fLay e.2.2++[e.2.1],true):=by unfold fLyr;rw [if_pos h]
theorem plain_pts {e:Eng} (hc:SerR e.2.1) (ho:okF e.2.2=true) (k:Str):ptsOf (fPlainE e).1 k=fHasS (fLay e.2.2++[e.2.1]) e.1 k:=by
 have hR:SerR (fLayers (fLay e.2.2)):=layers_R _ [] nil_R (fLay_R _)
 unfold fPlainE
 rw [if_pos ho]
 rw [(raised_pts (fLaid_R hR hc.2).1 _ k).1,fLaid_pts hR.1 (fun x hx=>(hc.2 x hx).1) hc.1]
 unfold fHasS
 rw [hasL_app]
 congr 2
 rw [show fLayers (fLay e.2.2)=(fLay e.2.2).foldl fLaid [] from rfl,layers_pts _ [] nil_R (fLay_R _)];rfl
theorem pts_at {l:List Ser} (h:AscS l) {k:Str} (hk:hasK l k=true):(l.getD (pos Op.bytesLess Prod.fst k l) ([],[])).2=ptsOf l k:=by
 obtain⟨p1,p2⟩:=has_pos h hk
 have hm:=getD_mem (d:=(([]:Str),([]:List Pt))) p1
 have:=((mem_ptsOf h).1 hm).2
 rw [p2] at this;exact this.symm
theorem query_len (e:Eng) (k:Str) (a b:Int):((fQuery e k a b).length:Int)≤305:=by
 unfold fQuery;split
 · rename_i h
   have h1:=fSlice_length (ptsOf (fPlainE e).1 k) a b
   have h2:=pts_tot (fPlainE e).1 k
   have h3:=(fSerOk_R (engOk_parts h).2.2.2).2.1
   omega
 · simp
theorem cap_tot {l:List Ser} (h:fSerOk l=true):tot l≤305:=(fSerOk_R h).2.1
def pQuery (e:Eng) (k:Str) (a b:Int):Prop:=pEng e
def c_impl_Query:Con:={A:=(.pair (.pair (.int .i64) (.pair (.list (.pair .str (.list (.pair (.int .i64) (.int .i64))))) (.list .str))) (.pair .str (.pair (.int .i64) (.int .i64)))),shA:=[.agg 3,.one,.one,.one],R:=(.list (.pair (.int .i64) (.int .i64))),shR:=[(false,1)],fresh:=[(0,74)],pre:=fun _ a=>(pQuery a.1 a.2.1 a.2.2.1 a.2.2.2),f:=some fun _ a=>((fQuery a.1 a.2.1 a.2.2.1 a.2.2.2),((),()))}
def impl_Query.F (a0:(Int×((List ((List UInt8)×(List (Int×Int))))×(List (List UInt8))))) (a1:(List UInt8)) (a2:Int) (a3:Int):Prop:=((pEng (a0.1,(a0.2.1,a0.2.2)))∧∀r1,(Eq r1 ((fEngRead (a0.1,(a0.2.1,a0.2.2))),((),())))→(caseB (!r1.1.2) (Eq (([]:(List (Int×Int))),((),())) ((fQuery a0 a1 a2 a3),((),()))) ((pSf r1.1.1 a1)∧∀r2,(Eq r2 ((fSf r1.1.1 a1),((),())))→(caseB (!r2.1.2) (Eq (([]:(List (Int×Int))),((),())) ((fQuery a0 a1 a2 a3),((),()))) (0≤r2.1.1∧(r2.1.1<(ln r1.1.1)∧((pSliceD ((List.getD r1.1.1 (tN r2.1.1) ([],[])).2) a2 a3)∧∀r3,(Eq r3 ((fSlice ((List.getD r1.1.1 (tN r2.1.1) ([],[])).2) a2 a3),((),())))→(Eq (r3.1,((),())) ((fQuery a0 a1 a2 a3),((),()))))))))))
theorem impl_Query.pure (a0:(Int×((List ((List UInt8)×(List (Int×Int))))×(List (List UInt8))))) (a1:(List UInt8)) (a2:Int) (a3:Int) (h:(pQuery a0 a1 a2 a3)) (hw:Wf c_impl_Query.A (a0,a1,a2,a3)):impl_Query.F a0 a1 a2 a3:=by
 delta impl_Query.F ln tN
 simp only [forall_eq,true_and,and_true,caseB_iff,Prod.mk.injEq,decide_eq_true_eq,decide_eq_false_iff_not,Bool.not_eq_true',Bool.not_eq_false',bne_iff_ne,ne_eq,beq_iff_eq,Bool.not_true,Bool.not_false,beq_eq_false_iff_ne,bne_eq_false_iff_eq,List.length_append,List.length_cons,List.length_nil,List.append_nil,Nat.zero_add,decide_true,decide_false,eq_self_iff_true,Prod.eta,pSf,pBsS]
 have hp:pEng a0:=h
 refine⟨hp,fun h1=>?_,fun h1=>?_⟩
 · unfold fQuery;rw [if_neg (by rw [←engRead_two,h1];decide)]
 have h1:fEngOk a0=true:=h1
 obtain⟨g1,g2,g3,g4⟩:=engOk_parts h1
 obtain⟨s1,s2,s3,s4⟩:=fSerOk_R g4
 rw [g3]
 simp only
 refine⟨⟨s1.1,by omega⟩,fun h2=>?_,fun h2=>?_⟩
 · have h3:hasK (fPlainE a0).1 a1=false:=h2
   unfold fQuery;rw [if_pos h1,ptsOf_no h3,fSlice_nil]
 · have h3:hasK (fPlainE a0).1 a1=true:=h2
   obtain⟨p1,p2⟩:=has_pos s1.1 h3
   have e1:(fSf (fPlainE a0).1 a1).1=((pos Op.bytesLess Prod.fst a1 (fPlainE a0).1:Nat):Int):=rfl
   have e2:=pts_at s1.1 h3
   have e3:=pts_tot (fPlainE a0).1 a1
   rw [e1,Int.toNat_natCast,e2]
   refine⟨by omega,by omega,by unfold pSliceD;omega,?_⟩
   unfold fQuery;rw [if_pos h1]
set_option maxRecDepth 100000 in
theorem impl_Query.eq:EqS c_impl_Query Tryz.f17 [27] [impl_engineRead.e,impl_seriesFor.e,impl_sliced.e] [] noL (fun i x=>impl_Query.F x.1 x.2.1 x.2.2.1 x.2.2.2):=by intro i x;kernel_rfl
theorem impl_Query.ok:ConOk Tryz.prog 17 c_impl_Query:=okOf impl_Query.eq Tryz.func17 rfl (by kernel_rfl) fun i x h hi hw=>impl_Query.pure x.1 x.2.1 x.2.2.1 x.2.2.2 h hw
def impl_Query.e:GE:=⟨17,c_impl_Query,⟨_,Tryz.func17,rfl,rfl⟩,impl_Query.ok⟩
def c_spec_Query:Con:={A:=(.pair (.pair (.int .i64) (.pair (.list (.pair .str (.list (.pair (.int .i64) (.int .i64))))) (.list .str))) (.pair .str (.pair (.int .i64) (.int .i64)))),shA:=[.agg 3,.one,.one,.one],R:=(.list (.pair (.int .i64) (.int .i64))),shR:=[(false,1)],pre:=fun _ a=>(pQuery a.1 a.2.1 a.2.2.1 a.2.2.2),f:=some fun _ a=>((fQuery a.1 a.2.1 a.2.2.1 a.2.2.2),((),()))}
def spec_Query.F (a0:(Int×((List ((List UInt8)×(List (Int×Int))))×(List (List UInt8))))) (a1:(List UInt8)) (a2:Int) (a3:Int):Prop:=((pEng (a0.1,(a0.2.1,a0.2.2)))∧∀r1,(Eq r1 ((fEngOk (a0.1,(a0.2.1,a0.2.2))),((),())))→(caseB (!r1.1) (Eq (([]:(List (Int×Int))),((),())) ((fQuery a0 a1 a2 a3),((),()))) ((pLyr (a0.1,(a0.2.1,a0.2.2)))∧∀r2,(Eq r2 ((fLyr (a0.1,(a0.2.1,a0.2.2))),((),())))→((pHasS r2.1.1 a0.1 a1)∧∀r3,(Eq r3 ((fHasS r2.1.1 a0.1 a1),((),())))→((pSliceD r3.1 a2 a3)∧∀r4,(Eq r4 ((fSlice r3.1 a2 a3),((),())))→(Eq (r4.1,((),())) ((fQuery a0 a1 a2 a3),((),()))))))))
theorem spec_Query.pure (a0:(Int×((List ((List UInt8)×(List (Int×Int))))×(List (List UInt8))))) (a1:(List UInt8)) (a2:Int) (a3:Int) (h:(pQuery a0 a1 a2 a3)) (hw:Wf c_spec_Query.A (a0,a1,a2,a3)):spec_Query.F a0 a1 a2 a3:=by
 unfold spec_Query.F
 simp only [forall_eq,true_and,and_true,caseB_iff,Prod.mk.injEq,decide_eq_true_eq,decide_eq_false_iff_not,Bool.not_eq_true',Bool.not_eq_false',bne_iff_ne,ne_eq,beq_iff_eq,Bool.not_true,Bool.not_false,beq_eq_false_iff_ne,bne_eq_false_iff_eq,List.length_append,List.length_cons,List.length_nil,List.append_nil,Nat.zero_add,decide_true,decide_false,eq_self_iff_true,Prod.eta]
 have hp:pEng a0:=h
 refine⟨hp,fun h1=>?_,fun h1=>?_⟩
 · unfold fQuery;rw [if_neg (by rw [h1];decide)]
 obtain⟨g1,g2,g3,g4⟩:=engOk_parts h1
 obtain⟨k1,k2,k3,k4,k5⟩:=head_parts g1
 obtain⟨s1,s2,s3,s4⟩:=fSerOk_R k2
 have ht:=lays_tot a0
 have e2:=plain_pts s1 g2 a1
 have e3:=pts_tot (fPlainE a0).1 a1
 have e4:=cap_tot g4
 rw [layers_ok g2]
 simp only
 rw [←e2]
 refine⟨⟨hp.2,by omega⟩,by unfold pHasS;omega,by unfold pSliceD;omega,?_⟩
 unfold fQuery;rw [if_pos h1]
set_option maxRecDepth 100000 in
theorem spec_Query.eq:EqS c_spec_Query Tryz.f15 [27] [spec_EngineOk.e,spec_l10Layers.e,spec_l8Slice.e,spec_l10Has.e] [] noL (fun i x=>spec_Query.F x.1 x.2.1 x.2.2.1 x.2.2.2):=by intro i x;kernel_rfl
theorem spec_Query.ok:ConOk Tryz.prog 15 c_spec_Query:=okOf spec_Query.eq Tryz.func15 rfl (by kernel_rfl) fun i x h hi hw=>spec_Query.pure x.1 x.2.1 x.2.2.1 x.2.2.2 h hw
def spec_Query.e:GE:=⟨15,c_spec_Query,⟨_,Tryz.func15,rfl,rfl⟩,spec_Query.ok⟩
end Go.Proofs.YtnoapekdbmpiaaaGreat.B
