/- Points merged. -/
import Derived.Test.YtnoapekdbmpiaaaCMrgA
import Derived.Test.YtnoapekdbmpiaaaCInsP
namespace Go.Proofs.Ytnoapekdbmpiaaa.B
set_option linter.unusedVariables false
set_option linter.unusedSimpArgs false
open Go Go.Proofs.Ytnoapekdbmpiaaa.Bv
def pMg (a b:List Pt):Prop:=PtsR a∧PtsR b∧a.length≤1000000000∧b.length≤1000000000
structure mgI (a b:List Pt) (i:Int) (out:List Pt):Prop where
 h1:0≤i
 h2:i≤a.length
 h3:(a.drop i.toNat).foldl mIns out=a.foldl mIns b
 h4:PtsR out
 h5:(out.length:Int)≤b.length+i
def mgM (a b:List Pt) (i:Int) (out:List Pt):Nat:=(a.length - i).toNat
theorem mg_step {a b:List Pt} {i:Int} {out out':List Pt} (ha:PtsR a) (h:mgI a b i out) (hi:i<a.length) (ho:out'=mIns out (a.getD i.toNat (0,0))):mgI a b (i+1) out':=by
 obtain⟨h1,h2,h3,h4,h5⟩:=h
 have hm:=bs_at ha (i:=i.toNat) (by omega)
 have hl:=mIns_length out (a.getD i.toNat (0,0))
 refine⟨by omega,by omega,?_,⟨by rw [ho];exact mIns_asc h4.1 _,fun x hx=>?_⟩,by rw [ho];omega⟩
 · rw [tn1 h1,ho]
   rw [drop_getD (0,0) (by omega:i.toNat<a.length)] at h3
   exact h3
 · rw [ho] at hx
   rcases mem_mIns.1 hx with hx | ⟨rfl,_⟩
   · exact h4.2 x hx
   · exact hm
theorem mg_end {a b:List Pt} {i:Int} {out:List Pt} (ha:PtsR a) (hb:PtsR b) (h:mgI a b i out) (hi:¬i<a.length):out=fMerge a b:=by
 obtain⟨h1,h2,h3,h4,h5⟩:=h
 have e:i.toNat=a.length:=by omega
 rw [e,List.drop_length] at h3
 rw [←merge_two ha.1 hb.1,←h3];rfl
def c_impl_merged:Con:={A:=(.pair (.list (.pair (.int .i64) (.int .i64))) (.list (.pair (.int .i64) (.int .i64)))),shA:=[.one,.one],R:=(.list (.pair (.int .i64) (.int .i64))),shR:=[(false,1)],fresh:=[(0,38)],pre:=fun _ a=>(pMg a.1 a.2),f:=some fun _ a=>((fMerge a.1 a.2),((),()))}
def impl_merged.F (a0:(List (Int×Int))) (a1:(List (Int×Int))):Prop:=((pLenP a1)∧∀r1,(Eq r1 ((fIdP a1),((),())))→(eS [(12,.val false [.lst (.pair (.int .i64) (.int .i64)) a0 none]),(13,.val false [.int .i64 (ln a0)])] [(12,.val false [.lst (.pair (.int .i64) (.int .i64)) a0 none]),(13,.val false [.int .i64 (ln a0)])]∧((mgI a0 a1 0 r1.1)∧∀(y2:(Int×(List (Int×Int)))),(mgI a0 a1 y2.1 y2.2)→(caseB (decide (y2.1<(ln a0))) (0≤y2.1∧(y2.1<(ln a0)∧((pBs y2.2 ((List.getD a0 (tN y2.1) (0,0)).1) ())∧∀r3,(Eq r3 ((fBs y2.2 ((List.getD a0 (tN y2.1) (0,0)).1) ()),((),())))→(caseB (!r3.1.2) ((pIns_slices_Insert_impl_Point_impl_Point y2.2 r3.1.1 [((List.getD a0 (tN y2.1) (0,0)).1,(List.getD a0 (tN y2.1) (0,0)).2)])∧∀r4,(Eq r4 ((fIns_slices_Insert_impl_Point_impl_Point y2.2 r3.1.1 [((List.getD a0 (tN y2.1) (0,0)).1,(List.getD a0 (tN y2.1) (0,0)).2)]),((),())))→(eS [(12,.val false [.lst (.pair (.int .i64) (.int .i64)) a0 none]),(13,.val false [.int .i64 (ln a0)])] [(12,.val false [.lst (.pair (.int .i64) (.int .i64)) a0 none]),(13,.val false [.int .i64 (ln a0)])]∧(mgI a0 a1 (wI (y2.1+(1:Int))) r4.1)∧(mgM a0 a1 (wI (y2.1+(1:Int))) r4.1)<(mgM a0 a1 y2.1 y2.2))) (eS [(12,.val false [.lst (.pair (.int .i64) (.int .i64)) a0 none]),(13,.val false [.int .i64 (ln a0)])] [(12,.val false [.lst (.pair (.int .i64) (.int .i64)) a0 none]),(13,.val false [.int .i64 (ln a0)])]∧(mgI a0 a1 (wI (y2.1+(1:Int))) y2.2)∧(mgM a0 a1 (wI (y2.1+(1:Int))) y2.2)<(mgM a0 a1 y2.1 y2.2)))))) (Eq (y2.2,((),())) ((fMerge a0 a1),((),())))))))
def impl_merged.L (a0:(List (Int×Int))) (a1:(List (Int×Int))):Nat→Option LoopAnn:=fun p=>Go.Proofs.Ytnoapekdbmpiaaa.Bv.look p [(58,{kp:={hold:=[12,13],slots:=[5,14],boxes:=[],rows:=[{bx:=false,s:=5,i:=0,k:=1000643,e:=38,hot:=true}]},T:=(.pair (.int .i64) (.list (.pair (.int .i64) (.int .i64)))),I:=fun st y=>mgI a0 a1 y.1 y.2,μ:=fun st y=>mgM a0 a1 y.1 y.2})]
theorem impl_merged.pure (a0:(List (Int×Int))) (a1:(List (Int×Int))) (h:(pMg a0 a1)) (hw:Wf c_impl_merged.A (a0,a1)):impl_merged.F a0 a1:=by
 delta impl_merged.F ln tN wI eS
 simp only [forall_eq,true_and,and_true,caseB_iff,Prod.mk.injEq,decide_eq_true_eq,decide_eq_false_iff_not,Bool.not_eq_true',Bool.not_eq_false',bne_iff_ne,ne_eq,beq_iff_eq,Bool.not_true,Bool.not_false,beq_eq_false_iff_ne,bne_eq_false_iff_eq,List.length_append,List.length_cons,List.length_nil,List.append_nil,Nat.zero_add,decide_true,decide_false,eq_self_iff_true,fIdP,pLenP,pBs]
 obtain⟨ha,hb,hal,hbl⟩:=h
 refine⟨by omega,⟨by omega,by omega,rfl,hb,by omega⟩,?_⟩
 rintro⟨i,out⟩ hI
 simp only at hI ⊢
 have q1:=hI.h1
 have q2:=hI.h2
 have q5:=hI.h5
 refine⟨fun hi=>?_,fun hi=>mg_end ha hb hI hi⟩
 have hm:=bs_at ha (i:=i.toNat) (by omega)
 have hp:=pos_le (lt:=ltI) (key:=Prod.fst) (a0.getD i.toNat (0,0)).1 out
 have dn:∀o,mgM a0 a1 (i+1) o<mgM a0 a1 i out:=fun o=>by unfold mgM;omega
 rw [w64 (x:=i+1) (by omega) (by omega)]
 refine⟨q1,hi,⟨hI.h4,hm.1,hm.2,by omega⟩,fun h6=>⟨⟨by simp only [fBs];omega,by simp only [fBs];omega,by simp,by simp;omega⟩,mg_step ha hI hi ?_,dn _⟩,fun h6=>⟨mg_step ha hI hi ?_,dn _⟩⟩
 · have h7:hasT out (a0.getD i.toNat (0,0)).1=false:=h6
   unfold mIns
   rw [if_neg (by rw [h7];decide)]
   simp only [fBs,fIns_slices_Insert_impl_Point_impl_Point,Int.toNat_natCast,Prod.eta]
   rfl
 · have h7:hasT out (a0.getD i.toNat (0,0)).1=true:=h6
   unfold mIns
   rw [if_pos h7]
set_option maxRecDepth 100000 in
theorem impl_merged.eq:EqS c_impl_merged Try.f56 [22] [slices_Clone_impl_Point_impl_Point.e,slices_BinarySearchFunc_impl_Point_impl_Point_int.e,impl_merged_1.e,slices_Insert_impl_Point_impl_Point.e] [] (fun i x=>impl_merged.L x.1 x.2) (fun i x=>impl_merged.F x.1 x.2):=by intro i x;kernel_rfl
theorem impl_merged.ok:ConOk Try.prog 56 c_impl_merged:=okOf impl_merged.eq Try.func56 rfl (by kernel_rfl) fun i x h hi hw=>impl_merged.pure x.1 x.2 h hw
def impl_merged.e:GE:=⟨56,c_impl_merged,⟨_,Try.func56,rfl,rfl⟩,impl_merged.ok⟩
def fMergeT (a b:List Pt):List Pt×Bool:=if fPtsOk a=true∧fPtsOk b=true∧(fMerge a b).length≤60 then (fMerge a b,true) else ([],false)
def c_impl_Merge:Con:={A:=(.pair (.list (.pair (.int .i64) (.int .i64))) (.list (.pair (.int .i64) (.int .i64)))),shA:=[.one,.one],R:=(.pair (.list (.pair (.int .i64) (.int .i64))) .bool),shR:=[(false,1),(false,1)],fresh:=[(0,38)],pre:=fun _ _=>True,f:=some fun _ a=>((fMergeT a.1 a.2),((),()))}
def impl_Merge.F (a0:(List (Int×Int))) (a1:(List (Int×Int))):Prop:=(True∧∀r1,(Eq r1 ((fPtsOk a0),((),())))→(caseB (!r1.1) (Eq ((([]:(List (Int×Int))),false),((),())) ((fMergeT a0 a1),((),()))) (True∧∀r2,(Eq r2 ((fPtsOk a1),((),())))→(caseB (!r2.1) (Eq ((([]:(List (Int×Int))),false),((),())) ((fMergeT a0 a1),((),()))) ((pMg a0 a1)∧∀r3,(Eq r3 ((fMerge a0 a1),((),())))→(caseB (decide ((ln r3.1)>(60:Int))) (Eq ((([]:(List (Int×Int))),false),((),())) ((fMergeT a0 a1),((),()))) (Eq ((r3.1,true),((),())) ((fMergeT a0 a1),((),())))))))))
theorem impl_Merge.pure (a0:(List (Int×Int))) (a1:(List (Int×Int))) (h:True) (hw:Wf c_impl_Merge.A (a0,a1)):impl_Merge.F a0 a1:=by
 delta impl_Merge.F ln
 have h1:a0.length≤maxLen:=hw.1.1
 have hok:=fun (h:fPtsOk a0=true)=>fPtsOk_R h
 have hok1:=fun (h:fPtsOk a1=true)=>fPtsOk_R h
 have hl:=fMerge_length a1 a0
 simp only [forall_eq,true_and,and_true,caseB_iff,Prod.mk.injEq,decide_eq_true_eq,decide_eq_false_iff_not,Bool.not_eq_true',Bool.not_eq_false',bne_iff_ne,ne_eq,beq_iff_eq,Bool.not_true,Bool.not_false,beq_eq_false_iff_ne,bne_eq_false_iff_eq,List.length_append,List.length_cons,List.length_nil,List.append_nil,Nat.zero_add,decide_true,decide_false,eq_self_iff_true,pMg]
 repeat' (with_reducible (first | (refine And.intro ?_ ?_) | intro _))
 all_goals (try simp (disch:=omega) only [w64,wu8,tn0,tn1,tm1,tm2,List.length_append,List.length_cons,List.length_nil] at*)
 all_goals (try simp (disch:=omega) only [w64,wu8,tn0,tn1,tm1,tm2,List.length_append,List.length_cons,List.length_nil] at*)
 all_goals (try omega)
 all_goals (try grind [fMergeT])
 all_goals (try (have k0:=hok (by assumption);have k1:=hok1 (by assumption)))
 all_goals (first | omega | exact k0.1 | exact k1.1 | grind [fMergeT])
set_option maxRecDepth 100000 in
theorem impl_Merge.eq:EqS c_impl_Merge Try.f21 [22,4] [impl_PointsOk.e,impl_merged.e] [] noL (fun i x=>impl_Merge.F x.1 x.2):=by intro i x;kernel_rfl
theorem impl_Merge.ok:ConOk Try.prog 21 c_impl_Merge:=okOf impl_Merge.eq Try.func21 rfl (by kernel_rfl) fun i x h hi hw=>impl_Merge.pure x.1 x.2 h hw
def impl_Merge.e:GE:=⟨21,c_impl_Merge,⟨_,Try.func21,rfl,rfl⟩,impl_Merge.ok⟩
end Go.Proofs.Ytnoapekdbmpiaaa.B
