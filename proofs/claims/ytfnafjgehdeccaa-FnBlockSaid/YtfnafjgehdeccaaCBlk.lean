/- Blocks:shown. -/
import Derived.Test.YtfnafjgehdeccaaCBits
namespace Go.Proofs.Ytfnafjgehdeccaa.B
set_option linter.unusedVariables false
set_option linter.unusedSimpArgs false
open Go Go.Proofs.Ytfnafjgehdeccaa.Bv
def fShowBlock (l:List Pt):List UInt8:=if fPtsOk l=true∧l≠[] then fFrame (fVar l.length++fShowTimes (l.map (·.1))++fShowValues (l.map (·.2))) else []
theorem fPtsOk_len {l:List Pt} (h:fPtsOk l=true):l.length≤60:=by
 simp only [fPtsOk,Bool.and_eq_true,decide_eq_true_eq] at h;exact h.1
def sbI (l:List Pt) (i:Int) (t v:List Int):Prop:=0≤i∧i≤l.length∧l.length≤60∧l≠[]∧fPtsOk l=true∧(t.length:Int)=i∧(v.length:Int)=i∧t=(l.take i.toNat).map (·.1)∧v=(l.take i.toNat).map (·.2)
def sbM (l:List Pt) (i:Int) (t v:List Int):Nat:=(l.length - i).toNat
theorem map_take_more {l:List Pt} {i:Nat} (h:i<l.length):(l.take (i+1)).map (·.1)=(l.take i).map (·.1)++[(l.getD i (0,0)).1]∧(l.take (i+1)).map (·.2)=(l.take i).map (·.2)++[(l.getD i (0,0)).2]:=by
 rw [take_getD (0,0) h];simp
theorem fShowBlock_no {l:List Pt} (h:fPtsOk l=false):[]=fShowBlock l:=by simp [fShowBlock,h]
def c_spec_ShowBlock:Con:={A:=(.list (.pair (.int .i64) (.int .i64))),shA:=[.one],R:=.str,shR:=[(false,1)],pre:=fun _ _=>True,f:=some fun _ a=>((fShowBlock a),((),()))}
def spec_ShowBlock.F (a0:(List (Int×Int))):Prop:=(True∧∀r1,(Eq r1 ((fPtsOk a0),((),())))→(caseB (!r1.1) (Eq ([],((),())) ((fShowBlock a0),((),()))) (caseB ((ln a0)==(0:Int)) (Eq ([],((),())) ((fShowBlock a0),((),()))) (eS [(0,.val false [.lst (.pair (.int .i64) (.int .i64)) a0 none])] [(0,.val false [.lst (.pair (.int .i64) (.int .i64)) a0 none])]∧((sbI a0 0 ([]:List Int) ([]:List Int))∧∀(y2:(Int×((List Int)×(List Int)))),(sbI a0 y2.1 y2.2.1 y2.2.2)→(caseB (decide (y2.1<(ln a0))) (0≤y2.1∧(y2.1<(ln a0)∧(List.length y2.2.1+List.length [(List.getD a0 (tN y2.1) (0,0)).1]≤9223372036854775807∧((List.length y2.2.1+List.length [(List.getD a0 (tN y2.1) (0,0)).1])*8≤140737488355328∧(0≤y2.1∧(y2.1<(ln a0)∧(List.length y2.2.2+List.length [(List.getD a0 (tN y2.1) (0,0)).2]≤9223372036854775807∧((List.length y2.2.2+List.length [(List.getD a0 (tN y2.1) (0,0)).2])*8≤140737488355328∧(eS [(0,.val false [.lst (.pair (.int .i64) (.int .i64)) a0 none])] [(0,.val false [.lst (.pair (.int .i64) (.int .i64)) a0 none])]∧(sbI a0 (wI (y2.1+(1:Int))) (y2.2.1++[(List.getD a0 (tN y2.1) (0,0)).1]) (y2.2.2++[(List.getD a0 (tN y2.1) (0,0)).2]))∧(sbM a0 (wI (y2.1+(1:Int))) (y2.2.1++[(List.getD a0 (tN y2.1) (0,0)).1]) (y2.2.2++[(List.getD a0 (tN y2.1) (0,0)).2]))<(sbM a0 y2.1 y2.2.1 y2.2.2)))))))))) (True∧∀r3,(Eq r3 ((fVar (ln a0)),((),())))→(True∧∀r4,(Eq r4 ((fShowTimes y2.2.1),((),())))→(List.length r3.1+List.length r4.1≤9223372036854775807∧(True∧∀r5,(Eq r5 ((fShowValues y2.2.2),((),())))→(List.length (r3.1++r4.1)+List.length r5.1≤9223372036854775807∧(True∧∀r6,(Eq r6 ((fFrame ((r3.1++r4.1)++r5.1)),((),())))→(Eq (r6.1,((),())) ((fShowBlock a0),((),())))))))))))))))
def spec_ShowBlock.L (a0:(List (Int×Int))):Nat→Option LoopAnn:=fun p=>Go.Proofs.Ytfnafjgehdeccaa.Bv.look p [(250,{kp:={hold:=[0],slots:=[3,4,5],boxes:=[],rows:=[{bx:=false,s:=3,i:=0,k:=1000387,e:=3,hot:=true},{bx:=false,s:=4,i:=0,k:=1000515,e:=3,hot:=true}]},T:=(.pair (.int .i64) (.pair (.list (.int .i64)) (.list (.int .i64)))),I:=fun st y=>sbI a0 y.1 y.2.1 y.2.2,μ:=fun st y=>sbM a0 y.1 y.2.1 y.2.2})]
theorem spec_ShowBlock.pure (a0:(List (Int×Int))) (h:True) (hw:Wf c_spec_ShowBlock.A a0):spec_ShowBlock.F a0:=by
 delta spec_ShowBlock.F ln tN wI eS
 simp only [forall_eq,true_and,and_true,caseB_iff,Prod.mk.injEq,decide_eq_true_eq,decide_eq_false_iff_not,Bool.not_eq_true',Bool.not_eq_false',bne_iff_ne,ne_eq,beq_iff_eq,Bool.not_true,Bool.not_false,beq_eq_false_iff_ne,bne_eq_false_iff_eq,List.length_append,List.length_cons,List.length_nil,List.append_nil,Nat.zero_add,decide_true,decide_false,eq_self_iff_true]
 refine⟨fun h1=>fShowBlock_no h1,fun h1=>?_⟩
 have h60:=fPtsOk_len h1
 refine⟨fun h2=>?_,fun h2=>⟨⟨by omega,by omega,h60,fun e=>by subst e;exact h2 rfl,h1,rfl,rfl,rfl,rfl⟩,?_⟩⟩
 · have:a0=[]:=List.length_eq_zero_iff.1 (by omega)
   subst this;rfl
 rintro⟨i,t,v⟩ ⟨q1,q2,q3,q4,q5,q6,q7,q8,q9⟩
 simp only at q1 q2 q3 q4 q5 q6 q7 q8 q9 ⊢
 refine⟨fun hi=>?_,fun hi=>?_⟩
 · have hm:=map_take_more (l:=a0) (i:=i.toNat) (by omega)
   rw [w64 (x:=i+1) (by omega) (by omega)]
   have step:sbI a0 (i+1) (t++[(a0.getD i.toNat (0,0)).1]) (v++[(a0.getD i.toNat (0,0)).2]):=⟨by omega,by omega,q3,q4,q5,by simp;omega,by simp;omega,by rw [tn1 q1,hm.1,q8],by rw [tn1 q1,hm.2,q9]⟩
   have down:sbM a0 (i+1) (t++[(a0.getD i.toNat (0,0)).1]) (v++[(a0.getD i.toNat (0,0)).2])<sbM a0 i t v:=by unfold sbM;omega
   exact⟨q1,by omega,by omega,by omega,q1,by omega,by omega,by omega,step,down⟩
 · have e:i.toNat=a0.length:=by omega
   rw [e,List.take_length] at q8 q9
   have l1:=fVar_length a0.length
   have l2:=fShowTimes_length t
   have l3:=fShowValues_length v
   have hp:v.length≤1099511627776:=by omega
   have hp2:t.length≤1099511627776:=by omega
   have hf:fFrame (fVar a0.length++fShowTimes t++fShowValues v)=fShowBlock a0:=by
    unfold fShowBlock
    rw [if_pos ⟨q5,q4⟩,←q8,←q9]
   exact⟨by omega,by omega,hf⟩
set_option maxRecDepth 100000 in
theorem spec_ShowBlock.eq:EqS c_spec_ShowBlock Try.f26 [9] [spec_PointsOk.e,spec_Frame.e,spec_Var.e,spec_ShowTimes.e,spec_ShowValues.e] [] (fun i x=>spec_ShowBlock.L x) (fun i x=>spec_ShowBlock.F x):=by intro i x;kernel_rfl
theorem spec_ShowBlock.ok:ConOk Try.prog 26 c_spec_ShowBlock:=okOf spec_ShowBlock.eq Try.func26 rfl (by kernel_rfl) fun i x h hi hw=>spec_ShowBlock.pure x h hw
def spec_ShowBlock.e:GE:=⟨26,c_spec_ShowBlock,⟨_,Try.func26,rfl,rfl⟩,spec_ShowBlock.ok⟩
def c_impl_ShowBlock:Con:={A:=(.list (.pair (.int .i64) (.int .i64))),shA:=[.one],R:=.str,shR:=[(false,1)],pre:=fun _ _=>True,f:=some fun _ a=>((fShowBlock a),((),()))}
def impl_ShowBlock.F (a0:(List (Int×Int))):Prop:=(True∧∀r1,(Eq r1 ((fPtsOk a0),((),())))→(caseB (!r1.1) (Eq ([],((),())) ((fShowBlock a0),((),()))) (caseB ((ln a0)==(0:Int)) (Eq ([],((),())) ((fShowBlock a0),((),()))) (eS [(0,.val false [.lst (.pair (.int .i64) (.int .i64)) a0 none]),(17,.val false [.lst (.pair (.int .i64) (.int .i64)) a0 none]),(18,.val false [.int .i64 (ln a0)])] [(0,.val false [.lst (.pair (.int .i64) (.int .i64)) a0 none]),(17,.val false [.lst (.pair (.int .i64) (.int .i64)) a0 none]),(18,.val false [.int .i64 (ln a0)])]∧((sbI a0 0 ([]:List Int) ([]:List Int))∧∀(y2:(Int×((List Int)×(List Int)))),(sbI a0 y2.1 y2.2.1 y2.2.2)→(caseB (decide (y2.1<(ln a0))) (0≤y2.1∧(y2.1<(ln a0)∧(List.length y2.2.1+List.length [(List.getD a0 (tN y2.1) (0,0)).1]≤9223372036854775807∧((List.length y2.2.1+List.length [(List.getD a0 (tN y2.1) (0,0)).1])*8≤140737488355328∧(List.length y2.2.2+List.length [(List.getD a0 (tN y2.1) (0,0)).2]≤9223372036854775807∧((List.length y2.2.2+List.length [(List.getD a0 (tN y2.1) (0,0)).2])*8≤140737488355328∧(eS [(0,.val false [.lst (.pair (.int .i64) (.int .i64)) a0 none]),(17,.val false [.lst (.pair (.int .i64) (.int .i64)) a0 none]),(18,.val false [.int .i64 (ln a0)])] [(0,.val false [.lst (.pair (.int .i64) (.int .i64)) a0 none]),(17,.val false [.lst (.pair (.int .i64) (.int .i64)) a0 none]),(18,.val false [.int .i64 (ln a0)])]∧(sbI a0 (wI (y2.1+(1:Int))) (y2.2.1++[(List.getD a0 (tN y2.1) (0,0)).1]) (y2.2.2++[(List.getD a0 (tN y2.1) (0,0)).2]))∧(sbM a0 (wI (y2.1+(1:Int))) (y2.2.1++[(List.getD a0 (tN y2.1) (0,0)).1]) (y2.2.2++[(List.getD a0 (tN y2.1) (0,0)).2]))<(sbM a0 y2.1 y2.2.1 y2.2.2)))))))) (True∧∀r3,(Eq r3 ((fVar (ln a0)),((),())))→((pInts y2.2.1)∧∀r4,(Eq r4 ((fShowTimes y2.2.1),((),())))→(List.length r3.1+List.length r4.1≤9223372036854775807∧((pInts y2.2.2)∧∀r5,(Eq r5 ((fShowValues y2.2.2),((),())))→(List.length (r3.1++r4.1)+List.length r5.1≤9223372036854775807∧(True∧∀r6,(Eq r6 ((fFrame ((r3.1++r4.1)++r5.1)),((),())))→(Eq (r6.1,((),())) ((fShowBlock a0),((),())))))))))))))))
def impl_ShowBlock.L (a0:(List (Int×Int))):Nat→Option LoopAnn:=fun p=>Go.Proofs.Ytfnafjgehdeccaa.Bv.look p [(122,{kp:={hold:=[0,17,18],slots:=[3,4,19],boxes:=[],rows:=[{bx:=false,s:=3,i:=0,k:=1000387,e:=3,hot:=true},{bx:=false,s:=4,i:=0,k:=1000515,e:=3,hot:=true}]},T:=(.pair (.int .i64) (.pair (.list (.int .i64)) (.list (.int .i64)))),I:=fun st y=>sbI a0 y.1 y.2.1 y.2.2,μ:=fun st y=>sbM a0 y.1 y.2.1 y.2.2})]
theorem impl_ShowBlock.pure (a0:(List (Int×Int))) (h:True) (hw:Wf c_impl_ShowBlock.A a0):impl_ShowBlock.F a0:=by
 delta impl_ShowBlock.F ln tN wI eS
 simp only [forall_eq,true_and,and_true,caseB_iff,Prod.mk.injEq,decide_eq_true_eq,decide_eq_false_iff_not,Bool.not_eq_true',Bool.not_eq_false',bne_iff_ne,ne_eq,beq_iff_eq,Bool.not_true,Bool.not_false,beq_eq_false_iff_ne,bne_eq_false_iff_eq,List.length_append,List.length_cons,List.length_nil,List.append_nil,Nat.zero_add,decide_true,decide_false,eq_self_iff_true,pInts]
 refine⟨fun h1=>fShowBlock_no h1,fun h1=>?_⟩
 have h60:=fPtsOk_len h1
 refine⟨fun h2=>?_,fun h2=>⟨⟨by omega,by omega,h60,fun e=>by subst e;exact h2 rfl,h1,rfl,rfl,rfl,rfl⟩,?_⟩⟩
 · have:a0=[]:=List.length_eq_zero_iff.1 (by omega)
   subst this;rfl
 rintro⟨i,t,v⟩ ⟨q1,q2,q3,q4,q5,q6,q7,q8,q9⟩
 simp only at q1 q2 q3 q4 q5 q6 q7 q8 q9 ⊢
 refine⟨fun hi=>?_,fun hi=>?_⟩
 · have hm:=map_take_more (l:=a0) (i:=i.toNat) (by omega)
   rw [w64 (x:=i+1) (by omega) (by omega)]
   have step:sbI a0 (i+1) (t++[(a0.getD i.toNat (0,0)).1]) (v++[(a0.getD i.toNat (0,0)).2]):=⟨by omega,by omega,q3,q4,q5,by simp;omega,by simp;omega,by rw [tn1 q1,hm.1,q8],by rw [tn1 q1,hm.2,q9]⟩
   have down:sbM a0 (i+1) (t++[(a0.getD i.toNat (0,0)).1]) (v++[(a0.getD i.toNat (0,0)).2])<sbM a0 i t v:=by unfold sbM;omega
   exact⟨q1,by omega,by omega,by omega,by omega,by omega,step,down⟩
 · have e:i.toNat=a0.length:=by omega
   rw [e,List.take_length] at q8 q9
   have l1:=fVar_length a0.length
   have l2:=fShowTimes_length t
   have l3:=fShowValues_length v
   have hp:v.length≤1099511627776:=by omega
   have hp2:t.length≤1099511627776:=by omega
   have hf:fFrame (fVar a0.length++fShowTimes t++fShowValues v)=fShowBlock a0:=by
    unfold fShowBlock
    rw [if_pos ⟨q5,q4⟩,←q8,←q9]
   exact⟨hp2,by omega,hp,by omega,hf⟩
set_option maxRecDepth 100000 in
theorem impl_ShowBlock.eq:EqS c_impl_ShowBlock Try.f6 [9] [impl_PointsOk.e,impl_Frame.e,impl_Var.e,impl_ShowTimes.e,impl_ShowValues.e] [] (fun i x=>impl_ShowBlock.L x) (fun i x=>impl_ShowBlock.F x):=by intro i x;kernel_rfl
theorem impl_ShowBlock.ok:ConOk Try.prog 6 c_impl_ShowBlock:=okOf impl_ShowBlock.eq Try.func6 rfl (by kernel_rfl) fun i x h hi hw=>impl_ShowBlock.pure x h hw
def impl_ShowBlock.e:GE:=⟨6,c_impl_ShowBlock,⟨_,Try.func6,rfl,rfl⟩,impl_ShowBlock.ok⟩
end Go.Proofs.Ytfnafjgehdeccaa.B
