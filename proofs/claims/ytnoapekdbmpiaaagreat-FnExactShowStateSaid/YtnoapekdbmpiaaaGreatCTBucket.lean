/- Values of the type Bucket:how large,the same,marked. -/
import Derived.Test.YtnoapekdbmpiaaaGreatCTypes
set_option linter.unusedVariables false
set_option linter.unusedSimpArgs false
namespace Go.Proofs.YtnoapekdbmpiaaaGreat.B
open Go Go.Proofs.YtnoapekdbmpiaaaGreat.Bv
def n_Bucket (x:(Int×Int)):Nat:=0
def pSz_BucketS (x:List (Int×Int)) (left:Int):Prop:=WfD T16q x∧0≤left∧left≤1048576
def fSz_BucketS (x:List (Int×Int)) (left:Int):Int:=fSz (List.length x) left
def c_laws_szBucketS:Con:={A:=(.pair T16q (.int .i64)),shA:=[.one,.one],R:=(.int .i64),shR:=[(false,1)],pre:=fun _ a=>(pSz_BucketS a.1 a.2),f:=some fun _ a=>((fSz_BucketS a.1 a.2),((),()))}
def laws_szBucketS.F (a0:U7q) (a1:Int):Prop:=(caseB (decide ((wI (a1 - (ln a0)))<(0:Int))) (Eq ((-1),((),())) ((fSz_BucketS a0 a1),((),()))) (Eq ((wI (a1 - (ln a0))),((),())) ((fSz_BucketS a0 a1),((),()))))
theorem laws_szBucketS.pure (a0:U7q) (a1:Int) (h:(pSz_BucketS a0 a1)) (hw:Wf c_laws_szBucketS.A (a0,a1)):laws_szBucketS.F a0 a1:=by
 delta laws_szBucketS.F ln wI
 obtain⟨hwf,p1,p2⟩:=h
 have hw1:a0.length≤9223372036854775807:=hwf.1
 simp only [forall_eq,true_and,and_true,caseB_iff,Prod.mk.injEq,decide_eq_true_eq,decide_eq_false_iff_not,Bool.not_eq_true',Bool.not_eq_false',bne_iff_ne,ne_eq,beq_iff_eq,Bool.not_true,Bool.not_false,beq_eq_false_iff_ne,bne_eq_false_iff_eq,List.length_append,List.length_cons,List.length_nil,List.append_nil,Nat.zero_add,decide_true,decide_false,eq_self_iff_true,fSz_BucketS]
 rw [w64 (x:=a1 - (a0.length:Int)) (by omega) (by omega)]
 exact⟨fun h1=>(fSz_no (by omega)).symm,fun h1=>(fSz_yes (by omega)).symm⟩
set_option maxRecDepth 100000 in
theorem laws_szBucketS.eq:EqS c_laws_szBucketS Tryz.f89 [3] [] [] noL (fun i x=>laws_szBucketS.F x.1 x.2):=by intro i x;kernel_rfl
theorem laws_szBucketS.ok:ConOk Tryz.prog 89 c_laws_szBucketS:=okOf laws_szBucketS.eq Tryz.func89 rfl (by kernel_rfl) fun i x h hi hw=>laws_szBucketS.pure x.1 x.2 h hw
def laws_szBucketS.e:GE:=⟨89,c_laws_szBucketS,⟨_,Tryz.func89,rfl,rfl⟩,laws_szBucketS.ok⟩
def pTo_Bucket (x:(Int×Int)):Prop:=n_Bucket x≤1048576
def fTo_Bucket (x:(Int×Int)):(Int×Int):=x
def c_laws_toBucket:Con:={A:=T0q,shA:=[.agg 2],R:=T0q,shR:=[(true,2)],pre:=fun _ a=>(pTo_Bucket a),f:=some fun _ a=>((fTo_Bucket a),((),()))}
def laws_toBucket.F (a0:(Int×Int)):Prop:=(Eq ((a0.1,a0.2),((),())) ((fTo_Bucket a0),((),())))
theorem laws_toBucket.pure (a0:(Int×Int)) (h:(pTo_Bucket a0)) (hw:Wf c_laws_toBucket.A a0):laws_toBucket.F a0:=by
 unfold laws_toBucket.F
 have hp:n_Bucket a0≤1048576:=h
 simp only [n_Bucket] at hp
 simp only [forall_eq,true_and,and_true,caseB_iff,Prod.mk.injEq,decide_eq_true_eq,decide_eq_false_iff_not,Bool.not_eq_true',Bool.not_eq_false',bne_iff_ne,ne_eq,beq_iff_eq,Bool.not_true,Bool.not_false,beq_eq_false_iff_ne,bne_eq_false_iff_eq,List.length_append,List.length_cons,List.length_nil,List.append_nil,Nat.zero_add,decide_true,decide_false,eq_self_iff_true,n_Bucket,fTo_Bucket,pTo_Bucket]
 repeat' (with_reducible (first | (refine And.intro ?_ ?_) | intro _))
 all_goals (try simp (disch:=omega) only [w64,wu8,tn0,tn1,tm1,tm2,List.length_append,List.length_cons,List.length_nil] at*)
 all_goals (try simp (disch:=omega) only [w64,wu8,tn0,tn1,tm1,tm2,List.length_append,List.length_cons,List.length_nil] at*)
 all_goals (try omega)
 all_goals (try grind [])
set_option maxRecDepth 100000 in
theorem laws_toBucket.eq:EqS c_laws_toBucket Tryz.f147 [114] [] [] noL (fun i x=>laws_toBucket.F x):=by intro i x;kernel_rfl
theorem laws_toBucket.ok:ConOk Tryz.prog 147 c_laws_toBucket:=okOf laws_toBucket.eq Tryz.func147 rfl (by kernel_rfl) fun i x h hi hw=>laws_toBucket.pure x h hw
def laws_toBucket.e:GE:=⟨147,c_laws_toBucket,⟨_,Tryz.func147,rfl,rfl⟩,laws_toBucket.ok⟩
def pTo_BucketS (x:List (Int×Int)):Prop:=List.length x≤1048576
def fTo_BucketS (x:List (Int×Int)):List (Int×Int):=x
def c_laws_toBucketS:Con:={A:=T16q,shA:=[.one],R:=T16q,shR:=[(false,1)],fresh:=[(0,114)],pre:=fun _ a=>(pTo_BucketS a),f:=some fun _ a=>((fTo_BucketS a),((),()))}
def laws_toBucketS.F (a0:U7q):Prop:=(0≤(ln a0)∧((ln a0)≤(ln a0)∧((ln a0)≤9223372036854775807∧(((16:Nat):Int)*(ln a0)≤140737488355328∧(eS [(0,.val false [.lst T0q a0 none]),(3,.val false [.own T0q 1000387])] [(0,.val false [.lst T0q a0 none]),(3,.val false [.own T0q 1000387])]∧((cpI ((0:Int),(0:Int)) a0 0 (List.replicate (tN (ln a0)) ((0:Int),(0:Int))))∧∀(y1:(Int×U7q)),(cpI ((0:Int),(0:Int)) a0 y1.1 y1.2)→(caseB (decide (y1.1<(ln a0))) (0≤y1.1∧(y1.1<(ln a0)∧((pTo_Bucket ((List.getD a0 (tN y1.1) (0,0)).1,(List.getD a0 (tN y1.1) (0,0)).2))∧∀r2,(Eq r2 ((fTo_Bucket ((List.getD a0 (tN y1.1) (0,0)).1,(List.getD a0 (tN y1.1) (0,0)).2)),((),())))→(0≤y1.1∧(y1.1<(ln y1.2)∧(eS [(0,.val false [.lst T0q a0 none]),(3,.val false [.own T0q 1000387])] [(0,.val false [.lst T0q a0 none]),(3,.val false [.own T0q 1000387])]∧(cpI ((0:Int),(0:Int)) a0 (wI (y1.1+(1:Int))) (List.set y1.2 (tN y1.1) (r2.1.1,r2.1.2)))∧(cpM a0 (wI (y1.1+(1:Int))) (List.set y1.2 (tN y1.1) (r2.1.1,r2.1.2)))<(cpM a0 y1.1 y1.2))))))) (Eq (y1.2,((),())) ((fTo_BucketS a0),((),()))))))))))
def laws_toBucketS.L (a0:U7q):Nat→Option LoopAnn:=fun p=>Go.Proofs.YtnoapekdbmpiaaaGreat.Bv.look p [(58,{kp:={hold:=[0,3],slots:=[4],boxes:=[],rows:=[{bx:=false,s:=3,i:=0,k:=1000387,e:=114,hot:=true}]},T:=T19q,I:=fun st y=>cpI ((0:Int),(0:Int)) a0 y.1 y.2,μ:=fun st y=>cpM a0 y.1 y.2})]
theorem laws_toBucketS.pure (a0:U7q) (h:(pTo_BucketS a0)) (hw:Wf c_laws_toBucketS.A a0):laws_toBucketS.F a0:=by
 delta laws_toBucketS.F ln tN wI eS
 have hb:a0.length≤1048576:=by have h1:List.length a0≤1048576:=h;exact h1
 simp only [forall_eq,true_and,and_true,caseB_iff,Prod.mk.injEq,decide_eq_true_eq,decide_eq_false_iff_not,Bool.not_eq_true',Bool.not_eq_false',bne_iff_ne,ne_eq,beq_iff_eq,Bool.not_true,Bool.not_false,beq_eq_false_iff_ne,bne_eq_false_iff_eq,List.length_append,List.length_cons,List.length_nil,List.append_nil,Nat.zero_add,decide_true,decide_false,eq_self_iff_true,fTo_BucketS]
 refine⟨by omega,by omega,by omega,by omega,⟨by omega,by omega,by simp⟩,?_⟩
 rintro⟨i,out⟩ hI
 simp only at hI ⊢
 refine⟨fun hi=>?_,fun hi=>cp_end hI hi⟩
 have hl:=cp_len hI
 have h3:=hI.2.1
 have h2:=hI.1
 have hp:pTo_Bucket (a0.getD i.toNat ((0:Int),(0:Int))):=by
  have h1:List.length a0≤1048576:=h
  have hm:a0.getD i.toNat ((0:Int),(0:Int))∈a0:=getD_mem (by omega)
  show n_Bucket _≤1048576
  simp [n_Bucket]
 rw [w64 (x:=i+1) (by omega) (by omega)]
 simp only [fTo_Bucket,hl]
 exact⟨h2,hi,hp,h2,hi,cp_step hI hi,by unfold cpM;omega⟩
set_option maxRecDepth 100000 in
theorem laws_toBucketS.eq:EqS c_laws_toBucketS Tryz.f96 [57] [laws_toBucket.e] [] (fun i x=>laws_toBucketS.L x) (fun i x=>laws_toBucketS.F x):=by intro i x;kernel_rfl
theorem laws_toBucketS.ok:ConOk Tryz.prog 96 c_laws_toBucketS:=okOf laws_toBucketS.eq Tryz.func96 rfl (by kernel_rfl) fun i x h hi hw=>laws_toBucketS.pure x h hw
def laws_toBucketS.e:GE:=⟨96,c_laws_toBucketS,⟨_,Tryz.func96,rfl,rfl⟩,laws_toBucketS.ok⟩
instance dec_Bucket:DecidableEq (Int×Int):=by (iterate 20 (all_goals (first | infer_instance | refine @instDecidableEqProd _ _ ?_ ?_)))
def fEq_Bucket (a b:(Int×Int)):Bool:=decide (a=b)
def c_laws_eqBucket:Con:={A:=(.pair T0q T0q),shA:=[.agg 2,.agg 2],R:=.bool,shR:=[(false,1)],pre:=fun _ _=>True,f:=some fun _ a=>((fEq_Bucket a.1 a.2),((),()))}
def laws_eqBucket.F (a0:(Int×Int)) (a1:(Int×Int)):Prop:=(caseB (a0.1 !=a1.1) (Eq (false,((),())) ((fEq_Bucket a0 a1),((),()))) (caseB (a0.2 !=a1.2) (Eq (false,((),())) ((fEq_Bucket a0 a1),((),()))) (Eq (true,((),())) ((fEq_Bucket a0 a1),((),())))))
theorem laws_eqBucket.pure (a0:(Int×Int)) (a1:(Int×Int)) (h:True) (hw:Wf c_laws_eqBucket.A (a0,a1)):laws_eqBucket.F a0 a1:=by
 unfold laws_eqBucket.F
 obtain⟨x1,x2⟩:=a0
 obtain⟨y1,y2⟩:=a1
 simp only [forall_eq,true_and,and_true,caseB_iff,Prod.mk.injEq,decide_eq_true_eq,decide_eq_false_iff_not,Bool.not_eq_true',Bool.not_eq_false',bne_iff_ne,ne_eq,beq_iff_eq,Bool.not_true,Bool.not_false,beq_eq_false_iff_ne,bne_eq_false_iff_eq,List.length_append,List.length_cons,List.length_nil,List.append_nil,Nat.zero_add,decide_true,decide_false,eq_self_iff_true,fEq_Bucket]
 repeat' (first | (refine And.intro ?_ ?_) | intro _)
 all_goals simp_all
set_option maxRecDepth 100000 in
theorem laws_eqBucket.eq:EqS c_laws_eqBucket Tryz.f154 [4] [] [] noL (fun i x=>laws_eqBucket.F x.1 x.2):=by intro i x;kernel_rfl
theorem laws_eqBucket.ok:ConOk Tryz.prog 154 c_laws_eqBucket:=okOf laws_eqBucket.eq Tryz.func154 rfl (by kernel_rfl) fun i x h hi hw=>laws_eqBucket.pure x.1 x.2 h hw
def laws_eqBucket.e:GE:=⟨154,c_laws_eqBucket,⟨_,Tryz.func154,rfl,rfl⟩,laws_eqBucket.ok⟩
def fEq_BucketS (a b:List (Int×Int)):Bool:=decide (a=b)
def c_laws_eqBucketS:Con:={A:=(.pair T16q T16q),shA:=[.one,.one],R:=.bool,shR:=[(false,1)],pre:=fun _ _=>True,f:=some fun _ a=>((fEq_BucketS a.1 a.2),((),()))}
def laws_eqBucketS.F (a0:U7q) (a1:U7q):Prop:=(caseB ((ln a0)!=(ln a1)) (Eq (false,((),())) ((fEq_BucketS a0 a1),((),()))) (eS [(0,.val false [.lst T0q a0 none]),(1,.val false [.lst T0q a1 none])] [(0,.val false [.lst T0q a0 none]),(1,.val false [.lst T0q a1 none])]∧((eqLI a0 a1 0)∧∀(y1:Int),(eqLI a0 a1 y1)→(caseB (decide (y1<(ln a0))) (0≤y1∧(y1<(ln a0)∧(0≤y1∧(y1<(ln a1)∧(True∧∀r2,(Eq r2 ((fEq_Bucket ((List.getD a0 (tN y1) (0,0)).1,(List.getD a0 (tN y1) (0,0)).2) ((List.getD a1 (tN y1) (0,0)).1,(List.getD a1 (tN y1) (0,0)).2)),((),())))→(caseB (!r2.1) (Eq (false,((),())) ((fEq_BucketS a0 a1),((),()))) (eS [(0,.val false [.lst T0q a0 none]),(1,.val false [.lst T0q a1 none])] [(0,.val false [.lst T0q a0 none]),(1,.val false [.lst T0q a1 none])]∧(eqLI a0 a1 (wI (y1+(1:Int))))∧(eqLM a0 a1 (wI (y1+(1:Int))))<(eqLM a0 a1 y1)))))))) (Eq (true,((),())) ((fEq_BucketS a0 a1),((),())))))))
def laws_eqBucketS.L (a0:U7q) (a1:U7q):Nat→Option LoopAnn:=fun p=>Go.Proofs.YtnoapekdbmpiaaaGreat.Bv.look p [(58,{kp:={hold:=[0,1],slots:=[5],boxes:=[],rows:=[]},T:=(.int .i64),I:=fun st y=>eqLI a0 a1 y,μ:=fun st y=>eqLM a0 a1 y})]
theorem laws_eqBucketS.pure (a0:U7q) (a1:U7q) (h:True) (hw:Wf c_laws_eqBucketS.A (a0,a1)):laws_eqBucketS.F a0 a1:=by
 delta laws_eqBucketS.F ln tN wI eS
 have hw1:a0.length≤9223372036854775807:=hw.1.1
 simp only [forall_eq,true_and,and_true,caseB_iff,Prod.mk.injEq,decide_eq_true_eq,decide_eq_false_iff_not,Bool.not_eq_true',Bool.not_eq_false',bne_iff_ne,ne_eq,beq_iff_eq,Bool.not_true,Bool.not_false,beq_eq_false_iff_ne,bne_eq_false_iff_eq,List.length_append,List.length_cons,List.length_nil,List.append_nil,Nat.zero_add,decide_true,decide_false,eq_self_iff_true]
 refine⟨fun h1=>?_,fun h1=>?_⟩
 · have:a0≠a1:=fun e=>by subst e;simp at h1
   simp [fEq_BucketS,this]
 have hl:a0.length=a1.length:=by omega
 refine⟨⟨by omega,by omega,hl,by simp⟩,?_⟩
 rintro i hI
 have h2:=hI.1
 have h3:=hI.2.1
 refine⟨fun hi=>⟨h2,hi,h2,by omega,fun hne=>?_,fun he=>?_⟩,fun hi=>?_⟩
 · have:a0≠a1:=fun e=>by subst e;simp [fEq_Bucket] at hne
   simp [fEq_BucketS,this]
 · have hg:a0.getD i.toNat ((0:Int),(0:Int))=a1.getD i.toNat ((0:Int),(0:Int)):=by simpa only [fEq_Bucket,decide_eq_true_eq] using he
   rw [w64 (x:=i+1) (by omega) (by omega)]
   exact⟨eqL_step hI hi hg,by unfold eqLM;omega⟩
 · have h6:=eqL_end hI hi
   simp [fEq_BucketS,h6]
set_option maxRecDepth 100000 in
theorem laws_eqBucketS.eq:EqS c_laws_eqBucketS Tryz.f102 [4] [laws_eqBucket.e] [] (fun i x=>laws_eqBucketS.L x.1 x.2) (fun i x=>laws_eqBucketS.F x.1 x.2):=by intro i x;kernel_rfl
theorem laws_eqBucketS.ok:ConOk Tryz.prog 102 c_laws_eqBucketS:=okOf laws_eqBucketS.eq Tryz.func102 rfl (by kernel_rfl) fun i x h hi hw=>laws_eqBucketS.pure x.1 x.2 h hw
def laws_eqBucketS.e:GE:=⟨102,c_laws_eqBucketS,⟨_,Tryz.func102,rfl,rfl⟩,laws_eqBucketS.ok⟩
end Go.Proofs.YtnoapekdbmpiaaaGreat.B
