/- Points by buckets. -/
import Derived.Test.YtnoapekdbmpiaaaCBlk
import Derived.Test.YtnoapekdbmpiaaaCTypes
namespace Go.Proofs.Ytnoapekdbmpiaaa.B
set_option linter.unusedVariables false
set_option linter.unusedSimpArgs false
open Go Go.Proofs.Ytnoapekdbmpiaaa.Bv
abbrev Part:=Int×List (Int×Int)
def spAdd (out:List Part) (p:Pt):List Part:=if out≠[]∧(out.getD (out.length - 1) (0,[])).1=p.1 / 100 then out.set (out.length - 1) ((out.getD (out.length - 1) (0,[])).1,(out.getD (out.length - 1) (0,[])).2++[p]) else out++[(p.1 / 100,[p])]
def fSplit (l:List Pt):List Part:=if fPtsOk l then l.foldl spAdd [] else []
structure spI (l:List Pt) (i:Int) (out:List Part):Prop where
 h1:0≤i
 h2:i≤l.length
 h3:l.length≤60
 h4:fPtsOk l=true
 h5:out=(l.take i.toNat).foldl spAdd []
 h6:(out.length:Int)≤i
 h7:((out.getD (out.length - 1) (0,[])).2.length:Int)≤i
def spM (l:List Pt) (i:Int) (out:List Part):Nat:=(l.length - i).toNat
theorem fPts_at {l:List Pt} (h:fPtsOk l=true) {i:Nat} (hi:i<l.length):0≤(l.getD i (0,0)).1∧(l.getD i (0,0)).1≤1099511627776:=by
 simp only [fPtsOk,Bool.and_eq_true,allB_iff] at h
 have:=h.2 i hi
 simp only [ptAt,Bool.and_eq_true,fIn_iff] at this
 exact this.1
theorem getD_last {α:Type} (l:List α) (x d:α):(l++[x]).getD l.length d=x:=by simp [List.getD_eq_getElem?_getD]
theorem set_last {α:Type} (l:List α) (x y:α):(l++[x]).set l.length y=l++[y]:=by
 rw [List.set_append_right _ _ (Nat.le_refl _),Nat.sub_self];rfl
theorem sp_step {l:List Pt} {i:Int} {out out':List Part} (h:spI l i out) (hi:i<l.length) (ho:out'=spAdd out (l.getD i.toNat (0,0))):spI l (i+1) out':=by
 obtain⟨h1,h2,h3,h4,h5,h6,h7⟩:=h
 have hs:out'=(l.take (i+1).toNat).foldl spAdd []:=by
  rw [tn1 h1,take_getD (0,0) (by omega),List.foldl_append,←h5,ho];rfl
 unfold spAdd at ho
 split at ho
 · rename_i hc
   have hp:0<out.length:=by
    cases out with
    | nil=>exact absurd rfl hc.1
    | cons=>simp
   refine⟨by omega,by omega,h3,h4,hs,by rw [ho,List.length_set];omega,?_⟩
   rw [ho,List.length_set,getD_set_self (by omega)]
   simp only [List.length_append,List.length_cons,List.length_nil];omega
 · refine⟨by omega,by omega,h3,h4,hs,by rw [ho];simp;omega,?_⟩
   rw [ho,List.length_append,List.length_cons,List.length_nil,Nat.zero_add,n11,getD_last]
   simp;omega
theorem sp_end {l:List Pt} {i:Int} {out:List Part} (h:spI l i out) (hi:¬i<l.length):out=fSplit l:=by
 obtain⟨h1,h2,h3,h4,h5,h6,h7⟩:=h
 have e:i.toNat=l.length:=by omega
 rw [h5,e,List.take_length];simp [fSplit,h4]
theorem tnl (n:Nat):((n:Int) - 1).toNat=n - 1:=by omega
theorem tnl1 (n:Nat):(((n+1:Nat):Int) - 1).toNat=n:=by omega
def c_impl_Split:Con:={A:=(.list (.pair (.int .i64) (.int .i64))),shA:=[.one],R:=(.list (.pair (.int .i64) (.list (.pair (.int .i64) (.int .i64))))),shR:=[(false,1)],fresh:=[(0,44)],pre:=fun _ _=>True,f:=some fun _ a=>((fSplit a),((),()))}
def impl_Split.F (a0:(List (Int×Int))):Prop:=(True∧∀r1,(Eq r1 ((fPtsOk a0),((),())))→(caseB (!r1.1) (Eq (([]:(List (Int×(List (Int×Int))))),((),())) ((fSplit a0),((),()))) (eS [(14,.val false [.lst (.pair (.int .i64) (.int .i64)) a0 none]),(15,.val false [.int .i64 (ln a0)])] [(14,.val false [.lst (.pair (.int .i64) (.int .i64)) a0 none]),(15,.val false [.int .i64 (ln a0)])]∧((spI a0 0 ([]:List (Int×(List (Int×Int)))))∧∀(y2:(Int×(List (Int×(List (Int×Int)))))),(spI a0 y2.1 y2.2)→(caseB (decide (y2.1<(ln a0))) (0≤y2.1∧(y2.1<(ln a0)∧((100:Int)≠0∧(caseB ((ln y2.2)==(0:Int)) (List.length y2.2+List.length [((wI (Int.tdiv ((List.getD a0 (tN y2.1) (0,0)).1) (100:Int))),([]:(List (Int×Int))))]≤9223372036854775807∧((List.length y2.2+List.length [((wI (Int.tdiv ((List.getD a0 (tN y2.1) (0,0)).1) (100:Int))),([]:(List (Int×Int))))])*32≤140737488355328∧(0≤(wI ((ln (y2.2++[((wI (Int.tdiv ((List.getD a0 (tN y2.1) (0,0)).1) (100:Int))),([]:(List (Int×Int))))])) - (1:Int)))∧((wI ((ln (y2.2++[((wI (Int.tdiv ((List.getD a0 (tN y2.1) (0,0)).1) (100:Int))),([]:(List (Int×Int))))])) - (1:Int)))<(ln (y2.2++[((wI (Int.tdiv ((List.getD a0 (tN y2.1) (0,0)).1) (100:Int))),([]:(List (Int×Int))))]))∧(List.length ((List.getD (y2.2++[((wI (Int.tdiv ((List.getD a0 (tN y2.1) (0,0)).1) (100:Int))),([]:(List (Int×Int))))]) (tN (wI ((ln (y2.2++[((wI (Int.tdiv ((List.getD a0 (tN y2.1) (0,0)).1) (100:Int))),([]:(List (Int×Int))))])) - (1:Int)))) (0,[])).2)+List.length [((List.getD a0 (tN y2.1) (0,0)).1,(List.getD a0 (tN y2.1) (0,0)).2)]≤9223372036854775807∧((List.length ((List.getD (y2.2++[((wI (Int.tdiv ((List.getD a0 (tN y2.1) (0,0)).1) (100:Int))),([]:(List (Int×Int))))]) (tN (wI ((ln (y2.2++[((wI (Int.tdiv ((List.getD a0 (tN y2.1) (0,0)).1) (100:Int))),([]:(List (Int×Int))))])) - (1:Int)))) (0,[])).2)+List.length [((List.getD a0 (tN y2.1) (0,0)).1,(List.getD a0 (tN y2.1) (0,0)).2)])*16≤140737488355328∧((tN (wI ((ln (y2.2++[((wI (Int.tdiv ((List.getD a0 (tN y2.1) (0,0)).1) (100:Int))),([]:(List (Int×Int))))])) - (1:Int))))=(tN (wI ((ln (y2.2++[((wI (Int.tdiv ((List.getD a0 (tN y2.1) (0,0)).1) (100:Int))),([]:(List (Int×Int))))])) - (1:Int))))∧(let l3:List (Int×(List (Int×Int))):=(List.set (List.set (y2.2++[((wI (Int.tdiv ((List.getD a0 (tN y2.1) (0,0)).1) (100:Int))),([]:(List (Int×Int))))]) (tN (wI ((ln (y2.2++[((wI (Int.tdiv ((List.getD a0 (tN y2.1) (0,0)).1) (100:Int))),([]:(List (Int×Int))))])) - (1:Int)))) ((List.getD (y2.2++[((wI (Int.tdiv ((List.getD a0 (tN y2.1) (0,0)).1) (100:Int))),([]:(List (Int×Int))))]) (tN (wI ((ln (y2.2++[((wI (Int.tdiv ((List.getD a0 (tN y2.1) (0,0)).1) (100:Int))),([]:(List (Int×Int))))])) - (1:Int)))) (0,[])).1,([]:(List (Int×Int))))) (tN (wI ((ln (y2.2++[((wI (Int.tdiv ((List.getD a0 (tN y2.1) (0,0)).1) (100:Int))),([]:(List (Int×Int))))])) - (1:Int)))) ((List.getD (List.set (y2.2++[((wI (Int.tdiv ((List.getD a0 (tN y2.1) (0,0)).1) (100:Int))),([]:(List (Int×Int))))]) (tN (wI ((ln (y2.2++[((wI (Int.tdiv ((List.getD a0 (tN y2.1) (0,0)).1) (100:Int))),([]:(List (Int×Int))))])) - (1:Int)))) ((List.getD (y2.2++[((wI (Int.tdiv ((List.getD a0 (tN y2.1) (0,0)).1) (100:Int))),([]:(List (Int×Int))))]) (tN (wI ((ln (y2.2++[((wI (Int.tdiv ((List.getD a0 (tN y2.1) (0,0)).1) (100:Int))),([]:(List (Int×Int))))])) - (1:Int)))) (0,[])).1,([]:(List (Int×Int))))) (tN (wI ((ln (y2.2++[((wI (Int.tdiv ((List.getD a0 (tN y2.1) (0,0)).1) (100:Int))),([]:(List (Int×Int))))])) - (1:Int)))) (0,[])).1,(((List.getD (y2.2++[((wI (Int.tdiv ((List.getD a0 (tN y2.1) (0,0)).1) (100:Int))),([]:(List (Int×Int))))]) (tN (wI ((ln (y2.2++[((wI (Int.tdiv ((List.getD a0 (tN y2.1) (0,0)).1) (100:Int))),([]:(List (Int×Int))))])) - (1:Int)))) (0,[])).2)++[((List.getD a0 (tN y2.1) (0,0)).1,(List.getD a0 (tN y2.1) (0,0)).2)])));(eS [(14,.val false [.lst (.pair (.int .i64) (.int .i64)) a0 none]),(15,.val false [.int .i64 (ln a0)])] [(14,.val false [.lst (.pair (.int .i64) (.int .i64)) a0 none]),(15,.val false [.int .i64 (ln a0)])]∧(spI a0 (wI (y2.1+(1:Int))) l3)∧(spM a0 (wI (y2.1+(1:Int))) l3)<(spM a0 y2.1 y2.2)))))))))) (0≤(wI ((ln y2.2) - (1:Int)))∧((wI ((ln y2.2) - (1:Int)))<(ln y2.2)∧(caseB (((List.getD y2.2 (tN (wI ((ln y2.2) - (1:Int)))) (0,[])).1)!=(wI (Int.tdiv ((List.getD a0 (tN y2.1) (0,0)).1) (100:Int)))) (List.length y2.2+List.length [((wI (Int.tdiv ((List.getD a0 (tN y2.1) (0,0)).1) (100:Int))),([]:(List (Int×Int))))]≤9223372036854775807∧((List.length y2.2+List.length [((wI (Int.tdiv ((List.getD a0 (tN y2.1) (0,0)).1) (100:Int))),([]:(List (Int×Int))))])*32≤140737488355328∧(0≤(wI ((ln (y2.2++[((wI (Int.tdiv ((List.getD a0 (tN y2.1) (0,0)).1) (100:Int))),([]:(List (Int×Int))))])) - (1:Int)))∧((wI ((ln (y2.2++[((wI (Int.tdiv ((List.getD a0 (tN y2.1) (0,0)).1) (100:Int))),([]:(List (Int×Int))))])) - (1:Int)))<(ln (y2.2++[((wI (Int.tdiv ((List.getD a0 (tN y2.1) (0,0)).1) (100:Int))),([]:(List (Int×Int))))]))∧(List.length ((List.getD (y2.2++[((wI (Int.tdiv ((List.getD a0 (tN y2.1) (0,0)).1) (100:Int))),([]:(List (Int×Int))))]) (tN (wI ((ln (y2.2++[((wI (Int.tdiv ((List.getD a0 (tN y2.1) (0,0)).1) (100:Int))),([]:(List (Int×Int))))])) - (1:Int)))) (0,[])).2)+List.length [((List.getD a0 (tN y2.1) (0,0)).1,(List.getD a0 (tN y2.1) (0,0)).2)]≤9223372036854775807∧((List.length ((List.getD (y2.2++[((wI (Int.tdiv ((List.getD a0 (tN y2.1) (0,0)).1) (100:Int))),([]:(List (Int×Int))))]) (tN (wI ((ln (y2.2++[((wI (Int.tdiv ((List.getD a0 (tN y2.1) (0,0)).1) (100:Int))),([]:(List (Int×Int))))])) - (1:Int)))) (0,[])).2)+List.length [((List.getD a0 (tN y2.1) (0,0)).1,(List.getD a0 (tN y2.1) (0,0)).2)])*16≤140737488355328∧((tN (wI ((ln (y2.2++[((wI (Int.tdiv ((List.getD a0 (tN y2.1) (0,0)).1) (100:Int))),([]:(List (Int×Int))))])) - (1:Int))))=(tN (wI ((ln (y2.2++[((wI (Int.tdiv ((List.getD a0 (tN y2.1) (0,0)).1) (100:Int))),([]:(List (Int×Int))))])) - (1:Int))))∧(let l4:List (Int×(List (Int×Int))):=(List.set (List.set (y2.2++[((wI (Int.tdiv ((List.getD a0 (tN y2.1) (0,0)).1) (100:Int))),([]:(List (Int×Int))))]) (tN (wI ((ln (y2.2++[((wI (Int.tdiv ((List.getD a0 (tN y2.1) (0,0)).1) (100:Int))),([]:(List (Int×Int))))])) - (1:Int)))) ((List.getD (y2.2++[((wI (Int.tdiv ((List.getD a0 (tN y2.1) (0,0)).1) (100:Int))),([]:(List (Int×Int))))]) (tN (wI ((ln (y2.2++[((wI (Int.tdiv ((List.getD a0 (tN y2.1) (0,0)).1) (100:Int))),([]:(List (Int×Int))))])) - (1:Int)))) (0,[])).1,([]:(List (Int×Int))))) (tN (wI ((ln (y2.2++[((wI (Int.tdiv ((List.getD a0 (tN y2.1) (0,0)).1) (100:Int))),([]:(List (Int×Int))))])) - (1:Int)))) ((List.getD (List.set (y2.2++[((wI (Int.tdiv ((List.getD a0 (tN y2.1) (0,0)).1) (100:Int))),([]:(List (Int×Int))))]) (tN (wI ((ln (y2.2++[((wI (Int.tdiv ((List.getD a0 (tN y2.1) (0,0)).1) (100:Int))),([]:(List (Int×Int))))])) - (1:Int)))) ((List.getD (y2.2++[((wI (Int.tdiv ((List.getD a0 (tN y2.1) (0,0)).1) (100:Int))),([]:(List (Int×Int))))]) (tN (wI ((ln (y2.2++[((wI (Int.tdiv ((List.getD a0 (tN y2.1) (0,0)).1) (100:Int))),([]:(List (Int×Int))))])) - (1:Int)))) (0,[])).1,([]:(List (Int×Int))))) (tN (wI ((ln (y2.2++[((wI (Int.tdiv ((List.getD a0 (tN y2.1) (0,0)).1) (100:Int))),([]:(List (Int×Int))))])) - (1:Int)))) (0,[])).1,(((List.getD (y2.2++[((wI (Int.tdiv ((List.getD a0 (tN y2.1) (0,0)).1) (100:Int))),([]:(List (Int×Int))))]) (tN (wI ((ln (y2.2++[((wI (Int.tdiv ((List.getD a0 (tN y2.1) (0,0)).1) (100:Int))),([]:(List (Int×Int))))])) - (1:Int)))) (0,[])).2)++[((List.getD a0 (tN y2.1) (0,0)).1,(List.getD a0 (tN y2.1) (0,0)).2)])));(eS [(14,.val false [.lst (.pair (.int .i64) (.int .i64)) a0 none]),(15,.val false [.int .i64 (ln a0)])] [(14,.val false [.lst (.pair (.int .i64) (.int .i64)) a0 none]),(15,.val false [.int .i64 (ln a0)])]∧(spI a0 (wI (y2.1+(1:Int))) l4)∧(spM a0 (wI (y2.1+(1:Int))) l4)<(spM a0 y2.1 y2.2)))))))))) (0≤(wI ((ln y2.2) - (1:Int)))∧((wI ((ln y2.2) - (1:Int)))<(ln y2.2)∧(List.length ((List.getD y2.2 (tN (wI ((ln y2.2) - (1:Int)))) (0,[])).2)+List.length [((List.getD a0 (tN y2.1) (0,0)).1,(List.getD a0 (tN y2.1) (0,0)).2)]≤9223372036854775807∧((List.length ((List.getD y2.2 (tN (wI ((ln y2.2) - (1:Int)))) (0,[])).2)+List.length [((List.getD a0 (tN y2.1) (0,0)).1,(List.getD a0 (tN y2.1) (0,0)).2)])*16≤140737488355328∧((tN (wI ((ln y2.2) - (1:Int))))=(tN (wI ((ln y2.2) - (1:Int))))∧(let l5:List (Int×(List (Int×Int))):=(List.set (List.set y2.2 (tN (wI ((ln y2.2) - (1:Int)))) ((List.getD y2.2 (tN (wI ((ln y2.2) - (1:Int)))) (0,[])).1,([]:(List (Int×Int))))) (tN (wI ((ln y2.2) - (1:Int)))) ((List.getD (List.set y2.2 (tN (wI ((ln y2.2) - (1:Int)))) ((List.getD y2.2 (tN (wI ((ln y2.2) - (1:Int)))) (0,[])).1,([]:(List (Int×Int))))) (tN (wI ((ln y2.2) - (1:Int)))) (0,[])).1,(((List.getD y2.2 (tN (wI ((ln y2.2) - (1:Int)))) (0,[])).2)++[((List.getD a0 (tN y2.1) (0,0)).1,(List.getD a0 (tN y2.1) (0,0)).2)])));(eS [(14,.val false [.lst (.pair (.int .i64) (.int .i64)) a0 none]),(15,.val false [.int .i64 (ln a0)])] [(14,.val false [.lst (.pair (.int .i64) (.int .i64)) a0 none]),(15,.val false [.int .i64 (ln a0)])]∧(spI a0 (wI (y2.1+(1:Int))) l5)∧(spM a0 (wI (y2.1+(1:Int))) l5)<(spM a0 y2.1 y2.2))))))))))))))) (Eq (y2.2,((),())) ((fSplit a0),((),()))))))))
def impl_Split.L (a0:(List (Int×Int))):Nat→Option LoopAnn:=fun p=>Go.Proofs.Ytnoapekdbmpiaaa.Bv.look p [(122,{kp:={hold:=[14,15],slots:=[3,16],boxes:=[],rows:=[{bx:=false,s:=3,i:=0,k:=1000387,e:=44,hot:=true}]},T:=(.pair (.int .i64) (.list (.pair (.int .i64) (.list (.pair (.int .i64) (.int .i64)))))),I:=fun st y=>spI a0 y.1 y.2,μ:=fun st y=>spM a0 y.1 y.2})]
theorem impl_Split.pure (a0:(List (Int×Int))) (h:True) (hw:Wf c_impl_Split.A a0):impl_Split.F a0:=by
 delta impl_Split.F ln tN wI eS
 simp only [forall_eq,true_and,and_true,caseB_iff,Prod.mk.injEq,decide_eq_true_eq,decide_eq_false_iff_not,Bool.not_eq_true',Bool.not_eq_false',bne_iff_ne,ne_eq,beq_iff_eq,Bool.not_true,Bool.not_false,beq_eq_false_iff_ne,bne_eq_false_iff_eq,List.length_append,List.length_cons,List.length_nil,List.append_nil,Nat.zero_add,decide_true,decide_false,eq_self_iff_true]
 refine⟨fun h1=>by simp [fSplit,h1],fun h1=>⟨⟨by omega,by omega,fPtsOk_len h1,h1,rfl,by simp,by simp⟩,?_⟩⟩
 rintro⟨i,out⟩ hI
 simp only at hI ⊢
 have h2:=hI.h1
 have h3:=hI.h2
 have h4:=hI.h3
 have h6:=hI.h6
 have h7:=hI.h7
 refine⟨fun hi=>?_,fun hi=>sp_end hI hi⟩
 have hT:=fPts_at hI.h4 (i:=i.toNat) (by omega)
 have hb:fBucket (a0.getD i.toNat (0,0)).1=(a0.getD i.toNat (0,0)).1 / 100:=by unfold fBucket;rw [if_pos (fIn_iff.2 hT)]
 have hb2:Int.tdiv (a0.getD i.toNat (0,0)).1 100=(a0.getD i.toNat (0,0)).1 / 100:=Int.tdiv_eq_ediv_of_nonneg hT.1
 have step:∀{out'},out'=spAdd out (a0.getD i.toNat (0,0))→spI a0 (i+1) out':=fun ho=>sp_step hI hi ho
 have down:∀out',spM a0 (i+1) out'<spM a0 i out:=fun out'=>by unfold spM;omega
 have hn:out.length=0→out=[]:=fun h=>List.length_eq_zero_iff.1 h
 generalize a0.getD i.toNat (0,0)=p at*
 simp (disch:=omega) only [hb,hb2,w64,tnl,tnl1,List.length_append,List.length_cons,List.length_nil,Nat.zero_add,getD_last,set_last,List.length_set,n11,List.set_set]
 repeat' (with_reducible (first | (refine And.intro ?_ ?_) | intro _))
 all_goals (try simp (disch:=omega) only [hb,hb2,w64,tnl,tnl1,List.length_append,List.length_cons,List.length_nil,Nat.zero_add,getD_last,set_last,List.length_set,n11,List.set_set,getD_set_self,List.nil_append] at*)
 all_goals (try simp (disch:=omega) only [w64,tnl,tnl1,List.length_append,List.length_cons,List.length_nil,Nat.zero_add,getD_last,set_last,List.length_set,n11,List.set_set,getD_set_self,List.nil_append] at*)
 all_goals (first | omega | exact down _ | (refine step ?_;unfold spAdd;first | (rw [if_neg (by grind)];done) | (rw [if_neg (by grind)];simp;done) | (rw [if_pos (by grind)];done) | (rw [if_pos (by grind)];simp;done)) | skip)
set_option maxRecDepth 100000 in
theorem impl_Split.eq:EqS c_impl_Split Try.f26 [41] [impl_PointsOk.e] [] (fun i x=>impl_Split.L x) (fun i x=>impl_Split.F x):=by intro i x;kernel_rfl
theorem impl_Split.ok:ConOk Try.prog 26 c_impl_Split:=okOf impl_Split.eq Try.func26 rfl (by kernel_rfl) fun i x h hi hw=>impl_Split.pure x h hw
def impl_Split.e:GE:=⟨26,c_impl_Split,⟨_,Try.func26,rfl,rfl⟩,impl_Split.ok⟩
end Go.Proofs.Ytnoapekdbmpiaaa.B
