/- What a stretch of time covers. -/
import Derived.Test.YtnoapekdbmpiaaaCLib
namespace Go.Proofs.Ytnoapekdbmpiaaa.B
set_option linter.unusedVariables false
set_option linter.unusedSimpArgs false
open Go Go.Proofs.Ytnoapekdbmpiaaa.Bv
def fIn (a l h:Int):Bool:=decide (l≤a)&&decide (a≤h)
def fBucket (t:Int):Int:=if fIn t 0 1099511627776 then t / 100 else -1
def upFrom (a:Int) (n:Nat):List Int:=(List.range n).map fun (j:Nat)=>a+(j:Int)
theorem upFrom_length (a:Int) (n:Nat):(upFrom a n).length=n:=by simp [upFrom]
theorem upFrom_succ (a:Int) (n:Nat):upFrom a (n+1)=upFrom a n++[a+(n:Int)]:=by simp [upFrom,List.range_succ]
def fCover (a b:Int):List Int:=if a<0∨b≤a∨b>1099511627776∨(b - 1) / 100 - a / 100≥8 then [] else upFrom (a / 100) ((b - 1) / 100 - a / 100+1).toNat
def covI (a b k:Int) (out:List Int):Prop:=0≤a∧a<b∧b≤1099511627776∧(b - 1) / 100 - a / 100<8∧a / 100≤k∧k≤(b - 1) / 100+1∧out=upFrom (a / 100) (k - a / 100).toNat
def covM (a b k:Int) (out:List Int):Nat:=((b - 1) / 100+1 - k).toNat
theorem cov_step {a b k:Int} {out:List Int} (h:covI a b k out) (hk:k≤(b - 1) / 100):
 out.length≤8∧IntKind.wrap .i64 (k+1)=k+1∧covI a b (k+1) (out++[k])∧covM a b (k+1) (out++[k])<covM a b k out:=by
 obtain⟨h1,h2,h3,h4,h5,h6,h7⟩:=h
 refine⟨by rw [h7,upFrom_length];omega,Go.IntWalk.i64_in _ (by omega),⟨h1,h2,h3,h4,by omega,by omega,?_⟩,by unfold covM;omega⟩
 have e:(k+1 - a / 100).toNat=(k - a / 100).toNat+1:=by omega
 rw [e,upFrom_succ,h7]
 congr 2
 omega
theorem cov_end {a b k:Int} {out:List Int} (h:covI a b k out) (hk:¬k≤(b - 1) / 100):out=fCover a b:=by
 obtain⟨h1,h2,h3,h4,h5,h6,h7⟩:=h
 unfold fCover
 rw [if_neg (by omega),h7]
 congr 2
 omega
def c_spec_l1In:Con:={A:=(.pair (.int .i64) (.pair (.int .i64) (.int .i64))),shA:=[.one,.one,.one],R:=.bool,shR:=[(false,1)],pre:=fun _ _=>True,f:=some fun _ a=>((fIn a.1 a.2.1 a.2.2),((),()))}
def spec_l1In.F (a0:Int) (a1:Int) (a2:Int):Prop:=(caseB (decide (a0≥a1)) (Eq ((decide (a0≤a2)),((),())) ((fIn a0 a1 a2),((),()))) (Eq (false,((),())) ((fIn a0 a1 a2),((),()))))
theorem spec_l1In.pure (a0:Int) (a1:Int) (a2:Int) (h:True) (hw:Wf c_spec_l1In.A (a0,a1,a2)):spec_l1In.F a0 a1 a2:=by
 unfold spec_l1In.F fIn
 simp only [caseB_iff,and_true,decide_eq_true_eq,decide_eq_false_iff_not,Prod.mk.injEq]
 exact⟨fun h=>by simp [h],fun h=>by simp [h]⟩
set_option maxRecDepth 100000 in
theorem spec_l1In.eq:EqS c_spec_l1In Try.f53 [4] [] [] noL (fun i x=>spec_l1In.F x.1 x.2.1 x.2.2):=by intro i x;kernel_rfl
theorem spec_l1In.ok:ConOk Try.prog 53 c_spec_l1In:=okOf spec_l1In.eq Try.func53 rfl (by kernel_rfl) fun i x h hi hw=>spec_l1In.pure x.1 x.2.1 x.2.2 h hw
def spec_l1In.e:GE:=⟨53,c_spec_l1In,⟨_,Try.func53,rfl,rfl⟩,spec_l1In.ok⟩
def c_impl_from:Con:={A:=(.pair (.int .i64) (.pair (.int .i64) (.int .i64))),shA:=[.one,.one,.one],R:=.bool,shR:=[(false,1)],pre:=fun _ _=>True,f:=some fun _ a=>((fIn a.1 a.2.1 a.2.2),((),()))}
def impl_from.F (a0:Int) (a1:Int) (a2:Int):Prop:=(caseB (decide (a0≥a1)) (Eq ((decide (a0≤a2)),((),())) ((fIn a0 a1 a2),((),()))) (Eq (false,((),())) ((fIn a0 a1 a2),((),()))))
theorem impl_from.pure (a0:Int) (a1:Int) (a2:Int) (h:True) (hw:Wf c_impl_from.A (a0,a1,a2)):impl_from.F a0 a1 a2:=by
 unfold impl_from.F fIn
 simp only [caseB_iff,and_true,decide_eq_true_eq,decide_eq_false_iff_not,Prod.mk.injEq]
 exact⟨fun h=>by simp [h],fun h=>by simp [h]⟩
set_option maxRecDepth 100000 in
theorem impl_from.eq:EqS c_impl_from Try.f58 [4] [] [] noL (fun i x=>impl_from.F x.1 x.2.1 x.2.2):=by intro i x;kernel_rfl
theorem impl_from.ok:ConOk Try.prog 58 c_impl_from:=okOf impl_from.eq Try.func58 rfl (by kernel_rfl) fun i x h hi hw=>impl_from.pure x.1 x.2.1 x.2.2 h hw
def impl_from.e:GE:=⟨58,c_impl_from,⟨_,Try.func58,rfl,rfl⟩,impl_from.ok⟩
def c_spec_BucketOf:Con:={A:=(.int .i64),shA:=[.one],R:=(.int .i64),shR:=[(false,1)],pre:=fun _ _=>True,f:=some fun _ a=>((fBucket a),((),()))}
def spec_BucketOf.F (a0:Int):Prop:=(True∧∀r1,(Eq r1 ((fIn a0 0 1099511627776),((),())))→(caseB (!r1.1) (Eq ((-1),((),())) ((fBucket a0),((),()))) ((100:Int)≠0∧(Eq ((wI (Int.tdiv a0 (100:Int))),((),())) ((fBucket a0),((),()))))))
theorem spec_BucketOf.pure (a0:Int) (h:True) (hw:Wf c_spec_BucketOf.A a0):spec_BucketOf.F a0:=by
 unfold spec_BucketOf.F fBucket
 simp only [forall_eq,true_and,and_true,caseB_iff,Prod.mk.injEq,Bool.not_eq_true',Bool.not_eq_false']
 refine⟨fun h1=>by simp [h1],fun h1=>⟨by omega,?_⟩⟩
 have h2:=h1
 simp only [fIn,Bool.and_eq_true,decide_eq_true_eq] at h2
 rw [if_pos h1,Int.tdiv_eq_ediv_of_nonneg h2.1]
 exact Go.IntWalk.i64_in _ (by omega)
set_option maxRecDepth 100000 in
theorem spec_BucketOf.eq:EqS c_spec_BucketOf Try.f30 [3] [spec_l1In.e] [] noL (fun i x=>spec_BucketOf.F x):=by intro i x;kernel_rfl
theorem spec_BucketOf.ok:ConOk Try.prog 30 c_spec_BucketOf:=okOf spec_BucketOf.eq Try.func30 rfl (by kernel_rfl) fun i x h hi hw=>spec_BucketOf.pure x h hw
def spec_BucketOf.e:GE:=⟨30,c_spec_BucketOf,⟨_,Try.func30,rfl,rfl⟩,spec_BucketOf.ok⟩
def c_impl_Cover:Con:={A:=(.pair (.int .i64) (.int .i64)),shA:=[.one,.one],R:=(.list (.int .i64)),shR:=[(false,1)],fresh:=[(0,3)],pre:=fun _ _=>True,f:=some fun _ a=>((fCover a.1 a.2),((),()))}
def impl_Cover.F (a0:Int) (a1:Int):Prop:=(caseB (decide (a0<(0:Int))) (Eq (([]:(List Int)),((),())) ((fCover a0 a1),((),()))) (caseB (decide (a1≤a0)) (Eq (([]:(List Int)),((),())) ((fCover a0 a1),((),()))) (caseB (decide (a1>(1099511627776:Int))) (Eq (([]:(List Int)),((),())) ((fCover a0 a1),((),()))) ((100:Int)≠0∧((100:Int)≠0∧(caseB (decide ((wI ((wI (Int.tdiv (wI (a1 - (1:Int))) (100:Int))) - (wI (Int.tdiv a0 (100:Int)))))≥(8:Int))) (Eq (([]:(List Int)),((),())) ((fCover a0 a1),((),()))) (eS [(6,.val false [.int .i64 (wI (Int.tdiv (wI (a1 - (1:Int))) (100:Int)))])] [(6,.val false [.int .i64 (wI (Int.tdiv (wI (a1 - (1:Int))) (100:Int)))])]∧((covI a0 a1 (wI (Int.tdiv a0 (100:Int))) ([]:List Int))∧∀(y1:(Int×(List Int))),(covI a0 a1 y1.1 y1.2)→(caseB (decide (y1.1≤(wI (Int.tdiv (wI (a1 - (1:Int))) (100:Int))))) (List.length y1.2+List.length [y1.1]≤9223372036854775807∧((List.length y1.2+List.length [y1.1])*8≤140737488355328∧(eS [(6,.val false [.int .i64 (wI (Int.tdiv (wI (a1 - (1:Int))) (100:Int)))])] [(6,.val false [.int .i64 (wI (Int.tdiv (wI (a1 - (1:Int))) (100:Int)))])]∧(covI a0 a1 (wI (y1.1+(1:Int))) (y1.2++[y1.1]))∧(covM a0 a1 (wI (y1.1+(1:Int))) (y1.2++[y1.1]))<(covM a0 a1 y1.1 y1.2)))) (Eq (y1.2,((),())) ((fCover a0 a1),((),()))))))))))))
def impl_Cover.L (a0:Int) (a1:Int):Nat→Option LoopAnn:=fun p=>Go.Proofs.Ytnoapekdbmpiaaa.Bv.look p [(506,{kp:={hold:=[6],slots:=[7,8],boxes:=[],rows:=[{bx:=false,s:=7,i:=0,k:=1000899,e:=3,hot:=true}]},T:=(.pair (.int .i64) (.list (.int .i64))),I:=fun st y=>covI a0 a1 y.1 y.2,μ:=fun st y=>covM a0 a1 y.1 y.2})]
theorem impl_Cover.pure (a0:Int) (a1:Int) (h:True) (hw:Wf c_impl_Cover.A (a0,a1)):impl_Cover.F a0 a1:=by
 delta impl_Cover.F wI eS
 simp only [forall_eq,true_and,and_true,caseB_iff,Prod.mk.injEq,decide_eq_true_eq,decide_eq_false_iff_not]
 refine⟨fun h1=>by simp [fCover,h1],fun h1=>⟨fun h2=>by simp [fCover,h2],fun h2=>⟨fun h3=>by simp [fCover,h3],fun h3=>⟨by omega,by omega,?_⟩⟩⟩⟩
 have e0:IntKind.wrap .i64 (a1 - 1)=a1 - 1:=Go.IntWalk.i64_in _ (by omega)
 have e1:IntKind.wrap .i64 (Int.tdiv a0 100)=a0 / 100:=by rw [Int.tdiv_eq_ediv_of_nonneg (by omega)];exact Go.IntWalk.i64_in _ (by omega)
 have e2:IntKind.wrap .i64 (Int.tdiv (a1 - 1) 100)=(a1 - 1) / 100:=by rw [Int.tdiv_eq_ediv_of_nonneg (by omega)];exact Go.IntWalk.i64_in _ (by omega)
 have e3:IntKind.wrap .i64 ((a1 - 1) / 100 - a0 / 100)=(a1 - 1) / 100 - a0 / 100:=Go.IntWalk.i64_in _ (by omega)
 simp only [e0,e1,e2,e3]
 refine⟨fun h4=>by unfold fCover;rw [if_pos (by omega)],fun h4=>⟨⟨by omega,by omega,by omega,by omega,by omega,by omega,by simp [upFrom]⟩,?_⟩⟩
 rintro⟨k,out⟩ hI
 simp only at hI ⊢
 refine⟨fun hk=>?_,fun hk=>cov_end hI hk⟩
 obtain⟨h5,h6,h7,h8⟩:=cov_step hI hk
 rw [h6]
 exact⟨by simp;omega,by simp;omega,h7,h8⟩
set_option maxRecDepth 100000 in
theorem impl_Cover.eq:EqS c_impl_Cover Try.f29 [48] [] [] (fun i x=>impl_Cover.L x.1 x.2) (fun i x=>impl_Cover.F x.1 x.2):=by intro i x;kernel_rfl
theorem impl_Cover.ok:ConOk Try.prog 29 c_impl_Cover:=okOf impl_Cover.eq Try.func29 rfl (by kernel_rfl) fun i x h hi hw=>impl_Cover.pure x.1 x.2 h hw
def impl_Cover.e:GE:=⟨29,c_impl_Cover,⟨_,Try.func29,rfl,rfl⟩,impl_Cover.ok⟩
end Go.Proofs.Ytnoapekdbmpiaaa.B
