/- A number as bytes of seven bits. -/
import Derived.Test.YtgfgenbmjbhphaaCSer
namespace Go.Proofs.Ytgfgenbmjbhphaa.B
set_option linter.unusedVariables false
set_option linter.unusedSimpArgs false
open Go Go.Proofs.Ytgfgenbmjbhphaa.Bv
def vb (n:Nat):List Int:=if n<128 then [(n:Int)] else (((128+n % 128:Nat):Int))::vb (n / 128)
termination_by n
decreasing_by omega
theorem vb_small {n:Nat} (h:n<128):vb n=[(n:Int)]:=by rw [vb,if_pos h]
theorem vb_big {n:Nat} (h:¬n<128):vb n=(((128+n % 128:Nat):Int))::vb (n / 128):=by rw [vb,if_neg h]
theorem vb_length:∀(k n:Nat),n<128 ^ (k+1)→(vb n).length≤k+1
 | 0,n,h=>by rw [vb_small (by simpa using h)];simp
 | k+1,n,h=>by
   by_cases hn:n<128
   · rw [vb_small hn];simp
   · rw [vb_big hn]
     have:=vb_length k (n / 128) (by rw [Nat.div_lt_iff_lt_mul (by omega)];rw [Nat.pow_succ] at h;exact h)
     simp;omega
def toBytes (l:List Int):List UInt8:=l.map fun n=>UInt8.ofNat n.toNat
def fVar (n:Int):List UInt8:=if fIn n 0 562949953421311 then toBytes (vb n.toNat) else []
theorem fVar_length (n:Int):(fVar n).length≤7:=by
 unfold fVar
 split
 · rename_i h
   simp only [fIn,Bool.and_eq_true,decide_eq_true_eq] at h
   simp only [toBytes,List.length_map]
   exact vb_length 6 n.toNat (by omega)
 · simp
def varI (n0 n:Int) (out:List Int):Prop:=0≤n∧n≤562949953421311∧out++vb n.toNat=vb n0.toNat
def varM (n0 n:Int) (out:List Int):Nat:=n.toNat
def c_impl_Var:Con:={A:=(.int .i64),shA:=[.one],R:=.str,shR:=[(false,1)],pre:=fun _ _=>True,f:=some fun _ a=>((fVar a),((),()))}
def impl_Var.F (a0:Int):Prop:=(True∧∀r1,(Eq r1 ((fIn a0 0 562949953421311),((),())))→(caseB (!r1.1) (Eq ([],((),())) ((fVar a0),((),()))) (eS [] []∧((varI a0 a0 ([]:List Int))∧∀(y2:(Int×(List Int))),(varI a0 y2.1 y2.2)→(caseB (decide (y2.1>(127:Int))) ((128:Int)≠0∧(List.length y2.2+List.length [(IntKind.wrap .u8 (wI ((Int.tmod y2.1 (128:Int))+(128:Int))))]≤9223372036854775807∧((List.length y2.2+List.length [(IntKind.wrap .u8 (wI ((Int.tmod y2.1 (128:Int))+(128:Int))))])*1≤140737488355328∧((128:Int)≠0∧(eS [] []∧(varI a0 (wI (Int.tdiv y2.1 (128:Int))) (y2.2++[(IntKind.wrap .u8 (wI ((Int.tmod y2.1 (128:Int))+(128:Int))))]))∧(varM a0 (wI (Int.tdiv y2.1 (128:Int))) (y2.2++[(IntKind.wrap .u8 (wI ((Int.tmod y2.1 (128:Int))+(128:Int))))]))<(varM a0 y2.1 y2.2)))))) (List.length y2.2+List.length [(IntKind.wrap .u8 y2.1)]≤9223372036854775807∧((List.length y2.2+List.length [(IntKind.wrap .u8 y2.1)])*1≤140737488355328∧(Eq ((List.map (fun n=>UInt8.ofNat (Int.toNat n)) (y2.2++[(IntKind.wrap .u8 y2.1)])),((),())) ((fVar a0),((),()))))))))))
def impl_Var.L (a0:Int):Nat→Option LoopAnn:=fun p=>Go.Proofs.Ytgfgenbmjbhphaa.Bv.look p [(60,{kp:={hold:=[],slots:=[0,3],boxes:=[],rows:=[{bx:=false,s:=3,i:=0,k:=1000387,e:=5,hot:=true}]},T:=(.pair (.int .i64) (.list (.int .u8))),I:=fun st y=>varI a0 y.1 y.2,μ:=fun st y=>varM a0 y.1 y.2})]
theorem impl_Var.pure (a0:Int) (h:True) (hw:Wf c_impl_Var.A a0):impl_Var.F a0:=by
 delta impl_Var.F wI eS
 simp only [forall_eq,true_and,and_true,caseB_iff,Prod.mk.injEq,Bool.not_eq_true',Bool.not_eq_false',decide_eq_true_eq,decide_eq_false_iff_not,List.length_cons,List.length_nil]
 refine⟨fun h1=>by simp [fVar,h1],fun h1=>?_⟩
 have hin:=h1
 simp only [fIn,Bool.and_eq_true,decide_eq_true_eq] at hin
 have hlen:=vb_length 6 a0.toNat (by omega)
 refine⟨⟨hin.1,hin.2,rfl⟩,?_⟩
 rintro⟨n,out⟩ ⟨h2,h3,h4⟩
 simp only at h2 h3 h4 ⊢
 have hl:out.length+(vb n.toNat).length=(vb a0.toNat).length:=by rw [←h4,List.length_append]
 constructor
 · intro h5
   have e1:Int.tmod n 128=n % 128:=Int.tmod_eq_emod_of_nonneg h2
   have e2:Int.tdiv n 128=n / 128:=Int.tdiv_eq_ediv_of_nonneg h2
   have e3:IntKind.wrap .i64 (n / 128)=n / 128:=Go.IntWalk.i64_in _ (by omega)
   have e4:IntKind.wrap .i64 (128+n % 128)=128+n % 128:=Go.IntWalk.i64_in _ (by omega)
   have e4':IntKind.wrap .i64 (n % 128+128)=128+n % 128:=by rw [Int.add_comm];exact e4
   have e5:IntKind.wrap .u8 (128+n % 128)=128+n % 128:=Go.IntWalk.u8_in _ (by omega)
   simp only [e1,e2,e3,e4,e4',e5]
   rw [vb_big (by omega)] at hl h4
   refine⟨by omega,by simp at hl;omega,by simp at hl;omega,by omega,⟨by omega,by omega,?_⟩,?_⟩
   · rw [←h4,List.append_assoc]
     have:(n / 128).toNat=n.toNat / 128:=by omega
     rw [this]
     congr 1
     show (128+n % 128)::vb (n.toNat / 128)=_
     congr 1
     omega
   · show (n / 128).toNat<n.toNat
     omega
 · intro h5
   have e5:IntKind.wrap .u8 n=n:=Go.IntWalk.u8_in _ (by omega)
   simp only [e5]
   rw [vb_small (by omega)] at hl h4
   refine⟨by simp at hl;omega,by simp at hl;omega,?_⟩
   simp only [fVar,h1,if_true]
   rw [←h4]
   have:((n.toNat:Nat):Int)=n:=by omega
   rw [this]
   rfl
set_option maxRecDepth 100000 in
theorem impl_Var.eq:EqS c_impl_Var Try.f32 [9] [impl_from.e] [] (fun i x=>impl_Var.L x) (fun i x=>impl_Var.F x):=by intro i x;kernel_rfl
theorem impl_Var.ok:ConOk Try.prog 32 c_impl_Var:=okOf impl_Var.eq Try.func32 rfl (by kernel_rfl) fun i x h hi hw=>impl_Var.pure x h hw
def impl_Var.e:GE:=⟨32,c_impl_Var,⟨_,Try.func32,rfl,rfl⟩,impl_Var.ok⟩
end Go.Proofs.Ytgfgenbmjbhphaa.B
