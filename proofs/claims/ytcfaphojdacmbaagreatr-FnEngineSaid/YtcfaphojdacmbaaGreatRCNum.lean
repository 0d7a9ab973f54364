/- A number as bytes of seven bits. -/
import Derived.Test.YtcfaphojdacmbaaGreatRCSer
set_option maxRecDepth 100000
set_option linter.unusedVariables false
set_option linter.unusedSimpArgs false
namespace Go.Proofs.YtcfaphojdacmbaaGreatR.B
open Go Go.Proofs.YtcfaphojdacmbaaGreatR.Bv
def vb(n:Nat):List Int:=if n<128 then [(n:Int)] else(((128+n % 128:Nat):Int))::vb (n / 128)
termination_by n
decreasing_by omega
theorem X8t{n:Nat}(h:n<128):vb n=[(n:Int)]:=by rw[vb,if_pos h]
theorem XfK{n:Nat}(h:¬n<128):vb n=(((128+n % 128:Nat):Int))::vb (n / 128):=by rw[vb,if_neg h]
theorem XbN:∀(k n:Nat),n<128 ^ (k+1)→(vb n).length≤k+1
 | 0,n,h=>by rw[X8t (by simpa using h)];simp
 | k+1,n,h=>by
   by_cases hn:n<128
   · rw[X8t hn];simp
   · rw[XfK hn]
     have:=XbN k (n / 128) (by rw[Nat.div_lt_iff_lt_mul (by omega)];rw[Nat.pow_succ]at h;exact h)
     simp;omega
def X2w(l:List Int):List UInt8:=l.map fun n=>UInt8.ofNat n.toNat
def X1P(n:Int):List UInt8:=if fIn n 0 562949953421311 then X2w (vb n.toNat) else []
theorem X0w(n:Int):(X1P n).length≤7:=by
 unfold X1P
 split
 · rename_i h
   simp only[fIn,Bool.and_eq_true,decide_eq_true_eq]at h
   simp only[X2w,List.length_map]
   exact XbN 6 n.toNat (by omega)
 · simp
def XoO(n0 n:Int)(out:List Int):Prop:=0≤n∧n≤562949953421311∧out++vb n.toNat=vb n0.toNat
def Xqn(n0 n:Int)(out:List Int):Nat:=n.toNat
def XaG:Con:={A:=(.int .i64),shA:=[.one],R:=.str,shR:=[(false,1)],pre:=fun _ _=>True,f:=some fun _ a=>((X1P a),((),()))}
def X3Q.F(a0:Int):Prop:=(True∧∀r1,(Eq r1 ((fIn a0 0 562949953421311),((),())))→(X00 (!r1.1) (Eq ([],((),())) ((X1P a0),((),()))) (eS [] []∧((XoO a0 a0 ([]:List Int))∧∀(y2:(Int×(List Int))),(XoO a0 y2.1 y2.2)→(X00 (decide (y2.1≥(128:Int))) ((128:Int)≠0∧(List.length y2.2+List.length [(IntKind.wrap .u8 (wI ((128:Int)+(Int.tmod y2.1 (128:Int)))))]≤9223372036854775807∧((List.length y2.2+List.length [(IntKind.wrap .u8 (wI ((128:Int)+(Int.tmod y2.1 (128:Int)))))])*1≤140737488355328∧((128:Int)≠0∧(eS [] []∧(XoO a0 (wI (Int.tdiv y2.1 (128:Int))) (y2.2++[(IntKind.wrap .u8 (wI ((128:Int)+(Int.tmod y2.1 (128:Int)))))]))∧(Xqn a0 (wI (Int.tdiv y2.1 (128:Int))) (y2.2++[(IntKind.wrap .u8 (wI ((128:Int)+(Int.tmod y2.1 (128:Int)))))]))<(Xqn a0 y2.1 y2.2)))))) (List.length y2.2+List.length [(IntKind.wrap .u8 y2.1)]≤9223372036854775807∧((List.length y2.2+List.length [(IntKind.wrap .u8 y2.1)])*1≤140737488355328∧(Eq ((List.map (fun n=>UInt8.ofNat (Int.toNat n)) (y2.2++[(IntKind.wrap .u8 y2.1)])),((),())) ((X1P a0),((),()))))))))))
def X3Q.L(a0:Int):Nat→Option X0d:=fun p=>Go.Proofs.YtcfaphojdacmbaaGreatR.Bv.look p [(60,{kp:={hold:=[],slots:=[0,3],boxes:=[],rows:=[{bx:=false,s:=3,i:=0,k:=1000387,e:=5,hot:=true}]},T:=(.pair (.int .i64) T8q),I:=fun st y=>XoO a0 y.1 y.2,μ:=fun st y=>Xqn a0 y.1 y.2})]
theorem X3Q.pure(a0:Int)(h:True)(hw:Wf XaG.A a0):X3Q.F a0:=by
 delta X3Q.F wI eS
 simp only[forall_eq,true_and,and_true,X01,Prod.mk.injEq,Bool.not_eq_true',Bool.not_eq_false',decide_eq_true_eq,decide_eq_false_iff_not,List.length_cons,List.length_nil]
 refine⟨fun h1=>by simp[X1P,h1],fun h1=>?_⟩
 have hin:=h1
 simp only[fIn,Bool.and_eq_true,decide_eq_true_eq]at hin
 have hlen:=XbN 6 a0.toNat (by omega)
 refine⟨⟨hin.1,hin.2,rfl⟩,?_⟩
 rintro⟨n,out⟩ ⟨h2,h3,h4⟩
 simp only at h2 h3 h4 ⊢
 have hl:out.length+(vb n.toNat).length=(vb a0.toNat).length:=by rw[←h4,List.length_append]
 constructor
 · intro h5
   have e1:Int.tmod n 128=n % 128:=Int.tmod_eq_emod_of_nonneg h2
   have e2:Int.tdiv n 128=n / 128:=Int.tdiv_eq_ediv_of_nonneg h2
   have e3:IntKind.wrap .i64 (n / 128)=n / 128:=Go.IntWalk.i64_in _ (by omega)
   have e4:IntKind.wrap .i64 (128+n % 128)=128+n % 128:=Go.IntWalk.i64_in _ (by omega)
   have e4':IntKind.wrap .i64 (n % 128+128)=128+n % 128:=by rw[Int.add_comm];exact e4
   have e5:IntKind.wrap .u8 (128+n % 128)=128+n % 128:=Go.IntWalk.u8_in _ (by omega)
   simp only[e1,e2,e3,e4,e4',e5]
   rw[XfK (by omega)]at hl h4
   refine⟨by omega,by simp at hl;omega,by simp at hl;omega,by omega,⟨by omega,by omega,?_⟩,?_⟩
   · rw[←h4,List.append_assoc]
     have:(n / 128).toNat=n.toNat / 128:=by omega
     rw[this]
     congr 1
     show(128+n % 128)::vb (n.toNat / 128)=_
     congr 1
     omega
   · show(n / 128).toNat<n.toNat
     omega
 · intro h5
   have e5:IntKind.wrap .u8 n=n:=Go.IntWalk.u8_in _ (by omega)
   simp only[e5]
   rw[X8t (by omega)]at hl h4
   refine⟨by simp at hl;omega,by simp at hl;omega,?_⟩
   simp only[X1P,h1,if_true]
   rw[←h4]
   have:((n.toNat:Nat):Int)=n:=by omega
   rw[this]
   rfl
theorem X3Q.eq:EqS XaG Tryz.f132 [9] [X2a.e] [] (fun i x=>X3Q.L x) (fun i x=>X3Q.F x):=by intro i x;kernel_rfl
theorem X3Q.ok:X0l Tryz.prog 132 XaG:=X2b X3Q.eq Tryz.func132 rfl (by kernel_rfl) fun i x h hi hw=>X3Q.pure x h hw
def X3Q.e:GE:=⟨132,XaG,⟨_,Tryz.func132,rfl,rfl⟩,X3Q.ok⟩
def XaM:Con:={A:=(.int .i64),shA:=[.one],R:=.str,shR:=[(false,1)],pre:=fun _ _=>True,f:=some fun _ a=>((X1P a),((),()))}
def X3Z.F(a0:Int):Prop:=(True∧∀r1,(Eq r1 ((fIn a0 0 562949953421311),((),())))→(X00 (!r1.1) (Eq ([],((),())) ((X1P a0),((),()))) (eS [] []∧((XoO a0 a0 ([]:List Int))∧∀(y2:(Int×(List Int))),(XoO a0 y2.1 y2.2)→(X00 (decide (y2.1>(127:Int))) ((128:Int)≠0∧(List.length y2.2+List.length [(IntKind.wrap .u8 (wI ((Int.tmod y2.1 (128:Int))+(128:Int))))]≤9223372036854775807∧((List.length y2.2+List.length [(IntKind.wrap .u8 (wI ((Int.tmod y2.1 (128:Int))+(128:Int))))])*1≤140737488355328∧((128:Int)≠0∧(eS [] []∧(XoO a0 (wI (Int.tdiv y2.1 (128:Int))) (y2.2++[(IntKind.wrap .u8 (wI ((Int.tmod y2.1 (128:Int))+(128:Int))))]))∧(Xqn a0 (wI (Int.tdiv y2.1 (128:Int))) (y2.2++[(IntKind.wrap .u8 (wI ((Int.tmod y2.1 (128:Int))+(128:Int))))]))<(Xqn a0 y2.1 y2.2)))))) (List.length y2.2+List.length [(IntKind.wrap .u8 y2.1)]≤9223372036854775807∧((List.length y2.2+List.length [(IntKind.wrap .u8 y2.1)])*1≤140737488355328∧(Eq ((List.map (fun n=>UInt8.ofNat (Int.toNat n)) (y2.2++[(IntKind.wrap .u8 y2.1)])),((),())) ((X1P a0),((),()))))))))))
def X3Z.L(a0:Int):Nat→Option X0d:=fun p=>Go.Proofs.YtcfaphojdacmbaaGreatR.Bv.look p [(60,{kp:={hold:=[],slots:=[0,3],boxes:=[],rows:=[{bx:=false,s:=3,i:=0,k:=1000387,e:=5,hot:=true}]},T:=(.pair (.int .i64) T8q),I:=fun st y=>XoO a0 y.1 y.2,μ:=fun st y=>Xqn a0 y.1 y.2})]
theorem X3Z.pure(a0:Int)(h:True)(hw:Wf XaM.A a0):X3Z.F a0:=by
 delta X3Z.F wI eS
 simp only[forall_eq,true_and,and_true,X01,Prod.mk.injEq,Bool.not_eq_true',Bool.not_eq_false',decide_eq_true_eq,decide_eq_false_iff_not,List.length_cons,List.length_nil]
 refine⟨fun h1=>by simp[X1P,h1],fun h1=>?_⟩
 have hin:=h1
 simp only[fIn,Bool.and_eq_true,decide_eq_true_eq]at hin
 have hlen:=XbN 6 a0.toNat (by omega)
 refine⟨⟨hin.1,hin.2,rfl⟩,?_⟩
 rintro⟨n,out⟩ ⟨h2,h3,h4⟩
 simp only at h2 h3 h4 ⊢
 have hl:out.length+(vb n.toNat).length=(vb a0.toNat).length:=by rw[←h4,List.length_append]
 constructor
 · intro h5
   have e1:Int.tmod n 128=n % 128:=Int.tmod_eq_emod_of_nonneg h2
   have e2:Int.tdiv n 128=n / 128:=Int.tdiv_eq_ediv_of_nonneg h2
   have e3:IntKind.wrap .i64 (n / 128)=n / 128:=Go.IntWalk.i64_in _ (by omega)
   have e4:IntKind.wrap .i64 (128+n % 128)=128+n % 128:=Go.IntWalk.i64_in _ (by omega)
   have e4':IntKind.wrap .i64 (n % 128+128)=128+n % 128:=by rw[Int.add_comm];exact e4
   have e5:IntKind.wrap .u8 (128+n % 128)=128+n % 128:=Go.IntWalk.u8_in _ (by omega)
   simp only[e1,e2,e3,e4,e4',e5]
   rw[XfK (by omega)]at hl h4
   refine⟨by omega,by simp at hl;omega,by simp at hl;omega,by omega,⟨by omega,by omega,?_⟩,?_⟩
   · rw[←h4,List.append_assoc]
     have:(n / 128).toNat=n.toNat / 128:=by omega
     rw[this]
     congr 1
     show(128+n % 128)::vb (n.toNat / 128)=_
     congr 1
     omega
   · show(n / 128).toNat<n.toNat
     omega
 · intro h5
   have e5:IntKind.wrap .u8 n=n:=Go.IntWalk.u8_in _ (by omega)
   simp only[e5]
   rw[X8t (by omega)]at hl h4
   refine⟨by simp at hl;omega,by simp at hl;omega,?_⟩
   simp only[X1P,h1,if_true]
   rw[←h4]
   have:((n.toNat:Nat):Int)=n:=by omega
   rw[this]
   rfl
theorem X3Z.eq:EqS XaM Tryz.f141 [9] [X1H.e] [] (fun i x=>X3Z.L x) (fun i x=>X3Z.F x):=by intro i x;kernel_rfl
theorem X3Z.ok:X0l Tryz.prog 141 XaM:=X2b X3Z.eq Tryz.func141 rfl (by kernel_rfl) fun i x h hi hw=>X3Z.pure x h hw
def X3Z.e:GE:=⟨141,XaM,⟨_,Tryz.func141,rfl,rfl⟩,X3Z.ok⟩
end Go.Proofs.YtcfaphojdacmbaaGreatR.B
