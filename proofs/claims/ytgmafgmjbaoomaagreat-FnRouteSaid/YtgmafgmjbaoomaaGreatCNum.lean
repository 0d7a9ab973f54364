/- A number as bytes of seven bits. -/
import Derived.Test.YtgmafgmjbaoomaaGreatCSer
set_option maxRecDepth 100000
set_option linter.unusedVariables false
set_option linter.unusedSimpArgs false
namespace Go.Proofs.YtgmafgmjbaoomaaGreat.B
open Go Go.Proofs.YtgmafgmjbaoomaaGreat.Bv
def vb(n:Nat):List Int:=if n<128 then [(n:Int)] else(((128+n % 128:Nat):Int))::vb (n / 128)
termination_by n
decreasing_by omega
theorem X6N{n:Nat}(h:n<128):vb n=[(n:Int)]:=by rw[vb,if_pos h]
theorem XdD{n:Nat}(h:¬n<128):vb n=(((128+n % 128:Nat):Int))::vb (n / 128):=by rw[vb,if_neg h]
theorem X9U:∀(k n:Nat),n<128 ^ (k+1)→(vb n).length≤k+1
 | 0,n,h=>by rw[X6N (by simpa using h)];simp
 | k+1,n,h=>by
   by_cases hn:n<128
   · rw[X6N hn];simp
   · rw[XdD hn]
     have:=X9U k (n / 128) (by rw[Nat.div_lt_iff_lt_mul (by omega)];rw[Nat.pow_succ]at h;exact h)
     simp;omega
def X1Q(l:List Int):List UInt8:=l.map fun n=>UInt8.ofNat n.toNat
def X1H(n:Int):List UInt8:=if fIn n 0 562949953421311 then X1Q (vb n.toNat) else []
theorem X1v(n:Int):(X1H n).length≤7:=by
 unfold X1H
 split
 · rename_i h
   simp only[fIn,Bool.and_eq_true,decide_eq_true_eq]at h
   simp only[X1Q,List.length_map]
   exact X9U 6 n.toNat (by omega)
 · simp
def Xmw(n0 n:Int)(out:List Int):Prop:=0≤n∧n≤562949953421311∧out++vb n.toNat=vb n0.toNat
def XnY(n0 n:Int)(out:List Int):Nat:=n.toNat
def X8J:Con:={A:=(.int .i64),shA:=[.one],R:=.str,shR:=[(false,1)],pre:=fun _ _=>True,f:=some fun _ a=>((X1H a),((),()))}
def X2Z.F(a0:Int):Prop:=(True∧∀r1,(Eq r1 ((fIn a0 0 562949953421311),((),())))→(X00 (!r1.1) (Eq ([],((),())) ((X1H a0),((),()))) (eS [] []∧((Xmw a0 a0 ([]:List Int))∧∀(y2:(Int×(List Int))),(Xmw a0 y2.1 y2.2)→(X00 (decide (y2.1≥(128:Int))) ((128:Int)≠0∧(List.length y2.2+List.length [(IntKind.wrap .u8 (wI ((128:Int)+(Int.tmod y2.1 (128:Int)))))]≤9223372036854775807∧((List.length y2.2+List.length [(IntKind.wrap .u8 (wI ((128:Int)+(Int.tmod y2.1 (128:Int)))))])*1≤140737488355328∧((128:Int)≠0∧(eS [] []∧(Xmw a0 (wI (Int.tdiv y2.1 (128:Int))) (y2.2++[(IntKind.wrap .u8 (wI ((128:Int)+(Int.tmod y2.1 (128:Int)))))]))∧(XnY a0 (wI (Int.tdiv y2.1 (128:Int))) (y2.2++[(IntKind.wrap .u8 (wI ((128:Int)+(Int.tmod y2.1 (128:Int)))))]))<(XnY a0 y2.1 y2.2)))))) (List.length y2.2+List.length [(IntKind.wrap .u8 y2.1)]≤9223372036854775807∧((List.length y2.2+List.length [(IntKind.wrap .u8 y2.1)])*1≤140737488355328∧(Eq ((List.map (fun n=>UInt8.ofNat (Int.toNat n)) (y2.2++[(IntKind.wrap .u8 y2.1)])),((),())) ((X1H a0),((),()))))))))))
def X2Z.L(a0:Int):Nat→Option X0a:=fun p=>Go.Proofs.YtgmafgmjbaoomaaGreat.Bv.look p [(60,{kp:={hold:=[],slots:=[0,3],boxes:=[],rows:=[{bx:=false,s:=3,i:=0,k:=1000387,e:=5,hot:=true}]},T:=(.pair (.int .i64) (.list (.int .u8))),I:=fun st y=>Xmw a0 y.1 y.2,μ:=fun st y=>XnY a0 y.1 y.2})]
theorem X2Z.pure(a0:Int)(h:True)(hw:Wf X8J.A a0):X2Z.F a0:=by
 delta X2Z.F wI eS
 simp only[forall_eq,true_and,and_true,X03,Prod.mk.injEq,Bool.not_eq_true',Bool.not_eq_false',decide_eq_true_eq,decide_eq_false_iff_not,List.length_cons,List.length_nil]
 refine⟨fun h1=>by simp[X1H,h1],fun h1=>?_⟩
 have hin:=h1
 simp only[fIn,Bool.and_eq_true,decide_eq_true_eq]at hin
 have hlen:=X9U 6 a0.toNat (by omega)
 refine⟨⟨hin.1,hin.2,rfl⟩,?_⟩
 rintro⟨n,out⟩ ⟨h2,h3,h4⟩
 simp only at h2 h3 h4 ⊢
 have hl:out.length+(vb n.toNat).length=(vb a0.toNat).length:=by rw[←h4,List.length_append]
 constructor
 · intro h5
   have e1:Int.tmod n 128=n % 128:=Int.tmod_eq_emod_of_nonneg h2
   have e2:Int.tdiv n 128=n / 128:=Int.tdiv_eq_ediv_of_nonneg h2
   have e3:IntKind.wrap .i64 (n / 128)=n / 128:=Go.IntWalk.i64_in _ (by omega)
   have e4:IntKind.wrap .i64 (128+n % 128)=128+n % 128:=Go.IntWalk.i64_in _ (by omega)
   have e4':IntKind.wrap .i64 (n % 128+128)=128+n % 128:=by rw[Int.add_comm];exact e4
   have e5:IntKind.wrap .u8 (128+n % 128)=128+n % 128:=Go.IntWalk.u8_in _ (by omega)
   simp only[e1,e2,e3,e4,e4',e5]
   rw[XdD (by omega)]at hl h4
   refine⟨by omega,by simp at hl;omega,by simp at hl;omega,by omega,⟨by omega,by omega,?_⟩,?_⟩
   · rw[←h4,List.append_assoc]
     have:(n / 128).toNat=n.toNat / 128:=by omega
     rw[this]
     congr 1
     show(128+n % 128)::vb (n.toNat / 128)=_
     congr 1
     omega
   · show(n / 128).toNat<n.toNat
     omega
 · intro h5
   have e5:IntKind.wrap .u8 n=n:=Go.IntWalk.u8_in _ (by omega)
   simp only[e5]
   rw[X6N (by omega)]at hl h4
   refine⟨by simp at hl;omega,by simp at hl;omega,?_⟩
   simp only[X1H,h1,if_true]
   rw[←h4]
   have:((n.toNat:Nat):Int)=n:=by omega
   rw[this]
   rfl
theorem X2Z.eq:EqS X8J Tryz.f110 [9] [X1j.e] [] (fun i x=>X2Z.L x) (fun i x=>X2Z.F x):=by intro i x;kernel_rfl
theorem X2Z.ok:X0o Tryz.prog 110 X8J:=X2u X2Z.eq Tryz.func110 rfl (by kernel_rfl) fun i x h hi hw=>X2Z.pure x h hw
def X2Z.e:GE:=⟨110,X8J,⟨_,Tryz.func110,rfl,rfl⟩,X2Z.ok⟩
def X8E:Con:={A:=(.int .i64),shA:=[.one],R:=.str,shR:=[(false,1)],pre:=fun _ _=>True,f:=some fun _ a=>((X1H a),((),()))}
def X36.F(a0:Int):Prop:=(True∧∀r1,(Eq r1 ((fIn a0 0 562949953421311),((),())))→(X00 (!r1.1) (Eq ([],((),())) ((X1H a0),((),()))) (eS [] []∧((Xmw a0 a0 ([]:List Int))∧∀(y2:(Int×(List Int))),(Xmw a0 y2.1 y2.2)→(X00 (decide (y2.1>(127:Int))) ((128:Int)≠0∧(List.length y2.2+List.length [(IntKind.wrap .u8 (wI ((Int.tmod y2.1 (128:Int))+(128:Int))))]≤9223372036854775807∧((List.length y2.2+List.length [(IntKind.wrap .u8 (wI ((Int.tmod y2.1 (128:Int))+(128:Int))))])*1≤140737488355328∧((128:Int)≠0∧(eS [] []∧(Xmw a0 (wI (Int.tdiv y2.1 (128:Int))) (y2.2++[(IntKind.wrap .u8 (wI ((Int.tmod y2.1 (128:Int))+(128:Int))))]))∧(XnY a0 (wI (Int.tdiv y2.1 (128:Int))) (y2.2++[(IntKind.wrap .u8 (wI ((Int.tmod y2.1 (128:Int))+(128:Int))))]))<(XnY a0 y2.1 y2.2)))))) (List.length y2.2+List.length [(IntKind.wrap .u8 y2.1)]≤9223372036854775807∧((List.length y2.2+List.length [(IntKind.wrap .u8 y2.1)])*1≤140737488355328∧(Eq ((List.map (fun n=>UInt8.ofNat (Int.toNat n)) (y2.2++[(IntKind.wrap .u8 y2.1)])),((),())) ((X1H a0),((),()))))))))))
def X36.L(a0:Int):Nat→Option X0a:=fun p=>Go.Proofs.YtgmafgmjbaoomaaGreat.Bv.look p [(60,{kp:={hold:=[],slots:=[0,3],boxes:=[],rows:=[{bx:=false,s:=3,i:=0,k:=1000387,e:=5,hot:=true}]},T:=(.pair (.int .i64) (.list (.int .u8))),I:=fun st y=>Xmw a0 y.1 y.2,μ:=fun st y=>XnY a0 y.1 y.2})]
theorem X36.pure(a0:Int)(h:True)(hw:Wf X8E.A a0):X36.F a0:=by
 delta X36.F wI eS
 simp only[forall_eq,true_and,and_true,X03,Prod.mk.injEq,Bool.not_eq_true',Bool.not_eq_false',decide_eq_true_eq,decide_eq_false_iff_not,List.length_cons,List.length_nil]
 refine⟨fun h1=>by simp[X1H,h1],fun h1=>?_⟩
 have hin:=h1
 simp only[fIn,Bool.and_eq_true,decide_eq_true_eq]at hin
 have hlen:=X9U 6 a0.toNat (by omega)
 refine⟨⟨hin.1,hin.2,rfl⟩,?_⟩
 rintro⟨n,out⟩ ⟨h2,h3,h4⟩
 simp only at h2 h3 h4 ⊢
 have hl:out.length+(vb n.toNat).length=(vb a0.toNat).length:=by rw[←h4,List.length_append]
 constructor
 · intro h5
   have e1:Int.tmod n 128=n % 128:=Int.tmod_eq_emod_of_nonneg h2
   have e2:Int.tdiv n 128=n / 128:=Int.tdiv_eq_ediv_of_nonneg h2
   have e3:IntKind.wrap .i64 (n / 128)=n / 128:=Go.IntWalk.i64_in _ (by omega)
   have e4:IntKind.wrap .i64 (128+n % 128)=128+n % 128:=Go.IntWalk.i64_in _ (by omega)
   have e4':IntKind.wrap .i64 (n % 128+128)=128+n % 128:=by rw[Int.add_comm];exact e4
   have e5:IntKind.wrap .u8 (128+n % 128)=128+n % 128:=Go.IntWalk.u8_in _ (by omega)
   simp only[e1,e2,e3,e4,e4',e5]
   rw[XdD (by omega)]at hl h4
   refine⟨by omega,by simp at hl;omega,by simp at hl;omega,by omega,⟨by omega,by omega,?_⟩,?_⟩
   · rw[←h4,List.append_assoc]
     have:(n / 128).toNat=n.toNat / 128:=by omega
     rw[this]
     congr 1
     show(128+n % 128)::vb (n.toNat / 128)=_
     congr 1
     omega
   · show(n / 128).toNat<n.toNat
     omega
 · intro h5
   have e5:IntKind.wrap .u8 n=n:=Go.IntWalk.u8_in _ (by omega)
   simp only[e5]
   rw[X6N (by omega)]at hl h4
   refine⟨by simp at hl;omega,by simp at hl;omega,?_⟩
   simp only[X1H,h1,if_true]
   rw[←h4]
   have:((n.toNat:Nat):Int)=n:=by omega
   rw[this]
   rfl
theorem X36.eq:EqS X8E Tryz.f149 [9] [X0A.e] [] (fun i x=>X36.L x) (fun i x=>X36.F x):=by intro i x;kernel_rfl
theorem X36.ok:X0o Tryz.prog 149 X8E:=X2u X36.eq Tryz.func149 rfl (by kernel_rfl) fun i x h hi hw=>X36.pure x h hw
def X36.e:GE:=⟨149,X8E,⟨_,Tryz.func149,rfl,rfl⟩,X36.ok⟩
end Go.Proofs.YtgmafgmjbaoomaaGreat.B
