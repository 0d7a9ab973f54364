/- A law on files. -/
import Derived.Test.YtegmokdppbagiaaCFFile0
import Derived.Test.YtegmokdppbagiaaCFind
import Derived.Test.YtegmokdppbagiaaCDSer
import Derived.Test.YtegmokdppbagiaaCSameS
set_option linter.unusedVariables false
set_option linter.unusedSimpArgs false
namespace Go.Proofs.Ytegmokdppbagiaa.B
open Go Go.Proofs.Ytegmokdppbagiaa.Bv
def X8l(code:List Int)(i:Int):Int:=if i<code.length then IntKind.wrap .i64 (code.getD i.toNat 0) else Int.tmod (IntKind.wrap .i64 (IntKind.wrap .i64 (i*37)+IntKind.wrap .i64 (code.length*11))) 256
def Xgm(code:List Int)(i:Int):Prop:=0≤i
def X6X:Con:={A:=(.pair T6q (.int .i64)),shA:=[.one,.one],R:=(.int .i64),shR:=[(false,1)],pre:=fun _ a=>(Xgm a.1 a.2),f:=some fun _ a=>((X8l a.1 a.2),((),()))}
def X41.F(a0:(List Int))(a1:Int):Prop:=(X04 (decide (a1<(ln a0))) (0≤a1∧(a1<(ln a0)∧(Eq ((wI (List.getD a0 (tN a1) 0)),((),())) ((X8l a0 a1),((),()))))) ((256:Int)≠0∧(Eq ((Int.tmod (wI ((wI (a1*(37:Int)))+(wI ((ln a0)*(11:Int))))) (256:Int)),((),())) ((X8l a0 a1),((),())))))
theorem X41.pure(a0:(List Int))(a1:Int)(h:(Xgm a0 a1))(hw:Wf X6X.A (a0,a1)):X41.F a0 a1:=by
 delta X41.F ln tN wI
 simp only[Bs,B0,B1,Prod.mk.injEq,X06,Prod.eta]
 have hp:0≤a1:=h
 refine⟨fun h1=>⟨hp,h1,?_⟩,fun h1=>⟨by omega,?_⟩⟩
 · unfold X8l;rw[if_pos h1]
 · unfold X8l;rw[if_neg h1]
set_option maxRecDepth 100000 in
theorem X41.eq:EqS X6X Try.f15 [3] [] [] noL (fun i x=>X41.F x.1 x.2):=by intro i x;kernel_rfl
theorem X41.ok:X11 Try.prog 15 X6X:=X3V X41.eq Try.func15 rfl (by kernel_rfl) fun i x h hi hw=>X41.pure x.1 x.2 h hw
def X41.e:GE:=⟨15,X6X,⟨_,Try.func15,rfl,rfl⟩,X41.ok⟩
theorem Xa8:∀(l:List Ser) (n:Nat),(∀x∈l,x.1.length≤8)→(ixF l n).length≤100*l.length
 | [],n,_=>by simp[ixF]
 | x::l,n,h=>by
   have h1:=Xa8 l (n+(X03 x.2).length) fun y hy=>h y (by simp[hy])
   have h2:=h x (by simp)
   have v1:=X0m x.1.length
   have v2:=X0m n
   have v3:=X0m (X03 x.2).length
   have v4:=X0m (x.2.getD 0 (0,0)).1
   have v5:=X0m (x.2.getD (x.2.length - 1) (0,0)).1
   rw[ixF,List.length_append,List.length_cons]
   simp only[X3w,List.length_append]
   omega
theorem XhE{l:List Ser}(h0:X0L l=true∧l≠[]){i:Nat}(hi:i<l.length):X6z (X09 l) (l.getD i ([],[])).1=((l.getD i ([],[])).2,true):=by
 unfold X6z
 rw[X6U h0]
 simp only
 rw[XgI (Xdy h0.1).1.1 hi]
theorem Xen{l:List Ser}(h0:X0L l=true∧l≠[]):X6z (X09 l) [79,84,72,69,82]=([],false):=by
 unfold X6z
 rw[X6U h0]
 simp only
 have e:l.find? (fun x=>decide (x.1=[79,84,72,69,82]))=none:=by
  rw[List.find?_eq_none]
  intro x hx
  obtain⟨j,hj,e⟩:=List.getElem_of_mem hx
  have h1:=h0.1
  simp only[X0L,Bool.and_eq_true,decide_eq_true_eq,X7d]at h1
  have:=h1.2 j hj
  simp only[Xcm,Bool.and_eq_true]at this
  have hk:=this.1
  rw[X1V hj,e]at hk
  intro c
  exact XiE hk (of_decide_eq_true c)
 rw[e]
theorem Xg7(l:List Ser):(X09 l).length≤20000:=by
 by_cases hc:X0L l=true∧l≠[]
 · have L:=RF.lay (s:=X09 l) ⟨hc,rfl⟩
   have h1:=L.len
   have h2:=L.five
   have h3:=X6Y l
   have h4:=X5Z l
   have h5:=Xa8 l 4 fun x hx=>by have:=(Xdy hc.1).2.2.2 x hx;exact this.1
   omega
 · rw[Xdq hc];simp
theorem Xi6{b:UInt8}{r:Int}(h0:0≤r)(h1:r<255):b≠UInt8.ofNat (IntKind.wrap .u8 (IntKind.wrap .i64 (((BitVec.ofInt (IntKind.bits .i64) (IntKind.wrap .i64 ((b.toNat:Nat):Int)) ^^^ BitVec.ofInt (IntKind.bits .i64) (IntKind.wrap .i64 (1+r))).toNat:Nat):Int))).toNat:=by
 have hb:=b.toNat_lt
 have er:(1+r:Int)=(((1+r).toNat:Nat):Int):=by omega
 rw[w64 (x:=((b.toNat:Nat):Int)) (by omega) (by omega),w64 (x:=1+r) (by omega) (by omega),er,xor64 (by omega) (by omega)]
 have hx:b.toNat ^^^ (1+r).toNat<256:=Nat.xor_lt_two_pow (n:=8) hb (by omega)
 rw[wu8 (x:=((b.toNat ^^^ (1+r).toNat:Nat):Int)) (by omega) (by omega),Int.toNat_natCast]
 intro e
 have e2:=congrArg UInt8.toNat e
 rw[UInt8.toNat_ofNat',Nat.mod_eq_of_lt hx]at e2
 have e3:=congrArg (b.toNat ^^^ ·) e2
 simp only[Nat.xor_self,←Nat.xor_assoc,Nat.zero_xor]at e3
 omega
theorem Xcz{code:List Int}(hu:∀x∈code,0≤x∧x≤255)(hl:code.length≤1048576){i:Int}(h0:0≤i)(h1:i≤100):0≤X8l code i∧X8l code i≤255:=by
 unfold X8l
 split
 · have:=hu _ (X6N (d:=(0:Int)) (l:=code) (i:=i.toNat) (by omega))
   rw[w64 (by omega) (by omega)];exact this
 · rw[w64 (x:=i*37) (by omega) (by omega),w64 (x:=(code.length:Int)*11) (by omega) (by omega),w64 (by omega) (by omega)]
   have a:=Int.tmod_nonneg 256 (a:=i*37+(code.length:Int)*11) (by omega)
   have b:=Int.tmod_lt_of_pos (i*37+(code.length:Int)*11) (b:=256) (by omega)
   omega
end Go.Proofs.Ytegmokdppbagiaa.B
