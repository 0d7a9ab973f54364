/- What all contracts use. -/
import Derived.Test.YtakllifahpfmpaaCTab
set_option linter.unusedVariables false
set_option linter.unusedSimpArgs false
namespace Go.Proofs.Ytakllifahpfmpaa.B
open Go Go.Proofs.Ytakllifahpfmpaa.Bv
abbrev ln{α:Type}(l:List α):Int:=((List.length l:Nat):Int)
abbrev tN(i:Int):Nat:=Int.toNat i
abbrev wI(i:Int):Int:=IntKind.wrap .i64 i
abbrev eS(a b:List (Nat×Sv)):Prop:=a=b
theorem B0:(∀{p:Prop},(True∧p)↔p)∧(∀{p:Prop},(p∧True)↔p)∧(∀{p:Prop}[Decidable p],(decide p=true)=p)∧(∀{p:Prop}[Decidable p],decide p=false↔¬p)∧(∀{b:Bool},((!b)=true)=(b=false))∧(∀{b:Bool},((!b)=false)=(b=true))∧((!true)=false)∧((!false)=true)∧(∀n:Nat,0+n=n)∧(∀h:Decidable True,@decide True h=true)∧(∀h:Decidable False,@decide False h=false):=
 ⟨by simp,by simp,decide_eq_true_eq,decide_eq_false_iff_not,by simp,by simp,rfl,rfl,Nat.zero_add,decide_true,decide_false⟩
theorem Bs.{u}:(∀{α:Sort u}{p:α→Prop}{b:α},(∀a,a=b→p a)↔p b)∧(∀{α:Sort u}(a b:α),(a≠b)=¬a=b)∧(∀{α:Sort u}(a:α),(a=a)=True):=⟨forall_eq,fun _ _=>rfl,eq_self⟩
theorem B1.{u}:(∀{α:Type u}[BEq α][LawfulBEq α]{a b:α},(a != b)=true↔a≠b)∧(∀{α:Type u}[BEq α][LawfulBEq α]{a b:α},(a==b)=true↔a=b)∧(∀{α:Type u}[BEq α][LawfulBEq α]{a b:α},(a==b)=false↔a≠b)∧(∀{α:Type u}[BEq α][LawfulBEq α]{a b:α},(a != b)=false↔a=b)∧(∀{α:Type u}{a b:List α},(a++b).length=a.length+b.length)∧(∀{α:Type u}{a:α}{l:List α},(a::l).length=l.length+1)∧(∀{α:Type u},([]:List α).length=0)∧(∀{α:Type u}(l:List α),l++[]=l):=
 ⟨bne_iff_ne,beq_iff_eq,beq_eq_false_iff_ne,bne_eq_false_iff_eq,List.length_append,rfl,rfl,List.append_nil⟩
def XgY(fn:Func):Code:=match fn.body with | some c=>c | none=>.skip
structure GE where
 n:Nat
 con:Con
 fn:FnOk Try.prog n
 ok:X0z Try.prog n con
def Xis(l:List GE)(tk:List Nat):Gam:=gam (l.map fun e=>(e.n,e.con)) tk eqs
theorem XdA(tk:List Nat):∀l:List GE,X72 Try.prog (Xis l tk)
 | []=>XhK _ _ eqsOk
 | e::l=>XgM e.fn e.ok (XdA tk l)
def noL{α β:Type}(_:α)(_:β):Nat→Option X0w:=fun _=>none
def EqS(con:Con)(fn:Func)(tys:List TypeId)(g:List GE)(tk:List Nat)(L:(i:El con.I)→El con.A→Nat→Option X0w)(F:El con.I→El con.A→Prop):Prop:=
 ∀i x,vc tab (Xis g tk) (L i x) (XgY fn) 1 (X8u con fn.ntmps i x) (XhD tab con fn.results.toList tys i x)=F i x
theorem X2I{con:Con}{fn:Func}{tys:List TypeId}{g:List GE}{tk:List Nat}{L:(i:El con.I)→El con.A→Nat→Option X0w}{F:El con.I→El con.A→Prop}{n:FuncId}(he:EqS con fn tys g tk L F)(hf:Try.prog.funcs[n]?=some fn)(hb:fn.body=some (XgY fn))(hB:conB tab con fn.ntmps=true)(h:∀i x,con.pre i x→(con.io=true→Wf con.I i)→Wf con.A x→F i x):X0z Try.prog n con:=
 XcT L rfl Xiv (XdA tk g) hf hb tys hB fun i x h1 h2 h3=>by rw[he];exact h i x h1 h2 h3
theorem w64{x:Int}(h:-9223372036854775808≤x)(h':x≤9223372036854775807):IntKind.wrap .i64 x=x:=Go.IntWalk.i64_in _ ⟨h,h'⟩
theorem wu8{x:Int}(h:0≤x)(h':x≤255):IntKind.wrap .u8 x=x:=Go.IntWalk.u8_in _ ⟨h,h'⟩
theorem tn0(n:Nat):((n:Int)).toNat=n:=rfl
theorem tn1{i:Int}(h:0≤i):(i+1).toNat=i.toNat+1:=by omega
theorem tm1{i:Int}(h:1≤i):(i - 1).toNat=i.toNat - 1:=by omega
theorem tm2{i:Int}(h:2≤i):(i - 2).toNat=i.toNat - 2:=by omega
theorem X5G{α:Type}{l:List α}{i:Nat}{d:α}(h:i<l.length):l.getD i d=l[i]:=by rw[List.getD_eq_getElem?_getD,List.getElem?_eq_getElem h];rfl
theorem XdM{α:Type}{l:List α}{i:Nat}{d:α}(h:i<l.length):l.getD i d∈l:=by rw[X5G h];exact List.getElem_mem h
theorem X53{α:Type}{l:List α}{i:Nat}(d:α)(h:i<l.length):l.take (i+1)=l.take i++[l.getD i d]:=by
 rw[X5G h,List.take_add_one,List.getElem?_eq_getElem h];rfl
theorem X6I{α:Type}{l:List α}{i:Nat}(d:α)(h:i<l.length):l.drop i=l.getD i d::l.drop (i+1):=by
 rw[X5G h];exact List.drop_eq_getElem_cons h
end Go.Proofs.Ytakllifahpfmpaa.B
