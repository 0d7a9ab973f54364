/- What all contracts use. -/
import Derived.Test.YtgfgenbmjbhphaaCTab
namespace Go.Proofs.Ytgfgenbmjbhphaa.B
set_option linter.unusedVariables false
set_option linter.unusedSimpArgs false
open Go Go.Proofs.Ytgfgenbmjbhphaa.Bv
abbrev ln {α:Type} (l:List α):Int:=((List.length l:Nat):Int)
abbrev tN (i:Int):Nat:=Int.toNat i
abbrev wI (i:Int):Int:=IntKind.wrap .i64 i
abbrev eS (a b:List (Nat×Sv)):Prop:=a=b
def bodyOf (fn:Func):Code:=match fn.body with | some c=>c | none=>.skip
structure GE where
 n:Nat
 con:Con
 fn:FnOk Try.prog n
 ok:ConOk Try.prog n con
def gamOf (l:List GE) (tk:List Nat):Gam:=gam (l.map fun e=>(e.n,e.con)) tk eqs
theorem gamOf_ok (tk:List Nat):∀l:List GE,GamOk Try.prog (gamOf l tk)
 | []=>gam_nil _ _ eqsOk
 | e::l=>gam_cons e.fn e.ok (gamOf_ok tk l)
def noL {α β:Type} (_:α) (_:β):Nat→Option LoopAnn:=fun _=>none
def EqS (con:Con) (fn:Func) (tys:List TypeId) (g:List GE) (tk:List Nat) (L:(i:El con.I)→El con.A→Nat→Option LoopAnn) (F:El con.I→El con.A→Prop):Prop:=
 ∀i x,vc tab (gamOf g tk) (L i x) (bodyOf fn) 1 (initSt con fn.ntmps i x) (bodyK tab con fn.results.toList tys i x)=F i x
theorem okOf {con:Con} {fn:Func} {tys:List TypeId} {g:List GE} {tk:List Nat} {L:(i:El con.I)→El con.A→Nat→Option LoopAnn} {F:El con.I→El con.A→Prop} {n:FuncId} (he:EqS con fn tys g tk L F)
 (hf:Try.prog.funcs[n]?=some fn) (hb:fn.body=some (bodyOf fn)) (hB:conB tab con fn.ntmps=true) (h:∀i x,con.pre i x→(con.io=true→Wf con.I i)→Wf con.A x→F i x):ConOk Try.prog n con:=
 conOk_of_vc L rfl tabOk (gamOf_ok tk g) hf hb tys hB fun i x h1 h2 h3=>by rw [he];exact h i x h1 h2 h3
theorem w64 {x:Int} (h:-9223372036854775808≤x) (h':x≤9223372036854775807):IntKind.wrap .i64 x=x:=Go.IntWalk.i64_in _ ⟨h,h'⟩
theorem wu8 {x:Int} (h:0≤x) (h':x≤255):IntKind.wrap .u8 x=x:=Go.IntWalk.u8_in _ ⟨h,h'⟩
theorem tn0 (n:Nat):((n:Int)).toNat=n:=rfl
theorem tn1 {i:Int} (h:0≤i):(i+1).toNat=i.toNat+1:=by omega
theorem tm1 {i:Int} (h:1≤i):(i - 1).toNat=i.toNat - 1:=by omega
theorem tm2 {i:Int} (h:2≤i):(i - 2).toNat=i.toNat - 2:=by omega
theorem getD_lt {α:Type} {l:List α} {i:Nat} {d:α} (h:i<l.length):l.getD i d=l[i]:=by rw [List.getD_eq_getElem?_getD,List.getElem?_eq_getElem h];rfl
theorem getD_mem {α:Type} {l:List α} {i:Nat} {d:α} (h:i<l.length):l.getD i d∈l:=by rw [getD_lt h];exact List.getElem_mem h
theorem take_getD {α:Type} {l:List α} {i:Nat} (d:α) (h:i<l.length):l.take (i+1)=l.take i++[l.getD i d]:=by
 rw [getD_lt h,List.take_add_one,List.getElem?_eq_getElem h];rfl
theorem drop_getD {α:Type} {l:List α} {i:Nat} (d:α) (h:i<l.length):l.drop i=l.getD i d::l.drop (i+1):=by
 rw [getD_lt h];exact List.drop_eq_getElem_cons h
end Go.Proofs.Ytgfgenbmjbhphaa.B
