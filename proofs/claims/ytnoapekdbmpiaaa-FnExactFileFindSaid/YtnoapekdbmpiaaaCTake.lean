/- Functions that hand out a list that stands in a list of their own. -/
import Derived.Test.YtnoapekdbmpiaaaCLib
namespace Go.Proofs.Ytnoapekdbmpiaaa.B
set_option linter.unusedVariables false
set_option linter.unusedSimpArgs false
open Go Go.Proofs.Ytnoapekdbmpiaaa.Bv
def EqT (con:Con) (fn:Func) (tys:List TypeId) (g:List GE) (tk:List Nat) (L:(i:El con.I)→El con.A→Nat→Option LoopAnn) (F:El con.I→El con.A→Prop):Prop:=
 ∀i x,vc tab (gamOf g tk) (L i x) (bodyOf fn) 1 (initSt con fn.ntmps i x) (bodyG (finT tab con fn.results.toList tys i x))=F i x
theorem okT {con:Con} {fn:Func} {tys:List TypeId} {g:List GE} {tk:List Nat} {L:(i:El con.I)→El con.A→Nat→Option LoopAnn} {F:El con.I→El con.A→Prop} {n:FuncId} (he:EqT con fn tys g tk L F)
 (hf:Try.prog.funcs[n]?=some fn) (hb:fn.body=some (bodyOf fn)) (hB:conBT tab con fn.ntmps=true) (h:∀i x,con.pre i x→(con.io=true→Wf con.I i)→Wf con.A x→F i x):ConOk Try.prog n con:=
 conOkT_of_vc L rfl tabOk (gamOf_ok tk g) hf hb tys hB fun i x h1 h2 h3=>by rw [he];exact h i x h1 h2 h3
end Go.Proofs.Ytnoapekdbmpiaaa.B
