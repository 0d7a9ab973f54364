/- Functions that hand out a new variable. -/
import Derived.Test.YtgfgenbmjbhphaaCLib
namespace Go.Proofs.Ytgfgenbmjbhphaa.B
set_option linter.unusedVariables false
set_option linter.unusedSimpArgs false
open Go Go.Proofs.Ytgfgenbmjbhphaa.Bv
def EqN (con:Con) (fn:Func) (g:List GE) (tk:List Nat) (L:(i:El con.I)→El con.A→Nat→Option LoopAnn) (F:El con.I→El con.A→Prop):Prop:=
 ∀i x,vc tab (gamOf g tk) (L i x) (bodyOf fn) 1 (initSt con fn.ntmps i x) (bodyG (finN tab con fn.results.toList i x))=F i x
theorem okN {con:Con} {fn:Func} {g:List GE} {tk:List Nat} {L:(i:El con.I)→El con.A→Nat→Option LoopAnn} {F:El con.I→El con.A→Prop} {n:FuncId} (he:EqN con fn g tk L F)
 (hf:Try.prog.funcs[n]?=some fn) (hb:fn.body=some (bodyOf fn)) (hB:conBN tab con fn.ntmps=true) (h:∀i x,con.pre i x→(con.io=true→Wf con.I i)→Wf con.A x→F i x):ConOk Try.prog n con:=
 conOkN_of_vc L rfl tabOk (gamOf_ok tk g) hf hb hB fun i x h1 h2 h3=>by rw [he];exact h i x h1 h2 h3
end Go.Proofs.Ytgfgenbmjbhphaa.B
