/- Functions that hand out a new variable. -/
import Derived.Test.YtegmokdppbagiaaCLib
set_option linter.unusedVariables false
set_option linter.unusedSimpArgs false
namespace Go.Proofs.Ytegmokdppbagiaa.B
open Go Go.Proofs.Ytegmokdppbagiaa.Bv
def EqN(con:Con)(fn:Func)(g:List GE)(tk:List Nat)(L:(i:El con.I)→El con.A→Nat→Option X0g)(F:El con.I→El con.A→Prop):Prop:=
 ∀i x,vc tab (XgL g tk) (L i x) (Xae fn) 1 (X5t con fn.ntmps i x) (Xe9 (XiC tab con fn.results.toList i x))=F i x
theorem okN{con:Con}{fn:Func}{g:List GE}{tk:List Nat}{L:(i:El con.I)→El con.A→Nat→Option X0g}{F:El con.I→El con.A→Prop}{n:FuncId}(he:EqN con fn g tk L F)(hf:Try.prog.funcs[n]?=some fn)(hb:fn.body=some (Xae fn))(hB:XhW tab con fn.ntmps=true)(h:∀i x,con.pre i x→(con.io=true→Wf con.I i)→Wf con.A x→F i x):X11 Try.prog n con:=
 XbZ L rfl Xh9 (X8p tk g) hf hb hB fun i x h1 h2 h3=>by rw[he];exact h i x h1 h2 h3
end Go.Proofs.Ytegmokdppbagiaa.B
