/- Functions that hand out a list that stands in a list of their own. -/
import Derived.Test.YtegmokdppbagiaaCLib
set_option linter.unusedVariables false
set_option linter.unusedSimpArgs false
namespace Go.Proofs.Ytegmokdppbagiaa.B
open Go Go.Proofs.Ytegmokdppbagiaa.Bv
def EqT(con:Con)(fn:Func)(tys:List TypeId)(g:List GE)(tk:List Nat)(L:(i:El con.I)→El con.A→Nat→Option X0g)(F:El con.I→El con.A→Prop):Prop:=
 ∀i x,vc tab (XgL g tk) (L i x) (Xae fn) 1 (X5t con fn.ntmps i x) (Xe9 (Xjb tab con fn.results.toList tys i x))=F i x
theorem okT{con:Con}{fn:Func}{tys:List TypeId}{g:List GE}{tk:List Nat}{L:(i:El con.I)→El con.A→Nat→Option X0g}{F:El con.I→El con.A→Prop}{n:FuncId}(he:EqT con fn tys g tk L F)(hf:Try.prog.funcs[n]?=some fn)(hb:fn.body=some (Xae fn))(hB:Xid tab con fn.ntmps=true)(h:∀i x,con.pre i x→(con.io=true→Wf con.I i)→Wf con.A x→F i x):X11 Try.prog n con:=
 XbH L rfl Xh9 (X8p tk g) hf hb tys hB fun i x h1 h2 h3=>by rw[he];exact h i x h1 h2 h3
end Go.Proofs.Ytegmokdppbagiaa.B
