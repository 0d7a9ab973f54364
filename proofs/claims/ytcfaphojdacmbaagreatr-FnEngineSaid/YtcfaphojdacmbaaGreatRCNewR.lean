/- Functions that hand out a new variable. -/
import Derived.Test.YtcfaphojdacmbaaGreatRCLib
set_option linter.unusedVariables false
set_option linter.unusedSimpArgs false
namespace Go.Proofs.YtcfaphojdacmbaaGreatR.B
open Go Go.Proofs.YtcfaphojdacmbaaGreatR.Bv
def EqN(con:Con)(fn:Func)(g:List GE)(tk:List Nat)(L:(i:El con.I)→El con.A→Nat→Option X0d)(F:El con.I→El con.A→Prop):Prop:=
 ∀i x,vc tab (Xpw g tk) (L i x) (Xkg fn) 1 (Xb5 con fn.ntmps i x) (XnX (XqB tab con fn.results.toList i x))=F i x
theorem okN{con:Con}{fn:Func}{g:List GE}{tk:List Nat}{L:(i:El con.I)→El con.A→Nat→Option X0d}{F:El con.I→El con.A→Prop}{n:FuncId}(he:EqN con fn g tk L F)(hf:Tryz.prog.funcs[n]?=some fn)(hb:fn.body=some (Xkg fn))(hB:XpW tab con fn.ntmps=true)(h:∀i x,con.pre i x→(con.io=true→Wf con.I i)→Wf con.A x→F i x):X0l Tryz.prog n con:=
 Xix L rfl XiH (Xgw tk g) hf hb hB fun i x h1 h2 h3=>by rw[he];exact h i x h1 h2 h3
end Go.Proofs.YtcfaphojdacmbaaGreatR.B
