/- What the laws of engines say of their argument. -/
import Derived.Test.YtcfaphojdacmbaaGreatRCLaw
import Derived.Test.YtcfaphojdacmbaaGreatRCTEngine
import Derived.Test.YtcfaphojdacmbaaGreatRCEngQ
set_option linter.unusedVariables false
set_option linter.unusedSimpArgs false
namespace Go.Proofs.YtcfaphojdacmbaaGreatR.B
open Go Go.Proofs.YtcfaphojdacmbaaGreatR.Bv
theorem XmS:∀l:List (Int×Int),cL X16 l=2*l.length
 | []=>by simp[cL]
 | x::l=>by rw[X3Z,XmS l,show X16 x=2 from rfl,List.length_cons];omega
theorem Xnp:∀l:List Ser,0≤cL X0p l∧cL X0p l≤2*tot l
 | []=>by simp[cL,tot]
 | x::l=>by
   have h1:=Xnp l
   have h2:=XmS x.2
   have h3:tot (x::l)=cS x+tot l:=X3Z ..
   have h4:X0p x=1+cL X16 x.2:=rfl
   have h5:cS x=(x.2.length:Int)+1:=rfl
   rw[X3Z];omega
theorem XqA:∀l:List Str,cL Xas l=l.length
 | []=>by simp[cL]
 | x::l=>by rw[X3Z,XqA l,show Xas x=1 from rfl,List.length_cons];omega
end Go.Proofs.YtcfaphojdacmbaaGreatR.B
