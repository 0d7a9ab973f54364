/- A code that follows from another. -/
import Derived.Test.YtnoapekdbmpiaaaCSame
namespace Go.Proofs.Ytnoapekdbmpiaaa.B
set_option linter.unusedVariables false
set_option linter.unusedSimpArgs false
open Go Go.Proofs.Ytnoapekdbmpiaaa.Bv
def frI (code:List Int) (salt i:Int) (out:List Int):Prop:=0≤i∧i≤600∧out.length=i+1
def frM (code:List Int) (salt i:Int) (out:List Int):Nat:=(600 - i).toNat
def laws_fresh.L (a0:(List Int)) (a1:Int):Nat→Option LoopAnn:=fun p=>Go.Proofs.Ytnoapekdbmpiaaa.Bv.look p [(58,{kp:={hold:=[0,1],slots:=[5,6],boxes:=[],rows:=[{bx:=false,s:=5,i:=0,k:=1000643,e:=5,hot:=true}]},T:=(.pair (.int .i64) (.list (.int .u8))),I:=fun st y=>frI a0 a1 y.1 y.2,μ:=fun st y=>frM a0 a1 y.1 y.2})]
end Go.Proofs.Ytnoapekdbmpiaaa.B
