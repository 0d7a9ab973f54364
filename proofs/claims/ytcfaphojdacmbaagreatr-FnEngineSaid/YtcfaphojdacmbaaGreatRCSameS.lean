/- Series compared. -/
import Derived.Test.YtcfaphojdacmbaaGreatRCSame
import Derived.Test.YtcfaphojdacmbaaGreatRCSer
set_option linter.unusedVariables false
set_option linter.unusedSimpArgs false
namespace Go.Proofs.YtcfaphojdacmbaaGreatR.B
open Go Go.Proofs.YtcfaphojdacmbaaGreatR.Bv
structure seI (a b:List Ser) (i:Int):Prop where
 h1:0≤i
 h2:i≤a.length
 h3:a.length=b.length
 h4:a.take i.toNat=b.take i.toNat
def seM(a b:List Ser)(i:Int):Nat:=(a.length - i).toNat
def Xm8.L(a0:(List U1q))(a1:(List U1q)):Nat→Option X0d:=fun p=>Go.Proofs.YtcfaphojdacmbaaGreatR.Bv.look p [(58,{kp:={hold:=[0,1],slots:=[5],boxes:=[],rows:=[]},T:=(.int .i64),I:=fun st y=>seI a0 a1 y,μ:=fun st y=>seM a0 a1 y})]
end Go.Proofs.YtcfaphojdacmbaaGreatR.B
