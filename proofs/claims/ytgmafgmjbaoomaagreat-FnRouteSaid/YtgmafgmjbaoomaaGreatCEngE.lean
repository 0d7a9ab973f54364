/- Engines:the program and the reference are one. -/
import Derived.Test.YtgmafgmjbaoomaaGreatCEngS
set_option linter.unusedVariables false
set_option linter.unusedSimpArgs false
namespace Go.Proofs.YtgmafgmjbaoomaaGreat.B
open Go Go.Proofs.YtgmafgmjbaoomaaGreat.Bv
structure ekI (e:Eng) (i fl:Int) (ca:List Ser) (fi:List Str):Prop where
 h0:((fl,(ca,fi)):Eng)=e
 h1:0≤i
 h2:i≤e.2.1.length
 h3:∀j,j<i.toNat→dLow e (e.2.1.getD j ([],[]))=false
def ekM(e:Eng)(i fl:Int)(ca:List Ser)(fi:List Str):Nat:=(e.2.1.length - i).toNat
def XkN.L(a0:Xhd):Nat→Option X0a:=fun p=>Go.Proofs.YtgmafgmjbaoomaaGreat.Bv.look p [(58,{kp:={hold:=[1],slots:=[3],boxes:=[2],rows:=[]},T:=(.pair (.int .i64) Xfd),I:=fun st y=>ekI a0 y.1 y.2.1 y.2.2.1 y.2.2.2,μ:=fun st y=>ekM a0 y.1 y.2.1 y.2.2.1 y.2.2.2})]
end Go.Proofs.YtgmafgmjbaoomaaGreat.B
