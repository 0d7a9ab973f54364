/- Engines:put. -/
import Derived.Test.YtgmafgmjbaoomaaGreatCEngP
set_option linter.unusedVariables false
set_option linter.unusedSimpArgs false
namespace Go.Proofs.YtgmafgmjbaoomaaGreat.B
open Go Go.Proofs.YtgmafgmjbaoomaaGreat.Bv
def XmG.L(a0:U8q)(a1:U4q)(a2:U5q):Nat→Option X0a:=fun p=>Go.Proofs.YtgmafgmjbaoomaaGreat.Bv.look p [(122,{kp:={hold:=[0,1,2],slots:=[7,8,9],boxes:=[],rows:=[{bx:=false,s:=7,i:=0,k:=1000899,e:=109,hot:=false}]},T:=(.pair X8V (.pair .bool (.int .i64))),I:=fun st y=>itI a0 a1 a2 y.1 y.2.1 y.2.2,μ:=fun st y=>itM a0 a1 a2 y.1 y.2.1 y.2.2})]
def Xj9.L(a0:Xhd):Nat→Option X0a:=fun p=>Go.Proofs.YtgmafgmjbaoomaaGreat.Bv.look p [(58,{kp:={hold:=[0,1],slots:=[4,5],boxes:=[2],rows:=[{bx:=false,s:=4,i:=0,k:=1000515,e:=25,hot:=false},{bx:=false,s:=0,i:=2,k:=6,e:=9,hot:=true}]},T:=(.pair (.list X8V) (.pair (.int .i64) Xfd)),I:=fun st y=>lyI a0 y.1 y.2.1 y.2.2.1 y.2.2.2.1 y.2.2.2.2,μ:=fun st y=>lyM a0 y.1 y.2.1 y.2.2.1 y.2.2.2.1 y.2.2.2.2})]
end Go.Proofs.YtgmafgmjbaoomaaGreat.B
