/- Points merged. -/
import Derived.Test.YtnoapekdbmpiaaaCMrgA
import Derived.Test.YtnoapekdbmpiaaaCInsP
namespace Go.Proofs.Ytnoapekdbmpiaaa.B
set_option linter.unusedVariables false
set_option linter.unusedSimpArgs false
open Go Go.Proofs.Ytnoapekdbmpiaaa.Bv
structure mgI (a b:List Pt) (i:Int) (out:List Pt):Prop where
 h1:0≤i
 h2:i≤a.length
 h3:(a.drop i.toNat).foldl mIns out=a.foldl mIns b
 h4:PtsR out
 h5:(out.length:Int)≤b.length+i
def mgM (a b:List Pt) (i:Int) (out:List Pt):Nat:=(a.length - i).toNat
def impl_merged.L (a0:(List (Int×Int))) (a1:(List (Int×Int))):Nat→Option LoopAnn:=fun p=>Go.Proofs.Ytnoapekdbmpiaaa.Bv.look p [(58,{kp:={hold:=[12,13],slots:=[5,14],boxes:=[],rows:=[{bx:=false,s:=5,i:=0,k:=1000643,e:=38,hot:=true}]},T:=(.pair (.int .i64) (.list (.pair (.int .i64) (.int .i64)))),I:=fun st y=>mgI a0 a1 y.1 y.2,μ:=fun st y=>mgM a0 a1 y.1 y.2})]
end Go.Proofs.Ytnoapekdbmpiaaa.B
