/- Points sliced;the place of a point. -/
import Derived.Test.YtnoapekdbmpiaaaCMrg
namespace Go.Proofs.Ytnoapekdbmpiaaa.B
set_option linter.unusedVariables false
set_option linter.unusedSimpArgs false
open Go Go.Proofs.Ytnoapekdbmpiaaa.Bv
structure bsI (l:List Pt) (t:Int) (u:Unit) (i j:Int):Prop where
 h1:0≤i
 h2:i≤j
 h3:j≤l.length
 h4:∀k,k<i.toNat→ltI (l.getD k (0,0)).1 t=true
 h5:∀k,j.toNat≤k→k<l.length→ltI (l.getD k (0,0)).1 t=false
def bsM (l:List Pt) (t:Int) (u:Unit) (i j:Int):Nat:=(j - i).toNat
def slices_BinarySearchFunc_impl_Point_impl_Point_int.L (a0:(List (Int×Int))) (a1:Int) (a2:Unit):Nat→Option LoopAnn:=fun p=>Go.Proofs.Ytnoapekdbmpiaaa.Bv.look p [(60,{kp:={hold:=[0,1,2,8],slots:=[9,10],boxes:=[],rows:=[]},T:=(.pair (.int .i64) (.int .i64)),I:=fun st y=>bsI a0 a1 a2 y.1 y.2,μ:=fun st y=>bsM a0 a1 a2 y.1 y.2})]
end Go.Proofs.Ytnoapekdbmpiaaa.B
