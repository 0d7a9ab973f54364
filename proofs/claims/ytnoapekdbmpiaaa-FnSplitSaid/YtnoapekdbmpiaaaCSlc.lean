/- Points sliced. -/
import Derived.Test.YtnoapekdbmpiaaaCMrgA
namespace Go.Proofs.Ytnoapekdbmpiaaa.B
set_option linter.unusedVariables false
set_option linter.unusedSimpArgs false
open Go Go.Proofs.Ytnoapekdbmpiaaa.Bv
def fDel (p:Pt) (lo hi:Int):Bool:=decide (p.1<lo)||decide (p.1≥hi)
def dDel (c:Int×Int) (p:Pt):Bool:=fDel p c.1 c.2
def ixdI (l:List Pt) (c:Int×Int) (i:Int):Prop:=0≤i∧i≤l.length∧∀j,j<i.toNat→dDel c (l.getD j (0,0))=false
def ixdM (l:List Pt) (c:Int×Int) (i:Int):Nat:=(l.length - i).toNat
structure dlI (l:List Pt) (c:Int×Int) (i j:Int) (s:List Pt):Prop where
 h1:0≤i
 h2:i<j
 h3:j≤l.length
 h4:s.length=l.length
 h5:s.take i.toNat=(l.take j.toNat).filter fun p=>!dDel c p
 h6:s.drop j.toNat=l.drop j.toNat
def dlM (l:List Pt) (c:Int×Int) (i j:Int) (s:List Pt):Nat:=(l.length - j).toNat
structure s8I (l:List Pt) (lo hi:Int) (i:Int) (out:List Pt):Prop where
 h1:0≤i
 h2:i≤l.length
 h3:out=fSlice (l.take i.toNat) lo hi
 h4:(out.length:Int)≤i
def s8M (l:List Pt) (lo hi:Int) (i:Int) (out:List Pt):Nat:=(l.length - i).toNat
def slices_IndexFunc_impl_Point_impl_Point.L (a0:(List (Int×Int))) (a1:(Int×Int)):Nat→Option LoopAnn:=fun p=>Go.Proofs.Ytnoapekdbmpiaaa.Bv.look p [(26,{kp:={hold:=[0,1,7],slots:=[8],boxes:=[],rows:=[]},T:=(.int .i64),I:=fun st y=>ixdI a0 a1 y,μ:=fun st y=>ixdM a0 a1 y})]
def slices_DeleteFunc_impl_Point_impl_Point.L (a0:(List (Int×Int))) (a1:(Int×Int)):Nat→Option LoopAnn:=fun p=>Go.Proofs.Ytnoapekdbmpiaaa.Bv.look p [(122,{kp:={hold:=[0,1],slots:=[5,6],boxes:=[],rows:=[{bx:=false,s:=0,i:=0,k:=1000003,e:=38,hot:=true}]},T:=(.pair (.int .i64) (.pair (.int .i64) (.list (.pair (.int .i64) (.int .i64))))),I:=fun st y=>dlI a0 a1 y.1 y.2.1 y.2.2,μ:=fun st y=>dlM a0 a1 y.1 y.2.1 y.2.2})]
def spec_l8Slice.L (a0:(List (Int×Int))) (a1:Int) (a2:Int):Nat→Option LoopAnn:=fun p=>Go.Proofs.Ytnoapekdbmpiaaa.Bv.look p [(58,{kp:={hold:=[0,1,2],slots:=[7,8],boxes:=[],rows:=[{bx:=false,s:=7,i:=0,k:=1000899,e:=38,hot:=true}]},T:=(.pair (.int .i64) (.list (.pair (.int .i64) (.int .i64)))),I:=fun st y=>s8I a0 a1 a2 y.1 y.2,μ:=fun st y=>s8M a0 a1 a2 y.1 y.2})]
end Go.Proofs.Ytnoapekdbmpiaaa.B
