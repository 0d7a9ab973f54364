/- Blocks:shown. -/
import Derived.Test.YtnoapekdbmpiaaaCBits
namespace Go.Proofs.Ytnoapekdbmpiaaa.B
set_option linter.unusedVariables false
set_option linter.unusedSimpArgs false
open Go Go.Proofs.Ytnoapekdbmpiaaa.Bv
theorem fPtsOk_len {l:List Pt} (h:fPtsOk l=true):l.length≤60:=by
 simp only [fPtsOk,Bool.and_eq_true,decide_eq_true_eq] at h;exact h.1
def sbI (l:List Pt) (i:Int) (t v:List Int):Prop:=0≤i∧i≤l.length∧l.length≤60∧l≠[]∧fPtsOk l=true∧(t.length:Int)=i∧(v.length:Int)=i∧t=(l.take i.toNat).map (·.1)∧v=(l.take i.toNat).map (·.2)
def sbM (l:List Pt) (i:Int) (t v:List Int):Nat:=(l.length - i).toNat
def spec_ShowBlock.L (a0:(List (Int×Int))):Nat→Option LoopAnn:=fun p=>Go.Proofs.Ytnoapekdbmpiaaa.Bv.look p [(250,{kp:={hold:=[0],slots:=[3,4,5],boxes:=[],rows:=[{bx:=false,s:=3,i:=0,k:=1000387,e:=3,hot:=true},{bx:=false,s:=4,i:=0,k:=1000515,e:=3,hot:=true}]},T:=(.pair (.int .i64) (.pair (.list (.int .i64)) (.list (.int .i64)))),I:=fun st y=>sbI a0 y.1 y.2.1 y.2.2,μ:=fun st y=>sbM a0 y.1 y.2.1 y.2.2})]
def impl_ShowBlock.L (a0:(List (Int×Int))):Nat→Option LoopAnn:=fun p=>Go.Proofs.Ytnoapekdbmpiaaa.Bv.look p [(122,{kp:={hold:=[0,17,18],slots:=[3,4,19],boxes:=[],rows:=[{bx:=false,s:=3,i:=0,k:=1000387,e:=3,hot:=true},{bx:=false,s:=4,i:=0,k:=1000515,e:=3,hot:=true}]},T:=(.pair (.int .i64) (.pair (.list (.int .i64)) (.list (.int .i64)))),I:=fun st y=>sbI a0 y.1 y.2.1 y.2.2,μ:=fun st y=>sbM a0 y.1 y.2.1 y.2.2})]
end Go.Proofs.Ytnoapekdbmpiaaa.B
