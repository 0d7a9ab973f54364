/- Bits:numbers with a sign,times,values. -/
import Derived.Test.YtnoapekdbmpiaaaCSum
namespace Go.Proofs.Ytnoapekdbmpiaaa.B
set_option linter.unusedVariables false
set_option linter.unusedSimpArgs false
open Go Go.Proofs.Ytnoapekdbmpiaaa.Bv
def fZig (n:Int):Int:=if fIn n (-140737488355328) 140737488355328 then (if n<0 then -2*n - 1 else 2*n) else -1
def riseAt (l:List Int) (i:Nat):Bool:=fIn (l.getD i 0) 0 1099511627776&&(decide (i=0)||decide (l.getD (i - 1) 0<l.getD i 0))
def fRise (l:List Int):Bool:=fIn l.length 1 60&&allB (riseAt l) l.length
def valAt (l:List Int) (i:Nat):Bool:=fIn (l.getD i 0) (-1099511627776) 1099511627776
def fVals (l:List Int):Bool:=fIn l.length 1 60&&allB (valAt l) l.length
theorem allB_iff {p:Nat→Bool} {n:Nat}:allB p n=true↔∀j,j<n→p j=true:=by simp [allB]
def scI (p:List Int→Nat→Bool) (l:List Int) (i:Int):Prop:=0≤i∧i≤l.length∧l.length≤60∧1≤l.length∧∀j,j<i.toNat→p l j=true
def scM (l:List Int) (i:Int):Nat:=(l.length - i).toNat
def tmPiece (l:List Int) (i:Nat):List UInt8:=if i=0 then fVar (l.getD 0 0) else if i=1 then fVar (l.getD 1 0 - l.getD 0 0) else fVar (fZig (l.getD i 0 - l.getD (i - 1) 0 - (l.getD (i - 1) 0 - l.getD (i - 2) 0)))
def tmS (l:List Int):Nat→List UInt8
 | 0=>[]
 | i+1=>tmS l i++tmPiece l i
def vlPiece (l:List Int) (i:Nat):List UInt8:=fVar (fZig (l.getD i 0 - (if i=0 then 0 else l.getD (i - 1) 0)))
def vlS (l:List Int):Nat→List UInt8
 | 0=>[]
 | i+1=>vlS l i++vlPiece l i
def tmI (l:List Int) (s:List UInt8) (i:Int):Prop:=0≤i∧i≤l.length∧(∀j,j<i.toNat→riseAt l j=true)∧(1≤i→(0≤l.getD 0 0∧l.getD 0 0≤1099511627776)∧0≤l.getD (i.toNat - 1) 0∧l.getD (i.toNat - 1) 0≤1099511627776)∧(2≤i→0≤l.getD (i.toNat - 2) 0∧l.getD (i.toNat - 2) 0≤1099511627776)∧(s.length:Int)≤7*i∧s=tmS l i.toNat
def tmJ (l:List Int) (s:List UInt8) (i:Int):Prop:=1≤i∧fRise l=true∧(i<l.length→0≤l.getD i.toNat 0∧l.getD i.toNat 0≤1099511627776)∧tmI l s i
def tmM (l:List Int) (s:List UInt8) (i:Int):Nat:=(l.length - i).toNat
def vlI (l:List Int) (s:List UInt8) (last i:Int):Prop:=0≤i∧i≤l.length∧(∀j,j<i.toNat→valAt l j=true)∧(-1099511627776≤last∧last≤1099511627776)∧last=(if i.toNat=0 then 0 else l.getD (i.toNat - 1) 0)∧(s.length:Int)≤7*i∧s=vlS l i.toNat
def vlJ (l:List Int) (s:List UInt8) (last i:Int):Prop:=fVals l=true∧(i<l.length→-1099511627776≤l.getD i.toNat 0∧l.getD i.toNat 0≤1099511627776)∧vlI l s last i
def vlM (l:List Int) (s:List UInt8) (last i:Int):Nat:=(l.length - i).toNat
theorem n11 (n:Nat):n+1 - 1=n:=rfl
def spec_l7Rise.L (a0:(List Int)):Nat→Option LoopAnn:=fun p=>Go.Proofs.Ytnoapekdbmpiaaa.Bv.look p [(58,{kp:={hold:=[0],slots:=[3],boxes:=[],rows:=[]},T:=(.int .i64),I:=fun st y=>scI riseAt a0 y,μ:=fun st y=>scM a0 y})]
def spec_l7Values.L (a0:(List Int)):Nat→Option LoopAnn:=fun p=>Go.Proofs.Ytnoapekdbmpiaaa.Bv.look p [(58,{kp:={hold:=[0],slots:=[3],boxes:=[],rows:=[]},T:=(.int .i64),I:=fun st y=>scI valAt a0 y,μ:=fun st y=>scM a0 y})]
def spec_ShowTimes.L (a0:(List Int)):Nat→Option LoopAnn:=fun p=>Go.Proofs.Ytnoapekdbmpiaaa.Bv.look p [(122,{kp:={hold:=[0],slots:=[3,4],boxes:=[],rows:=[]},T:=(.pair .str (.int .i64)),I:=fun st y=>tmJ a0 y.1 y.2,μ:=fun st y=>tmM a0 y.1 y.2})]
def impl_ShowTimes.L (a0:(List Int)):Nat→Option LoopAnn:=fun p=>Go.Proofs.Ytnoapekdbmpiaaa.Bv.look p [(58,{kp:={hold:=[0,6,7],slots:=[3,8],boxes:=[],rows:=[]},T:=(.pair .str (.int .i64)),I:=fun st y=>tmI a0 y.1 y.2,μ:=fun st y=>tmM a0 y.1 y.2})]
def spec_ShowValues.L (a0:(List Int)):Nat→Option LoopAnn:=fun p=>Go.Proofs.Ytnoapekdbmpiaaa.Bv.look p [(250,{kp:={hold:=[0],slots:=[3,4,5],boxes:=[],rows:=[]},T:=(.pair .str (.pair (.int .i64) (.int .i64))),I:=fun st y=>vlJ a0 y.1 y.2.1 y.2.2,μ:=fun st y=>vlM a0 y.1 y.2.1 y.2.2})]
def impl_ShowValues.L (a0:(List Int)):Nat→Option LoopAnn:=fun p=>Go.Proofs.Ytnoapekdbmpiaaa.Bv.look p [(122,{kp:={hold:=[0,7,8],slots:=[3,4,9],boxes:=[],rows:=[]},T:=(.pair .str (.pair (.int .i64) (.int .i64))),I:=fun st y=>vlI a0 y.1 y.2.1 y.2.2,μ:=fun st y=>vlM a0 y.1 y.2.1 y.2.2})]
end Go.Proofs.Ytnoapekdbmpiaaa.B
