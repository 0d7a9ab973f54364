/- Series of points:are they right? -/
import Derived.Test.YtgfgenbmjbhphaaCCover
namespace Go.Proofs.Ytgfgenbmjbhphaa.B
set_option linter.unusedVariables false
set_option linter.unusedSimpArgs false
open Go Go.Proofs.Ytgfgenbmjbhphaa.Bv
abbrev Pt:=Int×Int
def allB (p:Nat→Bool) (n:Nat):Bool:=(List.range n).all p
def ptAt (l:List Pt) (i:Nat):Bool:=fIn (l.getD i (0,0)).1 0 1099511627776&&(fIn (l.getD i (0,0)).2 (-1099511627776) 1099511627776&&(decide (i=0)||decide ((l.getD (i - 1) (0,0)).1<(l.getD i (0,0)).1)))
def fPtsOk (l:List Pt):Bool:=decide (l.length≤60)&&allB (ptAt l) l.length
end Go.Proofs.Ytgfgenbmjbhphaa.B
