/- Blocks:shown. -/
import Derived.Test.YtgfgenbmjbhphaaCBits
namespace Go.Proofs.Ytgfgenbmjbhphaa.B
set_option linter.unusedVariables false
set_option linter.unusedSimpArgs false
open Go Go.Proofs.Ytgfgenbmjbhphaa.Bv
def fShowBlock (l:List Pt):List UInt8:=if fPtsOk l=true∧l≠[] then fFrame (fVar l.length++fShowTimes (l.map (·.1))++fShowValues (l.map (·.2))) else []
end Go.Proofs.Ytgfgenbmjbhphaa.B
