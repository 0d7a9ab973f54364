/- Series of points:are they right? -/
import Derived.Test.YtgfgenbmjbhphaaCCover
namespace Go.Proofs.Ytgfgenbmjbhphaa.B
set_option linter.unusedVariables false
set_option linter.unusedSimpArgs false
open Go Go.Proofs.Ytgfgenbmjbhphaa.Bv
abbrev Pt:=Int×Int
def allB (p:Nat→Bool) (n:Nat):Bool:=(List.range n).all p
end Go.Proofs.Ytgfgenbmjbhphaa.B
