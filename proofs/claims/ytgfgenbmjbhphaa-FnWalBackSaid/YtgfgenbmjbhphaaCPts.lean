/- Points that are right. -/
import Derived.Test.YtgfgenbmjbhphaaCMrg
namespace Go.Proofs.Ytgfgenbmjbhphaa.B
set_option linter.unusedVariables false
set_option linter.unusedSimpArgs false
open Go Go.Proofs.Ytgfgenbmjbhphaa.Bv
end Go.Proofs.Ytgfgenbmjbhphaa.B
