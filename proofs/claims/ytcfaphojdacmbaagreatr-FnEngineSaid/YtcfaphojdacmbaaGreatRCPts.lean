/- Points that are right. -/
import Derived.Test.YtcfaphojdacmbaaGreatRCMrg
set_option linter.unusedVariables false
set_option linter.unusedSimpArgs false
namespace Go.Proofs.YtcfaphojdacmbaaGreatR.B
open Go Go.Proofs.YtcfaphojdacmbaaGreatR.Bv
end Go.Proofs.YtcfaphojdacmbaaGreatR.B
