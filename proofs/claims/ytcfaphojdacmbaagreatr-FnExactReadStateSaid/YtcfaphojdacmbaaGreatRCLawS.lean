/- What the laws of states say of their argument. -/
import Derived.Test.YtcfaphojdacmbaaGreatRCLaw
import Derived.Test.YtcfaphojdacmbaaGreatRCTState
import Derived.Test.YtcfaphojdacmbaaGreatRCSt
set_option linter.unusedVariables false
set_option linter.unusedSimpArgs false
namespace Go.Proofs.YtcfaphojdacmbaaGreatR.B
open Go Go.Proofs.YtcfaphojdacmbaaGreatR.Bv
end Go.Proofs.YtcfaphojdacmbaaGreatR.B
