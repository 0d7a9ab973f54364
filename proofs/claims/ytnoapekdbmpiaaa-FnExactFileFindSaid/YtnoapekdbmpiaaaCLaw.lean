/- What laws say of sizes. -/
import Derived.Test.YtnoapekdbmpiaaaCTypes
namespace Go.Proofs.Ytnoapekdbmpiaaa.B
set_option linter.unusedVariables false
set_option linter.unusedSimpArgs false
open Go Go.Proofs.Ytnoapekdbmpiaaa.Bv
end Go.Proofs.Ytnoapekdbmpiaaa.B
