/- What laws say of sizes. -/
import Derived.Test.YtfnafjgehdeccaaCTypes
namespace Go.Proofs.Ytfnafjgehdeccaa.B
set_option linter.unusedVariables false
set_option linter.unusedSimpArgs false
open Go Go.Proofs.Ytfnafjgehdeccaa.Bv
end Go.Proofs.Ytfnafjgehdeccaa.B
