/- Values of the program's types:how large,the same,marked. -/
import Derived.Test.YtfnafjgehdeccaaCCover
namespace Go.Proofs.Ytfnafjgehdeccaa.B
set_option linter.unusedVariables false
set_option linter.unusedSimpArgs false
open Go Go.Proofs.Ytfnafjgehdeccaa.Bv
end Go.Proofs.Ytfnafjgehdeccaa.B
