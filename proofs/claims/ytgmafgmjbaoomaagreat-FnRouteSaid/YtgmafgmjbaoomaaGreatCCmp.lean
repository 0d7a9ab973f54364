/- Strings compared. -/
import Derived.Test.YtgmafgmjbaoomaaGreatCMrg
import Derived.WalkKit
import Derived.Lib.Walk
import Derived.Lib.Bytealg
import Derived.Laws.Externs
set_option linter.unusedVariables false
set_option linter.unusedSimpArgs false
namespace Go.Proofs.YtgmafgmjbaoomaaGreat.B
open Go Go.Proofs.YtgmafgmjbaoomaaGreat.Bv Go.Proofs Go.RowKit Go.Lib
end Go.Proofs.YtgmafgmjbaoomaaGreat.B
