/- Engines:flushed,packed. -/
import Derived.Test.YtgmafgmjbaoomaaGreatCEngF
set_option linter.unusedVariables false
set_option linter.unusedSimpArgs false
namespace Go.Proofs.YtgmafgmjbaoomaaGreat.B
open Go Go.Proofs.YtgmafgmjbaoomaaGreat.Bv
end Go.Proofs.YtgmafgmjbaoomaaGreat.B
