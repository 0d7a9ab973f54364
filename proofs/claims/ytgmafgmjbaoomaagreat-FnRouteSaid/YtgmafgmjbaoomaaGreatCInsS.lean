/- slices.Insert at impl.Series. -/
import Derived.Test.YtgmafgmjbaoomaaGreatCLib
import Derived.Test.YtgmafgmjbaoomaaGreatCIns
set_option linter.unusedVariables false
set_option linter.unusedSimpArgs false
namespace Go.Proofs.YtgmafgmjbaoomaaGreat.B
open Go Go.Proofs.YtgmafgmjbaoomaaGreat.Bv Go.Proofs Go.Shelf Go.RowKit Go.Lib
end Go.Proofs.YtgmafgmjbaoomaaGreat.B
