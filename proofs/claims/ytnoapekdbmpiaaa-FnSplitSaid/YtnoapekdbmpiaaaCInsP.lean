/- slices.Insert at impl.Point. -/
import Derived.Test.YtnoapekdbmpiaaaCLib
import Derived.Test.YtnoapekdbmpiaaaCIns
namespace Go.Proofs.Ytnoapekdbmpiaaa.B
set_option linter.unusedVariables false
set_option linter.unusedSimpArgs false
open Go Go.Proofs.Ytnoapekdbmpiaaa.Bv Go.Proofs Go.Shelf Go.RowKit Go.Lib
end Go.Proofs.Ytnoapekdbmpiaaa.B
