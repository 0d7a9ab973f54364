/- A leader that calls. -/
import Derived.Test.YtakllifahpfmpaaCMov
import Derived.Test.YtakllifahpfmpaaCCoreC
set_option linter.unusedVariables false
set_option linter.unusedSimpArgs false
namespace Go.Proofs.Ytakllifahpfmpaa.B
open Go Go.Proofs.Ytakllifahpfmpaa.Bv
end Go.Proofs.Ytakllifahpfmpaa.B
