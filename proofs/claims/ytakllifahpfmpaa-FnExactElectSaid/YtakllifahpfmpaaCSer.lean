/- Series of points:are they right? -/
import Derived.Test.YtakllifahpfmpaaCCover
set_option linter.unusedVariables false
set_option linter.unusedSimpArgs false
namespace Go.Proofs.Ytakllifahpfmpaa.B
open Go Go.Proofs.Ytakllifahpfmpaa.Bv
end Go.Proofs.Ytakllifahpfmpaa.B
