/- Points that are right. -/
import Derived.Test.YtegmokdppbagiaaCMrg
set_option linter.unusedVariables false
set_option linter.unusedSimpArgs false
namespace Go.Proofs.Ytegmokdppbagiaa.B
open Go Go.Proofs.Ytegmokdppbagiaa.Bv
end Go.Proofs.Ytegmokdppbagiaa.B
