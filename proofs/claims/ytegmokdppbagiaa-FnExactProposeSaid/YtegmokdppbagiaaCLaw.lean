/- What laws say of sizes. -/
import Derived.Test.YtegmokdppbagiaaCTypes
set_option linter.unusedVariables false
set_option linter.unusedSimpArgs false
namespace Go.Proofs.Ytegmokdppbagiaa.B
open Go Go.Proofs.Ytegmokdppbagiaa.Bv
theorem XgE{n:Nat}(h:¬fSz n 1048576<0):n≤1048576:=by
 by_cases hc:(1048576:Int)<(n:Int)
 · rw[XbP hc]at h;exact absurd (by decide) h
 · omega
end Go.Proofs.Ytegmokdppbagiaa.B
