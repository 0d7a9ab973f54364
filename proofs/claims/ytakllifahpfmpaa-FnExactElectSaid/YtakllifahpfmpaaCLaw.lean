/- What laws say of sizes. -/
import Derived.Test.YtakllifahpfmpaaCTypes
set_option linter.unusedVariables false
set_option linter.unusedSimpArgs false
namespace Go.Proofs.Ytakllifahpfmpaa.B
open Go Go.Proofs.Ytakllifahpfmpaa.Bv
theorem Xh8{n:Nat}(h:¬fSz n 1048576<0):n≤1048576:=by
 by_cases hc:(1048576:Int)<(n:Int)
 · rw[XbW hc]at h;exact absurd (by decide) h
 · omega
end Go.Proofs.Ytakllifahpfmpaa.B
