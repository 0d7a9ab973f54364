/- What laws say of sizes. -/
import Derived.Test.YtnoapekdbmpiaaaGreatCTypes
set_option linter.unusedVariables false
set_option linter.unusedSimpArgs false
namespace Go.Proofs.YtnoapekdbmpiaaaGreat.B
open Go Go.Proofs.YtnoapekdbmpiaaaGreat.Bv
theorem sz_pos2 {n:Nat} (h:¬fSz n 1048576<0):n≤1048576:=by
 by_cases hc:(1048576:Int)<(n:Int)
 · rw [fSz_no hc] at h;exact absurd (by decide) h
 · omega
end Go.Proofs.YtnoapekdbmpiaaaGreat.B
