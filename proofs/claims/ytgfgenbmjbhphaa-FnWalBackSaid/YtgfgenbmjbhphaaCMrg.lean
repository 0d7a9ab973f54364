/- Lists that rise;points merged and sliced:what it comes to. -/
import Derived.Test.YtgfgenbmjbhphaaCSer
namespace Go.Proofs.Ytgfgenbmjbhphaa.B
set_option linter.unusedVariables false
set_option linter.unusedSimpArgs false
open Go Go.Proofs.Ytgfgenbmjbhphaa.Bv
section
variable {K α:Type} {lt:K→K→Bool} {key:α→K}
def pos (lt:K→K→Bool) (key:α→K) (k:K) (l:List α):Nat:=(l.takeWhile fun x=>lt (key x) k).length
end
end Go.Proofs.Ytgfgenbmjbhphaa.B
