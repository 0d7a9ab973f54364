/- What the laws of engines say of their argument. -/
import Derived.Test.YthkghdmpkdpnkaaGreatCLaw
import Derived.Test.YthkghdmpkdpnkaaGreatCTEngine
import Derived.Test.YthkghdmpkdpnkaaGreatCEngE
namespace Go.Proofs.YthkghdmpkdpnkaaGreat.B
set_option linter.unusedVariables false
set_option linter.unusedSimpArgs false
open Go Go.Proofs.YthkghdmpkdpnkaaGreat.Bv
theorem pEng_of {e : Eng} (h : WfD (.pair (.int .i64) (.pair (.list (.pair .str (.list (.pair (.int .i64) (.int .i64))))) (.list .str))) e) : pEng e := ⟨fun x hx => (h.2.1.2 x hx).1, fun f hf => h.2.2.2 f hf⟩
end Go.Proofs.YthkghdmpkdpnkaaGreat.B
