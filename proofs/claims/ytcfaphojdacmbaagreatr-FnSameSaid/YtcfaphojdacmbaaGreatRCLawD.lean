/- Engines that laws draw. -/
import Derived.Test.YtcfaphojdacmbaaGreatRCDEng
import Derived.Test.YtcfaphojdacmbaaGreatRCSameS
import Derived.Test.YtcfaphojdacmbaaGreatRCEngU
set_option linter.unusedVariables false
set_option linter.unusedSimpArgs false
namespace Go.Proofs.YtcfaphojdacmbaaGreatR.B
open Go Go.Proofs.YtcfaphojdacmbaaGreatR.Bv
theorem Xpd{e:Eng}(h:X1H e=true)(hp:X6f e)(hc:e.2.1=[]):fFl e=e:=by
 have G:=X6s h hp
 have:=G.le
 unfold fFl Xcz
 rw[if_pos hc,if_neg (by omega)]
theorem Xml(l:List Ser):X84 l l=true:=by unfold X84;simp
theorem Xrp(l:List Ser):(XeH l).length≤1:=by unfold XeH;split<;>simp
end Go.Proofs.YtcfaphojdacmbaaGreatR.B
