/- slices.Insert at elements of two cells:what it leaves. -/
import Derived.Test.YtnoapekdbmpiaaaWD
import Derived.Shelf.Spec.SlicesInsertGrow
namespace Go.Proofs.Ytnoapekdbmpiaaa.B
set_option linter.unusedVariables false
set_option linter.unusedSimpArgs false
open Go Go.Proofs.Ytnoapekdbmpiaaa.Bv Go.Proofs Go.Shelf Go.RowKit Go.Lib
variable {P:Program} {ρ:Ren}
structure Like (w w':World):Prop where
 heap:w'.heap=w.heap
 os:w'.os=w.os
 tape:w'.tape=w.tape
 output:w'.output=w.output
theorem Like.own {w w':World} (h:Like w w') {t:Ty} {v:Value} {l:List (El t)} {bs:List Nat} (ho:OwnL w t v l bs):OwnL w' t v l bs:=ho.frame fun g _=>by rw [h.heap]
end Go.Proofs.Ytnoapekdbmpiaaa.B
