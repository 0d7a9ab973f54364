/- A leader that calls. -/
import Derived.Test.YtegmokdppbagiaaCMov
import Derived.Test.YtegmokdppbagiaaCCoreC
set_option linter.unusedVariables false
set_option linter.unusedSimpArgs false
namespace Go.Proofs.Ytegmokdppbagiaa.B
open Go Go.Proofs.Ytegmokdppbagiaa.Bv
theorem XgL{c:X1Q}(h:X06 c=true)(hr:c.2.2.2.2.1=3):Xe1 c:=by
 have h1:=X5r h
 simp only[X06,Bool.and_eq_true]at h
 obtain⟨h0,h2⟩:=h
 unfold XaZ at h2
 rw[if_neg (by omega),if_neg (by omega),if_pos hr]at h2
 simp only[Bool.and_eq_true]at h2
 obtain⟨l1,l2,l3,l4⟩:=X8x.1 h2.2.2.2.2
 have hL:X05 c=c.2.2.2.2.2.2.1+(c.2.2.2.2.2.2.2.2.1.length:Int):=by unfold X05;exact w64 (by omega) (by omega)
 refine⟨by omega,by omega,by omega,l1,fun j hj=>?_⟩
 have:=l3 j hj
 simp only[Xh1,Bool.and_eq_true,decide_eq_true_eq]at this
 rw[hL,w64 (by omega) (by omega)]at this
 omega
end Go.Proofs.Ytegmokdppbagiaa.B
