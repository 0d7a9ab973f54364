/- Points that are right. -/
import Derived.Test.YtfnafjgehdeccaaCMrg
namespace Go.Proofs.Ytfnafjgehdeccaa.B
set_option linter.unusedVariables false
set_option linter.unusedSimpArgs false
open Go Go.Proofs.Ytfnafjgehdeccaa.Bv
theorem ptsOk_mk {l:List Pt} (h:PtsR l) (h2:∀x∈l,-1099511627776≤x.2∧x.2≤1099511627776) (h3:l.length≤60):fPtsOk l=true:=by
 unfold fPtsOk
 rw [Bool.and_eq_true,decide_eq_true_eq]
 refine⟨h3,all_yes fun j hj=>?_⟩
 have m:=getD_mem (d:=((0,0):Pt)) hj
 have r:=h.2 _ m
 have s:=h2 _ m
 unfold ptAt fIn
 simp only [Bool.and_eq_true,Bool.or_eq_true,decide_eq_true_eq]
 refine⟨r,s,?_⟩
 by_cases e:j=0
 · exact .inl e
 · right
   have:=asc_getD (0,0) h.1 (i:=j - 1) (j:=j) (by omega) hj
   simpa [ltI] using this
end Go.Proofs.Ytfnafjgehdeccaa.B
