/- Lists that rise;points merged and sliced:what it comes to. -/
import Derived.Test.YtfnafjgehdeccaaCSer
namespace Go.Proofs.Ytfnafjgehdeccaa.B
set_option linter.unusedVariables false
set_option linter.unusedSimpArgs false
open Go Go.Proofs.Ytfnafjgehdeccaa.Bv
def Asc {K α:Type} (lt:K→K→Bool) (key:α→K) (l:List α):Prop:=l.Pairwise fun x y=>lt (key x) (key y)=true
section
variable {K α:Type} {lt:K→K→Bool} {key:α→K}
def pos (lt:K→K→Bool) (key:α→K) (k:K) (l:List α):Nat:=(l.takeWhile fun x=>lt (key x) k).length
theorem asc_getD (d:α) {l:List α} (h:Asc lt key l) {i j:Nat} (hij:i<j) (hj:j<l.length):lt (key (l.getD i d)) (key (l.getD j d))=true:=by
 have:=List.pairwise_iff_getElem.1 h i j (by omega) hj hij
 rw [getD_lt (by omega),getD_lt hj];exact this
end
abbrev ltI (a b:Int):Bool:=decide (a<b)
abbrev AscP (l:List Pt):Prop:=Asc ltI Prod.fst l
def PtsR (l:List Pt):Prop:=AscP l∧∀x∈l,0≤x.1∧x.1≤1099511627776
end Go.Proofs.Ytfnafjgehdeccaa.B
