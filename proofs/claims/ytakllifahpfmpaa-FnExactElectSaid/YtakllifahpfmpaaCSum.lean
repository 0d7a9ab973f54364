/- Numbers of fixed width,sums,frames. -/
import Derived.Test.YtakllifahpfmpaaCNum
set_option linter.unusedVariables false
set_option linter.unusedSimpArgs false
namespace Go.Proofs.Ytakllifahpfmpaa.B
open Go Go.Proofs.Ytakllifahpfmpaa.Bv
theorem X2W{a l h:Int}:fIn a l h=true↔l≤a∧a≤h:=by simp[fIn]
theorem Xit{a l h:Int}:fIn a l h=false↔¬(l≤a∧a≤h):=by rw[←X2W];simp
end Go.Proofs.Ytakllifahpfmpaa.B
