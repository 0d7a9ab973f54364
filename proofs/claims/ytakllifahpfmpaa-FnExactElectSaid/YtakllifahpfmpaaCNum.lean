/- A number as bytes of seven bits. -/
import Derived.Test.YtakllifahpfmpaaCSer
set_option linter.unusedVariables false
set_option linter.unusedSimpArgs false
namespace Go.Proofs.Ytakllifahpfmpaa.B
open Go Go.Proofs.Ytakllifahpfmpaa.Bv
def vb(n:Nat):List Int:=if n<128 then [(n:Int)] else(((128+n % 128:Nat):Int))::vb (n / 128)
termination_by n
decreasing_by omega
end Go.Proofs.Ytakllifahpfmpaa.B
