/- A number as bytes of seven bits. -/
import Derived.Test.YtegmokdppbagiaaCSer
set_option linter.unusedVariables false
set_option linter.unusedSimpArgs false
namespace Go.Proofs.Ytegmokdppbagiaa.B
open Go Go.Proofs.Ytegmokdppbagiaa.Bv
def vb(n:Nat):List Int:=if n<128 then [(n:Int)] else(((128+n % 128:Nat):Int))::vb (n / 128)
termination_by n
decreasing_by omega
def varI(n0 n:Int)(out:List Int):Prop:=0≤n∧n≤562949953421311∧out++vb n.toNat=vb n0.toNat
def varM(n0 n:Int)(out:List Int):Nat:=n.toNat
def impl_Var.L(a0:Int):Nat→Option X0i:=fun p=>Go.Proofs.Ytegmokdppbagiaa.Bv.look p [(60,{kp:={hold:=[],slots:=[0,3],boxes:=[],rows:=[{bx:=false,s:=3,i:=0,k:=1000387,e:=5,hot:=true}]},T:=(.pair (.int .i64) (.list (.int .u8))),I:=fun st y=>varI a0 y.1 y.2,μ:=fun st y=>varM a0 y.1 y.2})]
end Go.Proofs.Ytegmokdppbagiaa.B
