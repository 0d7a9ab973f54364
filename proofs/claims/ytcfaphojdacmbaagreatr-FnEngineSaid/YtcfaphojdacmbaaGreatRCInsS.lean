/- slices.Insert at impl.Series. -/
import Derived.Test.YtcfaphojdacmbaaGreatRCLib
import Derived.Test.YtcfaphojdacmbaaGreatRCIns
set_option linter.unusedVariables false
set_option linter.unusedSimpArgs false
namespace Go.Proofs.YtcfaphojdacmbaaGreatR.B
open Go Go.Proofs.YtcfaphojdacmbaaGreatR.Bv Go.Proofs Go.Shelf Go.RowKit Go.Lib
def X0I:Ren:=⟨fun n=>if n=22 then 170 else if n=29 then 226 else if n=30 then 227 else n,fun n=>if n=24 then 25 else if n=9 then 83 else n,fun n=>n⟩
set_option maxRecDepth 100000 in
theorem X4x:Tryz.f170={Body2.n22 X0I with name:=Tryz.f170.name}:=by kernel_rfl
theorem X4B:Xed Tryz.prog X0I where
 mixed:=rfl
 f22:=⟨Tryz.f170.name,by kernel_rfl,by rw[←X4x];exact Tryz.func170⟩
 f29:=⟨Tryz.f226,Tryz.func226,by kernel_rfl,by kernel_rfl,by kernel_rfl,by kernel_rfl⟩
 t0:=by kernel_rfl
 a0:=fun w=>by kernel_rfl
 z0:=fun w=>by kernel_rfl
 v0:=fun w=>by kernel_rfl
 t3:=by kernel_rfl
 a3:=fun w=>by kernel_rfl
 z3:=fun w=>by kernel_rfl
 v3:=fun w=>by kernel_rfl
 t4:=by kernel_rfl
 a4:=fun w=>by kernel_rfl
 z4:=fun w=>by kernel_rfl
 v4:=fun w=>by kernel_rfl
 t24:=by kernel_rfl
 a24:=fun w=>by kernel_rfl
 z24:=fun w=>by kernel_rfl
 v24:=fun w=>by kernel_rfl
 z9:=fun w=>by kernel_rfl
 i9:=by
  obtain⟨i,z,h1,h2,h3,h4,h5⟩:=(XiH 83 _ rfl).info
  have h6:z.cells.size=2:=by rw[←Array.length_toList,h5];rfl
  exact⟨i,z,h1,h4,h6.trans h2.symm,h2⟩
theorem X4I:∀i,Tryz.prog.info? (X0I.t 9)=some i→i.bytes=40:=fun i hi=>by
 obtain⟨i',z,h1,h2,h3,h4,h5⟩:=(XiH 83 _ rfl).info
 have h1':Tryz.prog.info? (X0I.t 9)=some i':=h1
 rw[h1']at hi;cases hi;exact h3
def X1w(l:List U1q)(i:Int)(v:List U1q):List U1q:=l.take i.toNat++(v++l.drop i.toNat)
def X2M(l:List U1q)(i:Int)(v:List U1q):Prop:=0≤i∧i≤l.length∧0<v.length∧l.length+v.length≤1099511627776
def X3b:Con:={A:=(.pair T9q (.pair (.int .i64) T9q)),shA:=[.one,.one,.one],ownA:=[(0,83),(2,83)],R:=T9q,shR:=[(false,1)],fresh:=[(0,83)],pre:=fun _ a=>(X2M a.1 a.2.1 a.2.2),f:=some fun _ a=>((X1w a.1 a.2.1 a.2.2),((),()))}
theorem X26.ok:X0l Tryz.prog 170 X3b:=XoZ (τ:=T2q) X4B rfl X4I (by decide)
def X26.e:GE:=⟨170,X3b,⟨_,Tryz.func170,rfl,rfl⟩,X26.ok⟩
end Go.Proofs.YtcfaphojdacmbaaGreatR.B
