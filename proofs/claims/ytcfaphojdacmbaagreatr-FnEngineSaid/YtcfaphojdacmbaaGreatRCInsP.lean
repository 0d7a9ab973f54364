/- slices.Insert at impl.Point. -/
import Derived.Test.YtcfaphojdacmbaaGreatRCLib
import Derived.Test.YtcfaphojdacmbaaGreatRCIns
set_option linter.unusedVariables false
set_option linter.unusedSimpArgs false
namespace Go.Proofs.YtcfaphojdacmbaaGreatR.B
open Go Go.Proofs.YtcfaphojdacmbaaGreatR.Bv Go.Proofs Go.Shelf Go.RowKit Go.Lib
def X0Q:Ren:=⟨fun n=>if n=22 then 225 else if n=29 then 252 else if n=30 then 253 else n,fun n=>if n=24 then 64 else if n=9 then 85 else n,fun n=>n⟩
set_option maxRecDepth 100000 in
theorem X4J:Tryz.f225={Body2.n22 X0Q with name:=Tryz.f225.name}:=by kernel_rfl
theorem X50:Xed Tryz.prog X0Q where
 mixed:=rfl
 f22:=⟨Tryz.f225.name,by kernel_rfl,by rw[←X4J];exact Tryz.func225⟩
 f29:=⟨Tryz.f252,Tryz.func252,by kernel_rfl,by kernel_rfl,by kernel_rfl,by kernel_rfl⟩
 t0:=by kernel_rfl
 a0:=fun w=>by kernel_rfl
 z0:=fun w=>by kernel_rfl
 v0:=fun w=>by kernel_rfl
 t3:=by kernel_rfl
 a3:=fun w=>by kernel_rfl
 z3:=fun w=>by kernel_rfl
 v3:=fun w=>by kernel_rfl
 t4:=by kernel_rfl
 a4:=fun w=>by kernel_rfl
 z4:=fun w=>by kernel_rfl
 v4:=fun w=>by kernel_rfl
 t24:=by kernel_rfl
 a24:=fun w=>by kernel_rfl
 z24:=fun w=>by kernel_rfl
 v24:=fun w=>by kernel_rfl
 z9:=fun w=>by kernel_rfl
 i9:=by
  obtain⟨i,z,h1,h2,h3,h4,h5⟩:=(XiH 85 _ rfl).info
  have h6:z.cells.size=2:=by rw[←Array.length_toList,h5];rfl
  exact⟨i,z,h1,h4,h6.trans h2.symm,h2⟩
theorem X54:∀i,Tryz.prog.info? (X0Q.t 9)=some i→i.bytes=16:=fun i hi=>by
 obtain⟨i',z,h1,h2,h3,h4,h5⟩:=(XiH 85 _ rfl).info
 have h1':Tryz.prog.info? (X0Q.t 9)=some i':=h1
 rw[h1']at hi;cases hi;exact h3
def X1O(l:List (Int×Int))(i:Int)(v:List (Int×Int)):List (Int×Int):=l.take i.toNat++(v++l.drop i.toNat)
def X34(l:List (Int×Int))(i:Int)(v:List (Int×Int)):Prop:=0≤i∧i≤l.length∧0<v.length∧l.length+v.length≤1099511627776
def X3o:Con:={A:=(.pair X9z Xlq),shA:=[.one,.one,.one],ownA:=[(0,85),(2,85)],R:=X9z,shR:=[(false,1)],fresh:=[(0,85)],pre:=fun _ a=>(X34 a.1 a.2.1 a.2.2),f:=some fun _ a=>((X1O a.1 a.2.1 a.2.2),((),()))}
theorem X2f.ok:X0l Tryz.prog 225 X3o:=XoZ (τ:=T0q) X50 rfl X54 (by decide)
def X2f.e:GE:=⟨225,X3o,⟨_,Tryz.func225,rfl,rfl⟩,X2f.ok⟩
end Go.Proofs.YtcfaphojdacmbaaGreatR.B
