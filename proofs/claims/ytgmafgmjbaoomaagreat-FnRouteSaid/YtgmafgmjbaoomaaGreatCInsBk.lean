/- slices.Insert at impl.Bucket. -/
import Derived.Test.YtgmafgmjbaoomaaGreatCLib
import Derived.Test.YtgmafgmjbaoomaaGreatCIns
set_option linter.unusedVariables false
set_option linter.unusedSimpArgs false
namespace Go.Proofs.YtgmafgmjbaoomaaGreat.B
open Go Go.Proofs.YtgmafgmjbaoomaaGreat.Bv Go.Proofs Go.Shelf Go.RowKit Go.Lib
def X0C:Ren:=⟨fun n=>if n=22 then 147 else if n=29 then 184 else if n=30 then 185 else n,fun n=>if n=24 then 24 else if n=9 then 43 else n,fun n=>n⟩
set_option maxRecDepth 100000 in
theorem X3u:Tryz.f147={Body2.n22 X0C with name:=Tryz.f147.name}:=by kernel_rfl
theorem X3w:Xdu Tryz.prog X0C where
 mixed:=rfl
 f22:=⟨Tryz.f147.name,by kernel_rfl,by rw[←X3u];exact Tryz.func147⟩
 f29:=⟨Tryz.f184,Tryz.func184,by kernel_rfl,by kernel_rfl,by kernel_rfl,by kernel_rfl⟩
 t0:=by kernel_rfl
 a0:=fun w=>by kernel_rfl
 z0:=fun w=>by kernel_rfl
 v0:=fun w=>by kernel_rfl
 t3:=by kernel_rfl
 a3:=fun w=>by kernel_rfl
 z3:=fun w=>by kernel_rfl
 v3:=fun w=>by kernel_rfl
 t4:=by kernel_rfl
 a4:=fun w=>by kernel_rfl
 z4:=fun w=>by kernel_rfl
 v4:=fun w=>by kernel_rfl
 t24:=by kernel_rfl
 a24:=fun w=>by kernel_rfl
 z24:=fun w=>by kernel_rfl
 v24:=fun w=>by kernel_rfl
 z9:=fun w=>by kernel_rfl
 i9:=by
  obtain⟨i,z,h1,h2,h3,h4,h5⟩:=(Xm2 43 _ rfl).info
  have h6:z.cells.size=2:=by rw[←Array.length_toList,h5];rfl
  exact⟨i,z,h1,h4,h6.trans h2.symm,h2⟩
theorem X3B:∀i,Tryz.prog.info? (X0C.t 9)=some i→i.bytes=16:=fun i hi=>by
 obtain⟨i',z,h1,h2,h3,h4,h5⟩:=(Xm2 43 _ rfl).info
 have h1':Tryz.prog.info? (X0C.t 9)=some i':=h1
 rw[h1']at hi;cases hi;exact h3
def X16(l:List (Int×Int))(i:Int)(v:List (Int×Int)):List (Int×Int):=l.take i.toNat++(v++l.drop i.toNat)
def X27(l:List (Int×Int))(i:Int)(v:List (Int×Int)):Prop:=0≤i∧i≤l.length∧0<v.length∧l.length+v.length≤1099511627776
def X2r:Con:={A:=(.pair X60 (.pair (.int .i64) X60)),shA:=[.one,.one,.one],ownA:=[(0,43),(2,43)],R:=X60,shR:=[(false,1)],fresh:=[(0,43)],pre:=fun _ a=>(X27 a.1 a.2.1 a.2.2),f:=some fun _ a=>((X16 a.1 a.2.1 a.2.2),((),()))}
theorem X1u.ok:X0o Tryz.prog 147 X2r:=Xpc (τ:=T0q) X3w rfl X3B (by decide)
def X1u.e:GE:=⟨147,X2r,⟨_,Tryz.func147,rfl,rfl⟩,X1u.ok⟩
end Go.Proofs.YtgmafgmjbaoomaaGreat.B
