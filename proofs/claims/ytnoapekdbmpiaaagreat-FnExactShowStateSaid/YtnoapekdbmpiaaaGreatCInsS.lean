/- slices.Insert at impl.Series. -/
import Derived.Test.YtnoapekdbmpiaaaGreatCLib
import Derived.Test.YtnoapekdbmpiaaaGreatCIns
set_option linter.unusedVariables false
set_option linter.unusedSimpArgs false
namespace Go.Proofs.YtnoapekdbmpiaaaGreat.B
open Go Go.Proofs.YtnoapekdbmpiaaaGreat.Bv Go.Proofs Go.Shelf Go.RowKit Go.Lib
def rho_slices_Insert_impl_Series_impl_Series:Ren:=⟨fun n=>if n=22 then 145 else if n=29 then 182 else if n=30 then 183 else n,fun n=>if n=24 then 29 else if n=9 then 72 else n,fun n=>n⟩
set_option maxRecDepth 100000 in
theorem body_slices_Insert_impl_Series_impl_Series:Tryz.f145={Body2.n22 rho_slices_Insert_impl_Series_impl_Series with name:=Tryz.f145.name}:=by kernel_rfl
theorem lay_slices_Insert_impl_Series_impl_Series:InsLay Tryz.prog rho_slices_Insert_impl_Series_impl_Series where
 mixed:=rfl
 f22:=⟨Tryz.f145.name,by kernel_rfl,by rw [←body_slices_Insert_impl_Series_impl_Series];exact Tryz.func145⟩
 f29:=⟨Tryz.f182,Tryz.func182,by kernel_rfl,by kernel_rfl,by kernel_rfl,by kernel_rfl⟩
 t0:=by kernel_rfl
 a0:=fun w=>by kernel_rfl
 z0:=fun w=>by kernel_rfl
 v0:=fun w=>by kernel_rfl
 t3:=by kernel_rfl
 a3:=fun w=>by kernel_rfl
 z3:=fun w=>by kernel_rfl
 v3:=fun w=>by kernel_rfl
 t4:=by kernel_rfl
 a4:=fun w=>by kernel_rfl
 z4:=fun w=>by kernel_rfl
 v4:=fun w=>by kernel_rfl
 t24:=by kernel_rfl
 a24:=fun w=>by kernel_rfl
 z24:=fun w=>by kernel_rfl
 v24:=fun w=>by kernel_rfl
 z9:=fun w=>by kernel_rfl
 i9:=by
  obtain⟨i,z,h1,h2,h3,h4,h5⟩:=(tabOk 72 _ rfl).info
  have h6:z.cells.size=2:=by rw [←Array.length_toList,h5];rfl
  exact⟨i,z,h1,h4,h6.trans h2.symm,h2⟩
theorem by_slices_Insert_impl_Series_impl_Series:∀i,Tryz.prog.info? (rho_slices_Insert_impl_Series_impl_Series.t 9)=some i→i.bytes=40:=fun i hi=>by
 obtain⟨i',z,h1,h2,h3,h4,h5⟩:=(tabOk 72 _ rfl).info
 have h1':Tryz.prog.info? (rho_slices_Insert_impl_Series_impl_Series.t 9)=some i':=h1
 rw [h1'] at hi;cases hi;exact h3
def fIns_slices_Insert_impl_Series_impl_Series (l:List (U5q×U7q)) (i:Int) (v:List (U5q×U7q)):List (U5q×U7q):=l.take i.toNat++(v++l.drop i.toNat)
def pIns_slices_Insert_impl_Series_impl_Series (l:List (U5q×U7q)) (i:Int) (v:List (U5q×U7q)):Prop:=0≤i∧i≤l.length∧0<v.length∧l.length+v.length≤1099511627776
def c_slices_Insert_impl_Series_impl_Series:Con:={A:=(.pair T15q (.pair (.int .i64) T15q)),shA:=[.one,.one,.one],ownA:=[(0,72),(2,72)],R:=T15q,shR:=[(false,1)],fresh:=[(0,72)],pre:=fun _ a=>(pIns_slices_Insert_impl_Series_impl_Series a.1 a.2.1 a.2.2),f:=some fun _ a=>((fIns_slices_Insert_impl_Series_impl_Series a.1 a.2.1 a.2.2),((),()))}
theorem slices_Insert_impl_Series_impl_Series.ok:ConOk Tryz.prog 145 c_slices_Insert_impl_Series_impl_Series:=ins_ok (τ:=T3q) lay_slices_Insert_impl_Series_impl_Series rfl by_slices_Insert_impl_Series_impl_Series (by decide)
def slices_Insert_impl_Series_impl_Series.e:GE:=⟨145,c_slices_Insert_impl_Series_impl_Series,⟨_,Tryz.func145,rfl,rfl⟩,slices_Insert_impl_Series_impl_Series.ok⟩
end Go.Proofs.YtnoapekdbmpiaaaGreat.B
