/- slices.Insert at impl.Point. -/
import Derived.Test.YtnoapekdbmpiaaaGreatCLib
import Derived.Test.YtnoapekdbmpiaaaGreatCIns
set_option linter.unusedVariables false
set_option linter.unusedSimpArgs false
namespace Go.Proofs.YtnoapekdbmpiaaaGreat.B
open Go Go.Proofs.YtnoapekdbmpiaaaGreat.Bv Go.Proofs Go.Shelf Go.RowKit Go.Lib
def rho_slices_Insert_impl_Point_impl_Point:Ren:=⟨fun n=>if n=22 then 181 else if n=29 then 204 else if n=30 then 205 else n,fun n=>if n=24 then 27 else if n=9 then 74 else n,fun n=>n⟩
set_option maxRecDepth 100000 in
theorem body_slices_Insert_impl_Point_impl_Point:Tryz.f181={Body2.n22 rho_slices_Insert_impl_Point_impl_Point with name:=Tryz.f181.name}:=by kernel_rfl
theorem lay_slices_Insert_impl_Point_impl_Point:InsLay Tryz.prog rho_slices_Insert_impl_Point_impl_Point where
 mixed:=rfl
 f22:=⟨Tryz.f181.name,by kernel_rfl,by rw [←body_slices_Insert_impl_Point_impl_Point];exact Tryz.func181⟩
 f29:=⟨Tryz.f204,Tryz.func204,by kernel_rfl,by kernel_rfl,by kernel_rfl,by kernel_rfl⟩
 t0:=by kernel_rfl
 a0:=fun w=>by kernel_rfl
 z0:=fun w=>by kernel_rfl
 v0:=fun w=>by kernel_rfl
 t3:=by kernel_rfl
 a3:=fun w=>by kernel_rfl
 z3:=fun w=>by kernel_rfl
 v3:=fun w=>by kernel_rfl
 t4:=by kernel_rfl
 a4:=fun w=>by kernel_rfl
 z4:=fun w=>by kernel_rfl
 v4:=fun w=>by kernel_rfl
 t24:=by kernel_rfl
 a24:=fun w=>by kernel_rfl
 z24:=fun w=>by kernel_rfl
 v24:=fun w=>by kernel_rfl
 z9:=fun w=>by kernel_rfl
 i9:=by
  obtain⟨i,z,h1,h2,h3,h4,h5⟩:=(tabOk 74 _ rfl).info
  have h6:z.cells.size=2:=by rw [←Array.length_toList,h5];rfl
  exact⟨i,z,h1,h4,h6.trans h2.symm,h2⟩
theorem by_slices_Insert_impl_Point_impl_Point:∀i,Tryz.prog.info? (rho_slices_Insert_impl_Point_impl_Point.t 9)=some i→i.bytes=16:=fun i hi=>by
 obtain⟨i',z,h1,h2,h3,h4,h5⟩:=(tabOk 74 _ rfl).info
 have h1':Tryz.prog.info? (rho_slices_Insert_impl_Point_impl_Point.t 9)=some i':=h1
 rw [h1'] at hi;cases hi;exact h3
def fIns_slices_Insert_impl_Point_impl_Point (l:List (Int×Int)) (i:Int) (v:List (Int×Int)):List (Int×Int):=l.take i.toNat++(v++l.drop i.toNat)
def pIns_slices_Insert_impl_Point_impl_Point (l:List (Int×Int)) (i:Int) (v:List (Int×Int)):Prop:=0≤i∧i≤l.length∧0<v.length∧l.length+v.length≤1099511627776
def c_slices_Insert_impl_Point_impl_Point:Con:={A:=(.pair T16q T19q),shA:=[.one,.one,.one],ownA:=[(0,74),(2,74)],R:=T16q,shR:=[(false,1)],fresh:=[(0,74)],pre:=fun _ a=>(pIns_slices_Insert_impl_Point_impl_Point a.1 a.2.1 a.2.2),f:=some fun _ a=>((fIns_slices_Insert_impl_Point_impl_Point a.1 a.2.1 a.2.2),((),()))}
theorem slices_Insert_impl_Point_impl_Point.ok:ConOk Tryz.prog 181 c_slices_Insert_impl_Point_impl_Point:=ins_ok (τ:=T0q) lay_slices_Insert_impl_Point_impl_Point rfl by_slices_Insert_impl_Point_impl_Point (by decide)
def slices_Insert_impl_Point_impl_Point.e:GE:=⟨181,c_slices_Insert_impl_Point_impl_Point,⟨_,Tryz.func181,rfl,rfl⟩,slices_Insert_impl_Point_impl_Point.ok⟩
end Go.Proofs.YtnoapekdbmpiaaaGreat.B
