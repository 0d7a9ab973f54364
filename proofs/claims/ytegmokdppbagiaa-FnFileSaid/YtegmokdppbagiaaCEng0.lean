/- Series laid on each other:what it comes to. -/
import Derived.Test.YtegmokdppbagiaaCMrg
import Derived.Test.YtegmokdppbagiaaCTypes
set_option linter.unusedVariables false
set_option linter.unusedSimpArgs false
namespace Go.Proofs.Ytegmokdppbagiaa.B
open Go Go.Proofs.Ytegmokdppbagiaa.Bv
abbrev AscS(l:List Ser):Prop:=Asc Op.bytesLess Prod.fst l
def SerR(l:List Ser):Prop:=AscS l∧∀x∈l,PtsR x.2
def cS(x:Ser):Int:=(x.2.length:Int)+1
def tot(l:List Ser):Int:=cL cS l
theorem Xdy{l:List Ser}(h:X0L l=true):SerR l∧tot l≤305∧l.length≤5∧∀x∈l,x.1.length≤8∧x.2≠[]∧X0N x.2=true:=by
 simp only[X0L,Bool.and_eq_true,decide_eq_true_eq,Xa7,List.all_eq_true,List.mem_range]at h
 obtain⟨h5,h⟩:=h
 have hx:∀i,i<l.length→(l.getD i ([],[])).1.length≤8∧(i=0∨Op.bytesLess (l.getD (i - 1) ([],[])).1 (l.getD i ([],[])).1=true)∧(l.getD i ([],[])).2≠[]∧X0N (l.getD i ([],[])).2=true:=fun i hi=>by
  have:=h i hi
  simp only[Xcm,Bool.and_eq_true,Bool.or_eq_true,decide_eq_true_eq,X7V,fIn]at this
  refine⟨by omega,this.2.1,fun e=>?_,this.2.2.2⟩
  rw[e]at this;simp at this
 have hm:∀x∈l,x.1.length≤8∧x.2≠[]∧X0N x.2=true:=fun x hxl=>by
  obtain⟨i,hi,e⟩:=List.getElem_of_mem hxl
  have:=hx i hi
  rw[X1V hi,e]at this
  exact⟨this.1,this.2.2⟩
 refine⟨⟨?_,fun x hxl=>(XdS (hm x hxl).2.2).1⟩,?_,h5,hm⟩
 · have hs:∀(d:Nat) (i:Nat),i+d+1<l.length→Op.bytesLess (l.getD i ([],[])).1 (l.getD (i+d+1) ([],[])).1=true:=by
    intro d
    induction d with
    | zero=>intro i hi;have:=(hx (i+1) hi).2.1;simp at this;simpa using this
    | succ d ih=>
      intro i hi
      have a:=ih i (by omega)
      have c:=(hx (i+(d+1)+1) hi).2.1
      simp only[Nat.add_sub_cancel]at c
      rcases c with c | c
      · omega
      · exact Xhk.tr _ _ _ a c
   refine List.pairwise_iff_getElem.2 fun i j hi hj hij=>?_
   have:=hs (j - i - 1) i (by omega)
   rw[show i+(j - i - 1)+1=j by omega,X1V hi,X1V hj]at this
   exact this
 · have:∀l:List Ser,(∀x∈l,X0N x.2=true)→tot l≤61*l.length:=fun l=>by
    induction l with
    | nil=>intro _;simp[tot,cL]
    | cons x l ih=>
      intro hh
      have h1:=ih fun y hy=>hh y (by simp[hy])
      have h2:=(XdS (hh x (by simp))).2
      have h3:tot (x::l)=cS x+tot l:=Xin ..
      rw[h3,List.length_cons];simp only[cS];omega
   have:=this l fun x hxl=>(hm x hxl).2.2
   omega
end Go.Proofs.Ytegmokdppbagiaa.B
