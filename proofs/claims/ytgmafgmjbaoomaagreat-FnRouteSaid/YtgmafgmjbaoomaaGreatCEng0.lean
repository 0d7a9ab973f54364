/- Series laid on each other:what it comes to. -/
import Derived.Test.YtgmafgmjbaoomaaGreatCMrg
import Derived.Test.YtgmafgmjbaoomaaGreatCTypes
set_option linter.unusedVariables false
set_option linter.unusedSimpArgs false
namespace Go.Proofs.YtgmafgmjbaoomaaGreat.B
open Go Go.Proofs.YtgmafgmjbaoomaaGreat.Bv
abbrev AscS(l:List Ser):Prop:=Asc Op.bytesLess Prod.fst l
def Xop(l:List Ser)(k:List UInt8):Bool:=l.any fun x=>decide (x.1=k)
theorem Xln{l:List Ser}{k:List UInt8}:Xop l k=true↔∃x∈l,x.1=k:=by simp[Xop]
def Xar(l:List Ser)(k:List UInt8):List Pt:=match l.find? fun x=>decide (x.1=k) with
 | some x=>x.2
 | none=>[]
theorem Xkd(k:List UInt8):Xar [] k=[]:=rfl
theorem XaI(x:Ser)(l:List Ser)(k:List UInt8):Xar (x::l) k=if x.1=k then x.2 else Xar l k:=by
 unfold Xar
 rw[List.find?_cons]
 by_cases h:x.1=k<;>simp[h]
theorem Xl5{l:List Ser}{k:List UInt8}(h:Xop l k=false):Xar l k=[]:=by
 induction l with
 | nil=>rfl
 | cons x l ih=>
   simp only[Xop,List.any_cons,Bool.or_eq_false_iff,decide_eq_false_iff_not]at h
   rw[XaI,if_neg h.1];exact ih h.2
theorem Xk3(a:List Pt):X7W a []=a:=rfl
def lay1(l:List Ser)(s:Ser):List Ser:=if Xop l s.1 then l.set (pos Op.bytesLess Prod.fst s.1 l) ((l.getD (pos Op.bytesLess Prod.fst s.1 l) ([],[])).1,X7W (l.getD (pos Op.bytesLess Prod.fst s.1 l) ([],[])).2 s.2)
 else l.take (pos Op.bytesLess Prod.fst s.1 l)++(s::l.drop (pos Op.bytesLess Prod.fst s.1 l))
def Xp8(l:List Ser):Prop:=AscS l∧∀x∈l,Xlj x.2
def cS(x:Ser):Int:=(x.2.length:Int)+1
theorem Xmv(x:Ser):0≤cS x:=by unfold cS;omega
def tot(l:List Ser):Int:=cL cS l
theorem Xe2(l:List Ser):0≤tot l:=Xjy Xmv l
theorem Xkg(l:List Ser):(l.length:Int)≤tot l:=by
 unfold tot
 induction l with
 | nil=>simp[cL]
 | cons x l ih=>have e:cS x=(x.2.length:Int)+1:=rfl;rw[Xad,List.length_cons];omega
theorem XiM{l:List Ser}{x:Ser}(h:x∈l):(x.2.length:Int)+1≤tot l:=by
 induction l with
 | nil=>cases h
 | cons y l ih=>
   have h1:=Xe2 l
   have h2:=Xmv y
   unfold tot at*
   rw[Xad]
   rcases List.mem_cons.1 h with rfl | h
   · have e:cS x=(x.2.length:Int)+1:=rfl;omega
   · have:=ih h;omega
def Xlg(l top:List Ser):List Ser:=top.foldl lay1 l
def XjC(l:List Ser)(f:Int):List Ser:=(l.map fun x=>(x.1,X7U x.2 f 1099511627777)).filter fun x=>!x.2.isEmpty
def Xkk(ls:List (List Ser)):List Ser:=ls.foldl Xlg []
def hasL(ls:List (List Ser))(k:List UInt8):List Pt:=ls.foldl (fun o l=>X7W o (Xar l k)) []
theorem XgH{l:List Ser}(h:X8C l=true):Xp8 l∧tot l≤305∧l.length≤5∧∀x∈l,x.1.length≤8∧x.2≠[]∧X1G x.2=true:=by
 simp only[X8C,Bool.and_eq_true,decide_eq_true_eq,XcP,List.all_eq_true,List.mem_range]at h
 obtain⟨h5,h⟩:=h
 have hx:∀i,i<l.length→(l.getD i ([],[])).1.length≤8∧(i=0∨Op.bytesLess (l.getD (i - 1) ([],[])).1 (l.getD i ([],[])).1=true)∧(l.getD i ([],[])).2≠[]∧X1G (l.getD i ([],[])).2=true:=fun i hi=>by
  have:=h i hi
  simp only[srAt,Bool.and_eq_true,Bool.or_eq_true,decide_eq_true_eq,X7L,fIn]at this
  refine⟨by omega,this.2.1,fun e=>?_,this.2.2.2⟩
  rw[e]at this;simp at this
 have hm:∀x∈l,x.1.length≤8∧x.2≠[]∧X1G x.2=true:=fun x hxl=>by
  obtain⟨i,hi,e⟩:=List.getElem_of_mem hxl
  have:=hx i hi
  rw[X1A hi,e]at this
  exact⟨this.1,this.2.2⟩
 refine⟨⟨?_,fun x hxl=>(XgW (hm x hxl).2.2).1⟩,?_,h5,hm⟩
 · have hs:∀(d:Nat) (i:Nat),i+d+1<l.length→Op.bytesLess (l.getD i ([],[])).1 (l.getD (i+d+1) ([],[])).1=true:=by
    intro d
    induction d with
    | zero=>intro i hi;have:=(hx (i+1) hi).2.1;simp at this;simpa using this
    | succ d ih=>
      intro i hi
      have a:=ih i (by omega)
      have c:=(hx (i+(d+1)+1) hi).2.1
      simp only[Nat.add_sub_cancel]at c
      rcases c with c | c
      · omega
      · exact Xp3.tr _ _ _ a c
   refine List.pairwise_iff_getElem.2 fun i j hi hj hij=>?_
   have:=hs (j - i - 1) i (by omega)
   rw[show i+(j - i - 1)+1=j by omega,X1A hi,X1A hj]at this
   exact this
 · have:∀l:List Ser,(∀x∈l,X1G x.2=true)→tot l≤61*l.length:=fun l=>by
    induction l with
    | nil=>intro _;simp[tot,cL]
    | cons x l ih=>
      intro hh
      have h1:=ih fun y hy=>hh y (by simp[hy])
      have h2:=(XgW (hh x (by simp))).2
      have h3:tot (x::l)=cS x+tot l:=Xad ..
      rw[h3,List.length_cons];simp only[cS];omega
   have:=this l fun x hxl=>(hm x hxl).2.2
   omega
end Go.Proofs.YtgmafgmjbaoomaaGreat.B
