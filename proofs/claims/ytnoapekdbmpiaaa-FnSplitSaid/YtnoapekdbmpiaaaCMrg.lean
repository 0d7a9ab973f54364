/- Lists that rise;points merged and sliced:what it comes to. -/
import Derived.Test.YtnoapekdbmpiaaaCSer
namespace Go.Proofs.Ytnoapekdbmpiaaa.B
set_option linter.unusedVariables false
set_option linter.unusedSimpArgs false
open Go Go.Proofs.Ytnoapekdbmpiaaa.Bv
def Asc {K α:Type} (lt:K→K→Bool) (key:α→K) (l:List α):Prop:=l.Pairwise fun x y=>lt (key x) (key y)=true
section
variable {K α:Type} {lt:K→K→Bool} {key:α→K}
def pos (lt:K→K→Bool) (key:α→K) (k:K) (l:List α):Nat:=(l.takeWhile fun x=>lt (key x) k).length
end
abbrev ltI (a b:Int):Bool:=decide (a<b)
abbrev AscP (l:List Pt):Prop:=Asc ltI Prod.fst l
def hasT (l:List Pt) (t:Int):Bool:=l.any fun x=>decide (x.1=t)
def mIns (o:List Pt) (p:Pt):List Pt:=if hasT o p.1 then o else o.take (pos ltI Prod.fst p.1 o)++(p::o.drop (pos ltI Prod.fst p.1 o))
def PtsR (l:List Pt):Prop:=AscP l∧∀x∈l,0≤x.1∧x.1≤1099511627776
theorem fPtsOk_R {l:List Pt} (h:fPtsOk l=true):PtsR l∧l.length≤60:=by
 simp only [fPtsOk,Bool.and_eq_true,decide_eq_true_eq,allB,List.all_eq_true,List.mem_range] at h
 obtain⟨h1,h2⟩:=h
 have hb:∀i,i<l.length→(0≤(l.getD i (0,0)).1∧(l.getD i (0,0)).1≤1099511627776)∧(i=0∨(l.getD (i - 1) (0,0)).1<(l.getD i (0,0)).1):=fun i hi=>by
  have:=h2 i hi
  simp only [ptAt,Bool.and_eq_true,Bool.or_eq_true,decide_eq_true_eq,fIn] at this
  exact⟨this.1,this.2.2⟩
 refine⟨⟨?_,fun x hx=>?_⟩,h1⟩
 · have hs:∀(d:Nat) (i:Nat),i+d+1<l.length→(l.getD i (0,0)).1<(l.getD (i+d+1) (0,0)).1:=by
    intro d
    induction d with
    | zero=>intro i hi;have:=(hb (i+1) hi).2;simp at this;exact this
    | succ d ih=>
      intro i hi
      have a:=ih i (by omega)
      have c:=(hb (i+(d+1)+1) hi).2
      simp only [Nat.add_sub_cancel] at c
      rcases c with c | c
      · omega
      · exact Int.lt_trans a c
   refine List.pairwise_iff_getElem.2 fun i j hi hj hij=>?_
   have:=hs (j - i - 1) i (by omega)
   rw [show i+(j - i - 1)+1=j by omega,getD_lt hi,getD_lt hj] at this
   simpa using this
 · obtain⟨i,hi,e⟩:=List.getElem_of_mem hx
   have:=(hb i hi).1
   rw [getD_lt hi,e] at this
   exact this
def fSlice (l:List Pt) (lo hi:Int):List Pt:=l.filter fun p=>decide (lo≤p.1)&&decide (p.1<hi)
end Go.Proofs.Ytnoapekdbmpiaaa.B
