/- Lists that rise;points merged and sliced:what it comes to. -/
import Derived.Test.YtegmokdppbagiaaCSer
set_option linter.unusedVariables false
set_option linter.unusedSimpArgs false
namespace Go.Proofs.Ytegmokdppbagiaa.B
open Go Go.Proofs.Ytegmokdppbagiaa.Bv
structure SOrd {K:Type} (lt:K→K→Bool):Prop where
 irr:∀a,lt a a=false
 tr:∀a b c,lt a b=true→lt b c=true→lt a c=true
 tri:∀a b,lt a b=true∨a=b∨lt b a=true
def Asc{K α:Type}(lt:K→K→Bool)(key:α→K)(l:List α):Prop:=l.Pairwise fun x y=>lt (key x) (key y)=true
section
variable {K α:Type} {lt:K→K→Bool} {key:α→K}
def pos(lt:K→K→Bool)(key:α→K)(k:K)(l:List α):Nat:=(l.takeWhile fun x=>lt (key x) k).length
end
theorem X3A(a b:UInt8)(x y:List UInt8):Op.bytesLess (a::x) (b::y)=(decide (a<b)||(decide (a=b)&&Op.bytesLess x y)):=by
 simp only[Op.bytesLess]
 rw[show(a==b)=decide (a=b) from by rw[Bool.eq_iff_iff];simp]
theorem Xhk:SOrd Op.bytesLess:=by
 refine⟨fun a=>?_,fun a=>?_,fun a=>?_⟩
 · induction a with
   | nil=>rfl
   | cons x a ih=>rw[X3A,ih];simp
 · induction a with
   | nil=>intro b c h1 h2;cases b with
     | nil=>simp[Op.bytesLess]at h1
     | cons y b=>cases c with
       | nil=>simp[Op.bytesLess]at h2
       | cons z c=>rfl
   | cons x a ih=>intro b c h1 h2;cases b with
     | nil=>simp[Op.bytesLess]at h1
     | cons y b=>cases c with
       | nil=>simp[Op.bytesLess]at h2
       | cons z c=>
         rw[X3A]at*
         simp only[Bool.or_eq_true,Bool.and_eq_true,decide_eq_true_eq]at*
         rcases h1 with h1 | ⟨rfl,h1⟩
         · rcases h2 with h2 | ⟨rfl,h2⟩
           · exact .inl (UInt8.lt_trans h1 h2)
           · exact .inl h1
         · rcases h2 with h2 | ⟨rfl,h2⟩
           · exact .inl h2
           · exact .inr ⟨rfl,ih _ _ h1 h2⟩
 · induction a with
   | nil=>intro b;cases b with
     | nil=>exact .inr (.inl rfl)
     | cons y b=>exact .inl rfl
   | cons x a ih=>intro b;cases b with
     | nil=>exact .inr (.inr rfl)
     | cons y b=>
       rw[X3A,X3A]
       simp only[Bool.or_eq_true,Bool.and_eq_true,decide_eq_true_eq]
       rcases Nat.lt_trichotomy x.toNat y.toNat with h | h | h
       · exact .inl (.inl (UInt8.lt_iff_toNat_lt.2 h))
       · have h:=UInt8.toNat_inj.1 h
         subst h
         rcases ih b with h | rfl | h
         · exact .inl (.inr ⟨rfl,h⟩)
         · exact .inr (.inl rfl)
         · exact .inr (.inr (.inr ⟨rfl,h⟩))
       · exact .inr (.inr (.inl (UInt8.lt_iff_toNat_lt.2 h)))
abbrev ltI(a b:Int):Bool:=decide (a<b)
abbrev AscP(l:List Pt):Prop:=Asc ltI Prod.fst l
def PtsR(l:List Pt):Prop:=AscP l∧∀x∈l,0≤x.1∧x.1≤1099511627776
theorem XdS{l:List Pt}(h:X0N l=true):PtsR l∧l.length≤60:=by
 simp only[X0N,Bool.and_eq_true,decide_eq_true_eq,Xa7,List.all_eq_true,List.mem_range]at h
 obtain⟨h1,h2⟩:=h
 have hb:∀i,i<l.length→(0≤(l.getD i (0,0)).1∧(l.getD i (0,0)).1≤1099511627776)∧(i=0∨(l.getD (i - 1) (0,0)).1<(l.getD i (0,0)).1):=fun i hi=>by
  have:=h2 i hi
  simp only[X8R,Bool.and_eq_true,Bool.or_eq_true,decide_eq_true_eq,fIn]at this
  exact⟨this.1,this.2.2⟩
 refine⟨⟨?_,fun x hx=>?_⟩,h1⟩
 · have hs:∀(d:Nat) (i:Nat),i+d+1<l.length→(l.getD i (0,0)).1<(l.getD (i+d+1) (0,0)).1:=by
    intro d
    induction d with
    | zero=>intro i hi;have:=(hb (i+1) hi).2;simp at this;exact this
    | succ d ih=>
      intro i hi
      have a:=ih i (by omega)
      have c:=(hb (i+(d+1)+1) hi).2
      simp only[Nat.add_sub_cancel]at c
      rcases c with c | c
      · omega
      · exact Int.lt_trans a c
   refine List.pairwise_iff_getElem.2 fun i j hi hj hij=>?_
   have:=hs (j - i - 1) i (by omega)
   rw[show i+(j - i - 1)+1=j by omega,X1V hi,X1V hj]at this
   simpa using this
 · obtain⟨i,hi,e⟩:=List.getElem_of_mem hx
   have:=(hb i hi).1
   rw[X1V hi,e]at this
   exact this
end Go.Proofs.Ytegmokdppbagiaa.B
