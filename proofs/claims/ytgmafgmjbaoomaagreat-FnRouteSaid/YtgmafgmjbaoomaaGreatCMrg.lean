/- Lists that rise;points merged and sliced:what it comes to. -/
import Derived.Test.YtgmafgmjbaoomaaGreatCSer
set_option linter.unusedVariables false
set_option linter.unusedSimpArgs false
namespace Go.Proofs.YtgmafgmjbaoomaaGreat.B
open Go Go.Proofs.YtgmafgmjbaoomaaGreat.Bv
structure SOrd {K:Type} (lt:K→K→Bool):Prop where
 irr:∀a,lt a a=false
 tr:∀a b c,lt a b=true→lt b c=true→lt a c=true
 tri:∀a b,lt a b=true∨a=b∨lt b a=true
def Asc{K α:Type}(lt:K→K→Bool)(key:α→K)(l:List α):Prop:=l.Pairwise fun x y=>lt (key x) (key y)=true
section
variable {K α:Type} {lt:K→K→Bool} {key:α→K}
def pos(lt:K→K→Bool)(key:α→K)(k:K)(l:List α):Nat:=(l.takeWhile fun x=>lt (key x) k).length
theorem XmL(k:K)(l:List α):pos lt key k l≤l.length:=by
 unfold pos
 induction l with
 | nil=>simp
 | cons x l ih=>rw[List.takeWhile_cons];split<;>simp;omega
theorem XgN(k:K)(d:α):∀(l:List α) (i:Nat),i<pos lt key k l→lt (key (l.getD i d)) k=true
 | [],i,h=>by simp[pos]at h
 | x::l,i,h=>by
   unfold pos at h
   rw[List.takeWhile_cons]at h
   split at h
   · rename_i hx
     cases i with
     | zero=>simpa using hx
     | succ i=>simp at h;simpa using XgN k d l i h
   · simp at h
theorem Xjv(k:K)(d:α):∀(l:List α),pos lt key k l<l.length→lt (key (l.getD (pos lt key k l) d)) k=false
 | [],h=>by simp at h
 | x::l,h=>by
   by_cases hx:lt (key x) k=true
   · have e:pos lt key k (x::l)=pos lt key k l+1:=by unfold pos;rw[List.takeWhile_cons,if_pos hx];rfl
     rw[e]at h ⊢
     simp at h
     simpa using Xjv k d l h
   · have e:pos lt key k (x::l)=0:=by unfold pos;rw[List.takeWhile_cons,if_neg hx];rfl
     rw[e];simpa using hx
theorem XoV{k:K}{l:List α}{i:Nat}(d:α)(hi:i≤l.length)(h1:∀j,j<i→lt (key (l.getD j d)) k=true)(h2:∀j,i≤j→j<l.length→lt (key (l.getD j d)) k=false):pos lt key k l=i:=by
 rcases Nat.lt_trichotomy (pos lt key k l) i with h | h | h
 · have a:=h1 _ h
   rw[Xjv (lt:=lt) (key:=key) k d l (by omega)]at a;cases a
 · exact h
 · have a:=XgN (lt:=lt) (key:=key) k d l i h
   have:=XmL (lt:=lt) (key:=key) k l
   rw[h2 i (Nat.le_refl _) (by omega)]at a;cases a
theorem X9w(d:α){l:List α}(h:Asc lt key l){i j:Nat}(hij:i<j)(hj:j<l.length):lt (key (l.getD i d)) (key (l.getD j d))=true:=by
 have:=List.pairwise_iff_getElem.1 h i j (by omega) hj hij
 rw[X1A (by omega),X1A hj];exact this
theorem XaM{k:K}{l:List α}{x:α}(h:x∈l.take (pos lt key k l)):lt (key x) k=true:=by
 obtain⟨i,hi,e⟩:=List.getElem_of_mem h
 rw[List.length_take]at hi
 have:=XgN (lt:=lt) (key:=key) k x l i (by omega)
 rw[X1A (by omega)]at this
 rw[List.getElem_take]at e
 rw[←e];exact this
theorem X8h(o:SOrd lt){k:K}{l:List α}(ha:Asc lt key l){x:α}(h:x∈l.drop (pos lt key k l)):lt (key x) k=false:=by
 obtain⟨i,hi,e⟩:=List.getElem_of_mem h
 rw[List.length_drop]at hi
 rw[List.getElem_drop]at e
 have hp:pos lt key k l<l.length:=by omega
 have h0:=Xjv (lt:=lt) (key:=key) k x l hp
 cases i with
 | zero=>rw[X1A hp]at h0;rw[←e];exact h0
 | succ i=>
   have h1:=X9w x ha (i:=pos lt key k l) (j:=pos lt key k l+(i+1)) (by omega) (by omega)
   rw[X1A (i:=pos lt key k l+(i+1)) (by omega)]at h1
   rw[e]at h1
   cases hx:lt (key x) k with
   | false=>rfl
   | true=>rw[o.tr _ _ _ h1 hx]at h0;cases h0
theorem Xl9{l:List α}(h:Asc lt key l)(n:Nat):Asc lt key (l.take n):=List.Pairwise.sublist (List.take_sublist n l) h
theorem XkP{l:List α}(h:Asc lt key l)(n:Nat):Asc lt key (l.drop n):=List.Pairwise.sublist (List.drop_sublist n l) h
theorem XnD(o:SOrd lt){l:List α}(ha:Asc lt key l){p:α}(hp:∀x∈l,key x≠key p):Asc lt key (l.take (pos lt key (key p) l)++(p::l.drop (pos lt key (key p) l))):=by
 refine List.pairwise_append.2 ⟨Xl9 ha _,List.pairwise_cons.2 ⟨fun x hx=>?_,XkP ha _⟩,fun x hx y hy=>?_⟩
 · have h1:=X8h o ha hx
   rcases o.tri (key x) (key p) with h | h | h
   · rw[h]at h1;cases h1
   · exact absurd h (hp x (List.mem_of_mem_drop hx))
   · exact h
 · have h1:=XaM hx
   rcases List.mem_cons.1 hy with e | hy
   · subst e;exact h1
   · have h2:=X8h o ha hy
     rcases o.tri (key y) (key p) with h | h | h
     · rw[h]at h2;cases h2
     · exact absurd h (hp y (List.mem_of_mem_drop hy))
     · exact o.tr _ _ _ h1 h
theorem XnI{l:List α}{n:Nat}{p x:α}:x∈l.take n++(p::l.drop n)↔x=p∨x∈l:=by
 conv=>rhs;rw[←List.take_append_drop n l]
 simp only[List.mem_append,List.mem_cons]
 constructor
 · rintro (h | h | h)
   · exact .inr (.inl h)
   · exact .inl h
   · exact .inr (.inr h)
 · rintro (h | h | h)
   · exact .inr (.inl h)
   · exact .inl h
   · exact .inr (.inr h)
end
theorem Xm8:SOrd (fun a b:Int=>decide (a<b)):=⟨fun a=>by simp,fun a b c h1 h2=>by simp at*;omega,fun a b=>by simp;omega⟩
theorem X5q(a b:UInt8)(x y:List UInt8):Op.bytesLess (a::x) (b::y)=(decide (a<b)||(decide (a=b)&&Op.bytesLess x y)):=by
 simp only[Op.bytesLess]
 rw[show(a==b)=decide (a=b) from by rw[Bool.eq_iff_iff];simp]
theorem Xp3:SOrd Op.bytesLess:=by
 refine⟨fun a=>?_,fun a=>?_,fun a=>?_⟩
 · induction a with
   | nil=>rfl
   | cons x a ih=>rw[X5q,ih];simp
 · induction a with
   | nil=>intro b c h1 h2;cases b with
     | nil=>simp[Op.bytesLess]at h1
     | cons y b=>cases c with
       | nil=>simp[Op.bytesLess]at h2
       | cons z c=>rfl
   | cons x a ih=>intro b c h1 h2;cases b with
     | nil=>simp[Op.bytesLess]at h1
     | cons y b=>cases c with
       | nil=>simp[Op.bytesLess]at h2
       | cons z c=>
         rw[X5q]at*
         simp only[Bool.or_eq_true,Bool.and_eq_true,decide_eq_true_eq]at*
         rcases h1 with h1 | ⟨rfl,h1⟩
         · rcases h2 with h2 | ⟨rfl,h2⟩
           · exact .inl (UInt8.lt_trans h1 h2)
           · exact .inl h1
         · rcases h2 with h2 | ⟨rfl,h2⟩
           · exact .inl h2
           · exact .inr ⟨rfl,ih _ _ h1 h2⟩
 · induction a with
   | nil=>intro b;cases b with
     | nil=>exact .inr (.inl rfl)
     | cons y b=>exact .inl rfl
   | cons x a ih=>intro b;cases b with
     | nil=>exact .inr (.inr rfl)
     | cons y b=>
       rw[X5q,X5q]
       simp only[Bool.or_eq_true,Bool.and_eq_true,decide_eq_true_eq]
       rcases Nat.lt_trichotomy x.toNat y.toNat with h | h | h
       · exact .inl (.inl (UInt8.lt_iff_toNat_lt.2 h))
       · have h:=UInt8.toNat_inj.1 h
         subst h
         rcases ih b with h | rfl | h
         · exact .inl (.inr ⟨rfl,h⟩)
         · exact .inr (.inl rfl)
         · exact .inr (.inr (.inr ⟨rfl,h⟩))
       · exact .inr (.inr (.inl (UInt8.lt_iff_toNat_lt.2 h)))
abbrev ltI(a b:Int):Bool:=decide (a<b)
abbrev AscP(l:List Pt):Prop:=Asc ltI Prod.fst l
def Xks(l:List Pt)(t:Int):Bool:=l.any fun x=>decide (x.1=t)
theorem XdX{l:List Pt}{t:Int}:Xks l t=true↔∃x∈l,x.1=t:=by simp[Xks]
def XiZ(o:List Pt)(p:Pt):List Pt:=if Xks o p.1 then o else o.take (pos ltI Prod.fst p.1 o)++(p::o.drop (pos ltI Prod.fst p.1 o))
theorem XlG{o:List Pt}(h:AscP o)(p:Pt):AscP (XiZ o p):=by
 unfold XiZ;split
 · exact h
 · rename_i hh
   refine XnD Xm8 h fun x hx e=>hh (XdX.2 ⟨x,hx,e⟩)
theorem X9C{o:List Pt}{p x:Pt}:x∈XiZ o p↔x∈o∨(x=p∧Xks o p.1=false):=by
 unfold XiZ;split
 · rename_i hh;simp[hh]
 · rename_i hh;rw[XnI];simp only[Bool.not_eq_true]at hh;simp[hh];exact Or.comm
theorem XfW(o:List Pt)(p:Pt):(XiZ o p).length≤o.length+1:=by
 unfold XiZ;split
 · omega
 · simp;omega
def XgK(p:Pt):List Pt→List Pt
 | []=>[p]
 | x::l=>if p.1≤x.1 then p::(x::l).filter (fun y=>!(y.1==p.1)) else x::XgK p l
theorem X9q(p:Pt):∀l:List Pt,(XgK p l).length≤l.length+1
 | []=>by simp[XgK]
 | y::l=>by
   rw[XgK];split
   · have:=List.length_filter_le (fun y:Pt=>!(y.1==p.1)) (y::l)
     rw[List.length_cons];omega
   · have:=X9q p l
     simp only[List.length_cons];omega
def X7W(a b:List Pt):List Pt:=b.foldl (fun o p=>XgK p o) a
theorem Xgn(a:List Pt)(p:Pt)(b:List Pt):X7W a (p::b)=X7W (XgK p a) b:=rfl
theorem X9B:∀(b a:List Pt),(X7W a b).length≤a.length+b.length
 | [],a=>by simp[X7W]
 | p::b,a=>by
   have h1:=X9B b (XgK p a)
   have h2:=X9q p a
   rw[Xgn,List.length_cons];omega
def Xlj(l:List Pt):Prop:=AscP l∧∀x∈l,0≤x.1∧x.1≤1099511627776
theorem XgW{l:List Pt}(h:X1G l=true):Xlj l∧l.length≤60:=by
 simp only[X1G,Bool.and_eq_true,decide_eq_true_eq,XcP,List.all_eq_true,List.mem_range]at h
 obtain⟨h1,h2⟩:=h
 have hb:∀i,i<l.length→(0≤(l.getD i (0,0)).1∧(l.getD i (0,0)).1≤1099511627776)∧(i=0∨(l.getD (i - 1) (0,0)).1<(l.getD i (0,0)).1):=fun i hi=>by
  have:=h2 i hi
  simp only[Xci,Bool.and_eq_true,Bool.or_eq_true,decide_eq_true_eq,fIn]at this
  exact⟨this.1,this.2.2⟩
 refine⟨⟨?_,fun x hx=>?_⟩,h1⟩
 · have hs:∀(d:Nat) (i:Nat),i+d+1<l.length→(l.getD i (0,0)).1<(l.getD (i+d+1) (0,0)).1:=by
    intro d
    induction d with
    | zero=>intro i hi;have:=(hb (i+1) hi).2;simp at this;exact this
    | succ d ih=>
      intro i hi
      have a:=ih i (by omega)
      have c:=(hb (i+(d+1)+1) hi).2
      simp only[Nat.add_sub_cancel]at c
      rcases c with c | c
      · omega
      · exact Int.lt_trans a c
   refine List.pairwise_iff_getElem.2 fun i j hi hj hij=>?_
   have:=hs (j - i - 1) i (by omega)
   rw[show i+(j - i - 1)+1=j by omega,X1A hi,X1A hj]at this
   simpa using this
 · obtain⟨i,hi,e⟩:=List.getElem_of_mem hx
   have:=(hb i hi).1
   rw[X1A hi,e]at this
   exact this
def X7U(l:List Pt)(lo hi:Int):List Pt:=l.filter fun p=>decide (lo≤p.1)&&decide (p.1<hi)
end Go.Proofs.YtgmafgmjbaoomaaGreat.B
