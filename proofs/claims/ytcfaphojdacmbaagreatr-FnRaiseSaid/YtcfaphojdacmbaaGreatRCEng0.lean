/- Series laid on each other:what it comes to. -/
import Derived.Test.YtcfaphojdacmbaaGreatRCMrg
import Derived.Test.YtcfaphojdacmbaaGreatRCTypes
set_option linter.unusedVariables false
set_option linter.unusedSimpArgs false
namespace Go.Proofs.YtcfaphojdacmbaaGreatR.B
open Go Go.Proofs.YtcfaphojdacmbaaGreatR.Bv
abbrev Xbn(l:List Ser):Prop:=Asc Op.bytesLess Prod.fst l
def X5E(l:List Ser)(k:List UInt8):Bool:=l.any fun x=>decide (x.1=k)
theorem X5q{l:List Ser}{k:List UInt8}:X5E l k=true↔∃x∈l,x.1=k:=by simp[X5E]
def X32(l:List Ser)(k:List UInt8):List Pt:=match l.find? fun x=>decide (x.1=k) with
 | some x=>x.2
 | none=>[]
theorem Xha(k:List UInt8):X32 [] k=[]:=rfl
theorem X2i(x:Ser)(l:List Ser)(k:List UInt8):X32 (x::l) k=if x.1=k then x.2 else X32 l k:=by
 unfold X32
 rw[List.find?_cons]
 by_cases h:x.1=k<;>simp[h]
theorem Xa5{l:List Ser}{k:List UInt8}(h:X5E l k=false):X32 l k=[]:=by
 induction l with
 | nil=>rfl
 | cons x l ih=>
   simp only[X5E,List.any_cons,Bool.or_eq_false_iff,decide_eq_false_iff_not]at h
   rw[X2i,if_neg h.1];exact ih h.2
theorem X8N{l:List Ser}(h:Xbn l){x:Ser}:x∈l↔X5E l x.1=true∧X32 l x.1=x.2:=by
 induction l with
 | nil=>simp[X5E]
 | cons y l ih=>
   obtain⟨h1,h2⟩:=List.pairwise_cons.1 h
   rw[List.mem_cons,ih h2,X2i,X5q,X5q]
   constructor
   · rintro (rfl | ⟨⟨z,hz,e⟩,h4⟩)
     · exact⟨⟨x,by simp,rfl⟩,by simp⟩
     · have:y.1≠x.1:=fun e2=>by have:=h1 z hz;rw[e,←e2,X4u.irr]at this;cases this
       exact⟨⟨z,by simp[hz],e⟩,by rw[if_neg this];exact h4⟩
   · rintro⟨⟨z,hz,e⟩,h4⟩
     by_cases hy:y.1=x.1
     · rw[if_pos hy]at h4
       exact .inl (Prod.ext hy.symm h4.symm)
     · rw[if_neg hy]at h4
       rcases List.mem_cons.1 hz with rfl | hz
       · exact absurd e hy
       · exact .inr ⟨⟨z,hz,e⟩,h4⟩
theorem XeB{l r:List Ser}(hl:Xbn l)(hr:Xbn r)(h1:∀k,X5E l k=X5E r k)(h2:∀k,X32 l k=X32 r k):l=r:=
 XbU X4u hl hr fun x=>by rw[X8N hl,X8N hr,h1,h2]
theorem Xmu{l:List Ser}{k:List UInt8}{p:Pt}(h:p∈X32 l k):∃x∈l,x.1=k∧p∈x.2:=by
 induction l with
 | nil=>cases h
 | cons x l ih=>
   rw[X2i]at h
   split at h
   · exact⟨x,by simp,‹_›,h⟩
   · obtain⟨y,hy,e⟩:=ih h;exact⟨y,by simp[hy],e⟩
theorem XaR{l:List Ser}(h:∀x∈l,Xas x.2)(k:List UInt8):Xas (X32 l k):=by
 induction l with
 | nil=>exact⟨List.Pairwise.nil,fun x hx=>by cases hx⟩
 | cons x l ih=>
   rw[X2i];split
   · exact h x (by simp)
   · exact ih fun y hy=>h y (by simp[hy])
theorem Xbq(a:List Pt):X2K a []=a:=rfl
theorem XhF{b:List Pt}(h:XcL b):X2K [] b=b:=XbU Xf5 (X4i List.Pairwise.nil) h fun x=>by rw[X1W h];simp
def XcX(l:List Ser)(s:Ser):List Ser:=if X5E l s.1 then l.set (pos Op.bytesLess Prod.fst s.1 l) ((l.getD (pos Op.bytesLess Prod.fst s.1 l) ([],[])).1,X2K (l.getD (pos Op.bytesLess Prod.fst s.1 l) ([],[])).2 s.2)
 else l.take (pos Op.bytesLess Prod.fst s.1 l)++(s::l.drop (pos Op.bytesLess Prod.fst s.1 l))
theorem XbY{l:List Ser}(ha:Xbn l){k:List UInt8}(h:X5E l k=true):pos Op.bytesLess Prod.fst k l<l.length∧(l.getD (pos Op.bytesLess Prod.fst k l) ([],[])).1=k:=by
 obtain⟨x,hx,e⟩:=X5q.1 h
 obtain⟨i,hi,e2⟩:=List.getElem_of_mem hx
 have hg:(l.getD i ([],[])).1=k:=by rw[X0P hi,e2];exact e
 have hp:pos Op.bytesLess Prod.fst k l=i:=by
  refine XlM ([],[]) (Nat.le_of_lt hi) (fun j hj=>?_) (fun j hj hjl=>?_)
  · have:=X4Y ([],[]) ha hj hi
    rw[hg]at this;exact this
  · rcases Nat.lt_or_eq_of_le hj with hj | rfl
    · have:=X4Y ([],[]) ha hj hjl
      rw[hg]at this
      cases hx2:Op.bytesLess (l.getD j ([],[])).1 k with
      | false=>rfl
      | true=>have:=X4u.tr _ _ _ this hx2;rw[X4u.irr]at this;cases this
    · rw[hg];exact X4u.irr _
 rw[hp];exact⟨hi,hg⟩
theorem Xi2{α:Type}(l:List α)(i:Nat)(d y:α)(h:i<l.length):l=l.take i++l.getD i d::l.drop (i+1)∧l.set i y=l.take i++y::l.drop (i+1):=by
 refine⟨?_,by rw[List.set_eq_take_append_cons_drop,if_pos h]⟩
 conv=>lhs;rw[←List.take_append_drop i l,X4y d h]
theorem X6h(x:Ser)(b:List Ser)(k:List UInt8):X5E (x::b) k=(decide (x.1=k)||X5E b k):=by simp[X5E]
theorem X7V(a b:List Ser)(k:List UInt8):X32 (a++b) k=if X5E a k then X32 a k else X32 b k:=by
 induction a with
 | nil=>simp[X5E]
 | cons x a ih=>
   rw[List.cons_append,X2i,X2i,ih,X6h]
   by_cases h:x.1=k
   · simp[h]
   · simp[h]
theorem XeE(a b:List Ser)(k:List UInt8):X5E (a++b) k=(X5E a k||X5E b k):=by simp[X5E]
theorem XoZ{a b:List Ser}{x y:Ser}(h:Xbn (a++x::b))(e:y.1=x.1):Xbn (a++y::b):=by
 simp only[Xbn,Asc,List.pairwise_append,List.pairwise_cons,List.mem_cons]at h ⊢
 obtain⟨h1,⟨h2,h3⟩,h4⟩:=h
 refine⟨h1,⟨fun z hz=>by rw[e];exact h2 z hz,h3⟩,fun p hp q hq=>?_⟩
 rcases hq with rfl | hq
 · rw[e];exact h4 p hp x (.inl rfl)
 · exact h4 p hp q (.inr hq)
theorem Xdr{l:List Ser}(ha:Xbn l){s:Ser}(hs:XcL s.2):Xbn (XcX l s)∧(∀k,X5E (XcX l s) k=(X5E l k||decide (s.1=k)))∧∀k,X32 (XcX l s) k=if s.1=k then X2K (X32 l k) s.2 else X32 l k:=by
 unfold XcX
 split
 · rename_i h
   obtain⟨h1,h2⟩:=XbY ha h
   generalize pos Op.bytesLess Prod.fst s.1 l=i at*
   obtain⟨e1,e2⟩:=Xi2 l i ([],[]) ((l.getD i ([],[])).1,X2K (l.getD i ([],[])).2 s.2) h1
   rw[e2]
   generalize l.getD i ([],[])=x at*
   generalize l.take i=a at*
   generalize l.drop (i+1)=b at*
   subst e1
   refine⟨XoZ ha rfl,fun k=>?_,fun k=>?_⟩
   · simp only[XeE,X6h,h2]
     cases X5E a k<;>cases decide (s.1=k)<;>cases X5E b k<;>rfl
   · rw[X7V,X7V,X2i,X2i]
     simp only[h2]
     by_cases hk:s.1=k
     · subst hk
       have hna:X5E a s.1=false:=by
        rw[Bool.eq_false_iff];intro hh
        obtain⟨z,hz,e⟩:=X5q.1 hh
        have:=(List.pairwise_append.1 ha).2.2 z hz x (by simp)
        rw[e,h2,X4u.irr]at this;cases this
       simp[hna]
     · simp[hk]
 · rename_i h
   have hno:X5E l s.1=false:=by simpa using h
   have hp:∀x∈l,x.1≠s.1:=fun x hx e=>by rw[X5q.2 ⟨x,hx,e⟩]at hno;cases hno
   refine⟨Xm8 X4u ha hp,fun k=>?_,fun k=>?_⟩
   · conv=>rhs;rw[←List.take_append_drop (pos Op.bytesLess Prod.fst s.1 l) l]
     simp only[XeE,X6h]
     cases X5E (l.take (pos Op.bytesLess Prod.fst s.1 l)) k<;>cases decide (s.1=k)<;>cases X5E (l.drop (pos Op.bytesLess Prod.fst s.1 l)) k<;>rfl
   · have e0:=X7V (l.take (pos Op.bytesLess Prod.fst s.1 l)) (l.drop (pos Op.bytesLess Prod.fst s.1 l)) k
     rw[List.take_append_drop]at e0
     rw[X7V,X2i,e0]
     by_cases hk:s.1=k
     · subst hk
       have hna:X5E (l.take (pos Op.bytesLess Prod.fst s.1 l)) s.1=false:=by
        rw[Bool.eq_false_iff];intro hh
        obtain⟨z,hz,e⟩:=X5q.1 hh
        exact hp z (List.mem_of_mem_take hz) e
       have hnb:X5E (l.drop (pos Op.bytesLess Prod.fst s.1 l)) s.1=false:=by
        rw[Bool.eq_false_iff];intro hh
        obtain⟨z,hz,e⟩:=X5q.1 hh
        exact hp z (List.mem_of_mem_drop hz) e
       simp[hna,Xa5 hnb,XhF hs]
     · simp[hk]
def X8T(l:List Ser):Prop:=Xbn l∧∀x∈l,Xas x.2
def cS(x:Ser):Int:=(x.2.length:Int)+1
theorem XoP(x:Ser):0≤cS x:=by unfold cS;omega
def tot(l:List Ser):Int:=cL cS l
theorem Xa0(l:List Ser):0≤tot l:=XmH XoP l
theorem X6X(l:List Ser):(l.length:Int)≤tot l:=by
 unfold tot
 induction l with
 | nil=>simp[cL]
 | cons x l ih=>have e:cS x=(x.2.length:Int)+1:=rfl;rw[X4t,List.length_cons];omega
theorem XaI{l:List Ser}{x:Ser}(h:x∈l):(x.2.length:Int)+1≤tot l:=by
 induction l with
 | nil=>cases h
 | cons y l ih=>
   have h1:=Xa0 l
   have h2:=XoP y
   unfold tot at*
   rw[X4t]
   rcases List.mem_cons.1 h with rfl | h
   · have e:cS x=(x.2.length:Int)+1:=rfl;omega
   · have:=ih h;omega
theorem Xd6{l:List Ser}{s x:Ser}(h:x∈XcX l s):x∈l∨x=s∨∃y∈l,x=(y.1,X2K y.2 s.2):=by
 unfold XcX at h
 split at h
 · rename_i hh
   rcases List.mem_or_eq_of_mem_set h with h | h
   · exact .inl h
   · by_cases hi:pos Op.bytesLess Prod.fst s.1 l<l.length
     · exact .inr (.inr ⟨_,X0S hi,h⟩)
     · rw[List.set_eq_of_length_le (by omega)]at*
       exact .inl ‹_›
 · rcases Xld.1 h with h | h
   · exact .inr (.inl h)
   · exact .inl h
theorem Xmm{l:List Ser}(h:X8T l){s:Ser}(hs:Xas s.2):X8T (XcX l s):=⟨(Xdr h.1 hs.1).1,fun x hx=>by
 rcases Xd6 hx with hx | rfl | ⟨y,hy,rfl⟩
 · exact h.2 x hx
 · exact hs
 · exact Xkx (h.2 y hy) hs⟩
theorem Xj9{l:List Ser}(ha:Xbn l)(s:Ser):tot (XcX l s)≤tot l+cS s:=by
 unfold XcX
 split
 · rename_i h
   obtain⟨h1,_⟩:=XbY ha h
   generalize pos Op.bytesLess Prod.fst s.1 l=i at*
   obtain⟨e1,e2⟩:=Xi2 l i ([],[]) ((l.getD i ([],[])).1,X2K (l.getD i ([],[])).2 s.2) h1
   rw[e2]
   have hl:=X99 s.2 (l.getD i ([],[])).2
   generalize l.getD i ([],[])=x at*
   generalize l.take i=a at*
   generalize l.drop (i+1)=b at*
   subst e1
   unfold tot
   simp only[X8G,X4t,cS];omega
 · have e0:tot l=cL cS (l.take (pos Op.bytesLess Prod.fst s.1 l))+cL cS (l.drop (pos Op.bytesLess Prod.fst s.1 l)):=by
    rw[←X8G,List.take_append_drop];rfl
   rw[e0]
   unfold tot
   simp only[X8G,X4t];omega
def X2O(l top:List Ser):List Ser:=top.foldl XcX l
theorem Xcc(l:List Ser)(s:Ser)(t:List Ser):X2O l (s::t)=X2O (XcX l s) t:=rfl
theorem X4C:∀{t l:List Ser},X8T l→(∀x∈t,Xas x.2)→X8T (X2O l t)
 | [],_,h,_=>h
 | s::t,l,h,ht=>X4C (t:=t) (Xmm h (ht s (by simp))) fun x hx=>ht x (by simp[hx])
theorem X9P:∀{t l:List Ser},X8T l→(∀x∈t,Xas x.2)→tot (X2O l t)≤tot l+tot t
 | [],_,_,_=>by simp[X2O,tot,cL]
 | s::t,l,h,ht=>by
   have h1:=X9P (t:=t) (Xmm h (ht s (by simp))) fun x hx=>ht x (by simp[hx])
   have h2:=Xj9 h.1 s
   have h3:tot (s::t)=cS s+tot t:=X4t ..
   rw[Xcc];omega
theorem X4A:∀{t l:List Ser},Xbn l→(∀x∈t,XcL x.2)→Xbn t→∀k,X32 (X2O l t) k=X2K (X32 l k) (X32 t k)
 | [],_,_,_,_,k=>rfl
 | s::t,l,h,ht,ha,k=>by
   obtain⟨h1,h2⟩:=List.pairwise_cons.1 ha
   obtain⟨a1,a2,a3⟩:=Xdr h (ht s (by simp))
   rw[Xcc,X4A a1 (fun x hx=>ht x (by simp[hx])) h2,a3,X2i]
   by_cases hk:s.1=k
   · subst hk
     have:X32 t s.1=[]:=Xa5 (by
      rw[Bool.eq_false_iff];intro hh
      obtain⟨z,hz,e⟩:=X5q.1 hh
      have:=h1 z hz
      rw[e,X4u.irr]at this;cases this)
     rw[if_pos rfl,if_pos rfl,this,Xbq]
   · rw[if_neg hk,if_neg hk]
def X0s(l:List Ser)(f:Int):List Ser:=(l.map fun x=>(x.1,X0Z x.2 f 1099511627777)).filter fun x=>!x.2.isEmpty
theorem Xc1(lo hi:Int):X0Z [] lo hi=[]:=rfl
theorem X1X{l:List Ser}(h:Xbn l)(f:Int):Xbn (X0s l f):=by
 refine List.Pairwise.sublist List.filter_sublist ?_
 exact List.pairwise_map.2 h
theorem X1m{l:List Ser}(h:Xbn l)(f:Int)(k:List UInt8):X32 (X0s l f) k=X0Z (X32 l k) f 1099511627777∧X5E (X0s l f) k=!(X0Z (X32 l k) f 1099511627777).isEmpty:=by
 induction l with
 | nil=>exact⟨rfl,rfl⟩
 | cons x l ih=>
   obtain⟨h1,h2⟩:=List.pairwise_cons.1 h
   obtain⟨i1,i2⟩:=ih h2
   have hx:x.1=k→X5E l k=false:=fun e=>by
    rw[Bool.eq_false_iff];intro hh
    obtain⟨z,hz,e2⟩:=X5q.1 hh
    have:=h1 z hz
    rw[e,e2,X4u.irr]at this;cases this
   have e0:X0s (x::l) f=if (X0Z x.2 f 1099511627777).isEmpty then X0s l f else(x.1,X0Z x.2 f 1099511627777)::X0s l f:=by
    unfold X0s
    rw[List.map_cons,List.filter_cons]
    cases (X0Z x.2 f 1099511627777).isEmpty<;>rfl
   rw[e0,X2i]
   by_cases hk:x.1=k
   · have hn:=Xa5 (hx hk)
     rw[if_pos hk]
     cases he:(X0Z x.2 f 1099511627777).isEmpty with
     | true=>
       rw[if_pos rfl,i1,i2,hn,Xc1]
       refine⟨(List.isEmpty_iff.1 he).symm,rfl⟩
     | false=>
       rw[if_neg (by decide),X2i,if_pos hk,X6h]
       exact⟨rfl,by simp[hk]⟩
   · rw[if_neg hk]
     cases he:(X0Z x.2 f 1099511627777).isEmpty with
     | true=>rw[if_pos rfl];exact⟨i1,i2⟩
     | false=>rw[if_neg (by decide),X2i,if_neg hk,X6h,i1,i2];simp[hk]
theorem Xae{l:List Ser}{f:Int}{x:Ser}(h:x∈X0s l f):∃y∈l,x=(y.1,X0Z y.2 f 1099511627777):=by
 obtain⟨y,hy,e⟩:=List.mem_map.1 (List.mem_filter.1 h).1
 exact⟨y,hy,e.symm⟩
theorem XmG{l:List Pt}(h:Xas l)(lo hi:Int):Xas (X0Z l lo hi):=⟨X6n h.1 lo hi,fun x hx=>h.2 x (X3B.1 hx).1⟩
theorem Xd5{l:List Ser}(h:X8T l)(f:Int):X8T (X0s l f):=⟨X1X h.1 f,fun x hx=>by
 obtain⟨y,hy,rfl⟩:=Xae hx
 exact XmG (h.2 y hy) _ _⟩
theorem Xbm(l:List Pt)(lo hi:Int):(X0Z l lo hi).length≤l.length:=List.length_filter_le ..
def X2s(ls:List (List Ser)):List Ser:=ls.foldl X2O []
def Xra(ls:List (List Ser))(k:List UInt8):List Pt:=ls.foldl (fun o l=>X2K o (X32 l k)) []
theorem XfQ:∀(ls:List (List Ser)) (l:List Ser),X8T l→(∀x∈ls,X8T x)→∀k,X32 (ls.foldl X2O l) k=ls.foldl (fun o l=>X2K o (X32 l k)) (X32 l k)
 | [],l,_,_,k=>rfl
 | t::ls,l,h,ht,k=>by
   have ht0:=ht t (by simp)
   rw[List.foldl_cons,List.foldl_cons,XfQ ls (X2O l t) (X4C h ht0.2) (fun x hx=>ht x (by simp[hx])),X4A h.1 (fun x hx=>(ht0.2 x hx).1) ht0.1]
theorem X83:∀(ls:List (List Ser)) (l:List Ser),X8T l→(∀x∈ls,X8T x)→X8T (ls.foldl X2O l)
 | [],l,h,_=>h
 | t::ls,l,h,ht=>X83 ls (X2O l t) (X4C h (ht t (by simp)).2) fun x hx=>ht x (by simp[hx])
theorem Xbk:X8T []:=⟨List.Pairwise.nil,fun x hx=>by cases hx⟩
theorem X1t{l:List Ser}(h:X0y l=true):X8T l∧tot l≤305∧l.length≤5∧∀x∈l,x.1.length≤8∧x.2≠[]∧X0x x.2=true:=by
 simp only[X0y,Bool.and_eq_true,decide_eq_true_eq,Xdv,List.all_eq_true,List.mem_range]at h
 obtain⟨h5,h⟩:=h
 have hx:∀i,i<l.length→(l.getD i ([],[])).1.length≤8∧(i=0∨Op.bytesLess (l.getD (i - 1) ([],[])).1 (l.getD i ([],[])).1=true)∧(l.getD i ([],[])).2≠[]∧X0x (l.getD i ([],[])).2=true:=fun i hi=>by
  have:=h i hi
  simp only[Xhn,Bool.and_eq_true,Bool.or_eq_true,decide_eq_true_eq,X7L,fIn]at this
  refine⟨by omega,this.2.1,fun e=>?_,this.2.2.2⟩
  rw[e]at this;simp at this
 have hm:∀x∈l,x.1.length≤8∧x.2≠[]∧X0x x.2=true:=fun x hxl=>by
  obtain⟨i,hi,e⟩:=List.getElem_of_mem hxl
  have:=hx i hi
  rw[X0P hi,e]at this
  exact⟨this.1,this.2.2⟩
 refine⟨⟨?_,fun x hxl=>(X7Z (hm x hxl).2.2).1⟩,?_,h5,hm⟩
 · have hs:∀(d:Nat) (i:Nat),i+d+1<l.length→Op.bytesLess (l.getD i ([],[])).1 (l.getD (i+d+1) ([],[])).1=true:=by
    intro d
    induction d with
    | zero=>intro i hi;have:=(hx (i+1) hi).2.1;simp at this;simpa using this
    | succ d ih=>
      intro i hi
      have a:=ih i (by omega)
      have c:=(hx (i+(d+1)+1) hi).2.1
      simp only[Nat.add_sub_cancel]at c
      rcases c with c | c
      · omega
      · exact X4u.tr _ _ _ a c
   refine List.pairwise_iff_getElem.2 fun i j hi hj hij=>?_
   have:=hs (j - i - 1) i (by omega)
   rw[show i+(j - i - 1)+1=j by omega,X0P hi,X0P hj]at this
   exact this
 · have:∀l:List Ser,(∀x∈l,X0x x.2=true)→tot l≤61*l.length:=fun l=>by
    induction l with
    | nil=>intro _;simp[tot,cL]
    | cons x l ih=>
      intro hh
      have h1:=ih fun y hy=>hh y (by simp[hy])
      have h2:=(X7Z (hh x (by simp))).2
      have h3:tot (x::l)=cS x+tot l:=X4t ..
      rw[h3,List.length_cons];simp only[cS];omega
   have:=this l fun x hxl=>(hm x hxl).2.2
   omega
end Go.Proofs.YtcfaphojdacmbaaGreatR.B
