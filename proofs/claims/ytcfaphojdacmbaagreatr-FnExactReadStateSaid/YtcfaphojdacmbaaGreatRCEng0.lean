/- Series laid on each other:what it comes to. -/
import Derived.Test.YtcfaphojdacmbaaGreatRCMrg
import Derived.Test.YtcfaphojdacmbaaGreatRCTypes
set_option linter.unusedVariables false
set_option linter.unusedSimpArgs false
namespace Go.Proofs.YtcfaphojdacmbaaGreatR.B
open Go Go.Proofs.YtcfaphojdacmbaaGreatR.Bv
abbrev XfW(l:List Ser):Prop:=Asc Op.bytesLess Prod.fst l
def X9S(l:List Ser)(k:List UInt8):Bool:=l.any fun x=>decide (x.1=k)
theorem X7y{l:List Ser}{k:List UInt8}:X9S l k=true↔∃x∈l,x.1=k:=by simp[X9S]
def X5d(l:List Ser)(k:List UInt8):List Pt:=match l.find? fun x=>decide (x.1=k) with
 | some x=>x.2
 | none=>[]
theorem Xna(k:List UInt8):X5d [] k=[]:=rfl
theorem X3w(x:Ser)(l:List Ser)(k:List UInt8):X5d (x::l) k=if x.1=k then x.2 else X5d l k:=by
 unfold X5d
 rw[List.find?_cons]
 by_cases h:x.1=k<;>simp[h]
theorem XcL{l:List Ser}{k:List UInt8}(h:X9S l k=false):X5d l k=[]:=by
 induction l with
 | nil=>rfl
 | cons x l ih=>
   simp only[X9S,List.any_cons,Bool.or_eq_false_iff,decide_eq_false_iff_not]at h
   rw[X3w,if_neg h.1];exact ih h.2
theorem Xia{l:List Ser}(h:XfW l){x:Ser}:x∈l↔X9S l x.1=true∧X5d l x.1=x.2:=by
 induction l with
 | nil=>simp[X9S]
 | cons y l ih=>
   obtain⟨h1,h2⟩:=List.pairwise_cons.1 h
   rw[List.mem_cons,ih h2,X3w,X7y,X7y]
   constructor
   · rintro (rfl | ⟨⟨z,hz,e⟩,h4⟩)
     · exact⟨⟨x,by simp,rfl⟩,by simp⟩
     · have:y.1≠x.1:=fun e2=>by have:=h1 z hz;rw[e,←e2,X8Y.irr]at this;cases this
       exact⟨⟨z,by simp[hz],e⟩,by rw[if_neg this];exact h4⟩
   · rintro⟨⟨z,hz,e⟩,h4⟩
     by_cases hy:y.1=x.1
     · rw[if_pos hy]at h4
       exact .inl (Prod.ext hy.symm h4.symm)
     · rw[if_neg hy]at h4
       rcases List.mem_cons.1 hz with rfl | hz
       · exact absurd e hy
       · exact .inr ⟨⟨z,hz,e⟩,h4⟩
theorem Xre{l r:List Ser}(hl:XfW l)(hr:XfW r)(h1:∀k,X9S l k=X9S r k)(h2:∀k,X5d l k=X5d r k):l=r:=
 XhX X8Y hl hr fun x=>by rw[Xia hl,Xia hr,h1,h2]
theorem Xfx(a:List Pt):X46 a []=a:=rfl
theorem Xn1{b:List Pt}(h:Xjm b):X46 [] b=b:=XhX XnM (XbC List.Pairwise.nil) h fun x=>by rw[Xbt h];simp
def XiI(l:List Ser)(s:Ser):List Ser:=if X9S l s.1 then l.set (pos Op.bytesLess Prod.fst s.1 l) ((l.getD (pos Op.bytesLess Prod.fst s.1 l) ([],[])).1,X46 (l.getD (pos Op.bytesLess Prod.fst s.1 l) ([],[])).2 s.2)
 else l.take (pos Op.bytesLess Prod.fst s.1 l)++(s::l.drop (pos Op.bytesLess Prod.fst s.1 l))
theorem Xh4{l:List Ser}(ha:XfW l){k:List UInt8}(h:X9S l k=true):pos Op.bytesLess Prod.fst k l<l.length∧(l.getD (pos Op.bytesLess Prod.fst k l) ([],[])).1=k:=by
 obtain⟨x,hx,e⟩:=X7y.1 h
 obtain⟨i,hi,e2⟩:=List.getElem_of_mem hx
 have hg:(l.getD i ([],[])).1=k:=by rw[X1w hi,e2];exact e
 have hp:pos Op.bytesLess Prod.fst k l=i:=by
  refine Xn6 ([],[]) (Nat.le_of_lt hi) (fun j hj=>?_) (fun j hj hjl=>?_)
  · have:=X9x ([],[]) ha hj hi
    rw[hg]at this;exact this
  · rcases Nat.lt_or_eq_of_le hj with hj | rfl
    · have:=X9x ([],[]) ha hj hjl
      rw[hg]at this
      cases hx2:Op.bytesLess (l.getD j ([],[])).1 k with
      | false=>rfl
      | true=>have:=X8Y.tr _ _ _ this hx2;rw[X8Y.irr]at this;cases this
    · rw[hg];exact X8Y.irr _
 rw[hp];exact⟨hi,hg⟩
theorem XiQ{α:Type}(l:List α)(i:Nat)(d y:α)(h:i<l.length):l=l.take i++l.getD i d::l.drop (i+1)∧l.set i y=l.take i++y::l.drop (i+1):=by
 refine⟨?_,by rw[List.set_eq_take_append_cons_drop,if_pos h]⟩
 conv=>lhs;rw[←List.take_append_drop i l,X3h d h]
theorem X93(x:Ser)(b:List Ser)(k:List UInt8):X9S (x::b) k=(decide (x.1=k)||X9S b k):=by simp[X9S]
theorem X9l(a b:List Ser)(k:List UInt8):X5d (a++b) k=if X9S a k then X5d a k else X5d b k:=by
 induction a with
 | nil=>simp[X9S]
 | cons x a ih=>
   rw[List.cons_append,X3w,X3w,ih,X93]
   by_cases h:x.1=k
   · simp[h]
   · simp[h]
theorem XeP(a b:List Ser)(k:List UInt8):X9S (a++b) k=(X9S a k||X9S b k):=by simp[X9S]
theorem XrE{a b:List Ser}{x y:Ser}(h:XfW (a++x::b))(e:y.1=x.1):XfW (a++y::b):=by
 simp only[XfW,Asc,List.pairwise_append,List.pairwise_cons,List.mem_cons]at h ⊢
 obtain⟨h1,⟨h2,h3⟩,h4⟩:=h
 refine⟨h1,⟨fun z hz=>by rw[e];exact h2 z hz,h3⟩,fun p hp q hq=>?_⟩
 rcases hq with rfl | hq
 · rw[e];exact h4 p hp x (.inl rfl)
 · exact h4 p hp q (.inr hq)
theorem XiE{l:List Ser}(ha:XfW l){s:Ser}(hs:Xjm s.2):XfW (XiI l s)∧(∀k,X9S (XiI l s) k=(X9S l k||decide (s.1=k)))∧∀k,X5d (XiI l s) k=if s.1=k then X46 (X5d l k) s.2 else X5d l k:=by
 unfold XiI
 split
 · rename_i h
   obtain⟨h1,h2⟩:=Xh4 ha h
   generalize pos Op.bytesLess Prod.fst s.1 l=i at*
   obtain⟨e1,e2⟩:=XiQ l i ([],[]) ((l.getD i ([],[])).1,X46 (l.getD i ([],[])).2 s.2) h1
   rw[e2]
   generalize l.getD i ([],[])=x at*
   generalize l.take i=a at*
   generalize l.drop (i+1)=b at*
   subst e1
   refine⟨XrE ha rfl,fun k=>?_,fun k=>?_⟩
   · simp only[XeP,X93,h2]
     cases X9S a k<;>cases decide (s.1=k)<;>cases X9S b k<;>rfl
   · rw[X9l,X9l,X3w,X3w]
     simp only[h2]
     by_cases hk:s.1=k
     · subst hk
       have hna:X9S a s.1=false:=by
        rw[Bool.eq_false_iff];intro hh
        obtain⟨z,hz,e⟩:=X7y.1 hh
        have:=(List.pairwise_append.1 ha).2.2 z hz x (by simp)
        rw[e,h2,X8Y.irr]at this;cases this
       simp[hna]
     · simp[hk]
 · rename_i h
   have hno:X9S l s.1=false:=by simpa using h
   have hp:∀x∈l,x.1≠s.1:=fun x hx e=>by rw[X7y.2 ⟨x,hx,e⟩]at hno;cases hno
   refine⟨XnK X8Y ha hp,fun k=>?_,fun k=>?_⟩
   · conv=>rhs;rw[←List.take_append_drop (pos Op.bytesLess Prod.fst s.1 l) l]
     simp only[XeP,X93]
     cases X9S (l.take (pos Op.bytesLess Prod.fst s.1 l)) k<;>cases decide (s.1=k)<;>cases X9S (l.drop (pos Op.bytesLess Prod.fst s.1 l)) k<;>rfl
   · have e0:=X9l (l.take (pos Op.bytesLess Prod.fst s.1 l)) (l.drop (pos Op.bytesLess Prod.fst s.1 l)) k
     rw[List.take_append_drop]at e0
     rw[X9l,X3w,e0]
     by_cases hk:s.1=k
     · subst hk
       have hna:X9S (l.take (pos Op.bytesLess Prod.fst s.1 l)) s.1=false:=by
        rw[Bool.eq_false_iff];intro hh
        obtain⟨z,hz,e⟩:=X7y.1 hh
        exact hp z (List.mem_of_mem_take hz) e
       have hnb:X9S (l.drop (pos Op.bytesLess Prod.fst s.1 l)) s.1=false:=by
        rw[Bool.eq_false_iff];intro hh
        obtain⟨z,hz,e⟩:=X7y.1 hh
        exact hp z (List.mem_of_mem_drop hz) e
       simp[hna,XcL hnb,Xn1 hs]
     · simp[hk]
def Xf5(l:List Ser):Prop:=XfW l∧∀x∈l,Xg8 x.2
def cS(x:Ser):Int:=(x.2.length:Int)+1
theorem Xqz(x:Ser):0≤cS x:=by unfold cS;omega
def tot(l:List Ser):Int:=cL cS l
theorem XaW(l:List Ser):0≤tot l:=X2z Xqz l
theorem XaX(l:List Ser):(l.length:Int)≤tot l:=by
 unfold tot
 induction l with
 | nil=>simp[cL]
 | cons x l ih=>have e:cS x=(x.2.length:Int)+1:=rfl;rw[X3Z,List.length_cons];omega
theorem XjH{l:List Ser}{x:Ser}(h:x∈l):(x.2.length:Int)+1≤tot l:=by
 induction l with
 | nil=>cases h
 | cons y l ih=>
   have h1:=XaW l
   have h2:=Xqz y
   unfold tot at*
   rw[X3Z]
   rcases List.mem_cons.1 h with rfl | h
   · have e:cS x=(x.2.length:Int)+1:=rfl;omega
   · have:=ih h;omega
theorem XkG{l:List Ser}{s x:Ser}(h:x∈XiI l s):x∈l∨x=s∨∃y∈l,x=(y.1,X46 y.2 s.2):=by
 unfold XiI at h
 split at h
 · rename_i hh
   rcases List.mem_or_eq_of_mem_set h with h | h
   · exact .inl h
   · by_cases hi:pos Op.bytesLess Prod.fst s.1 l<l.length
     · exact .inr (.inr ⟨_,X2g hi,h⟩)
     · rw[List.set_eq_of_length_le (by omega)]at*
       exact .inl ‹_›
 · rcases XnW.1 h with h | h
   · exact .inr (.inl h)
   · exact .inl h
theorem Xov{l:List Ser}(h:Xf5 l){s:Ser}(hs:Xg8 s.2):Xf5 (XiI l s):=⟨(XiE h.1 hs.1).1,fun x hx=>by
 rcases XkG hx with hx | rfl | ⟨y,hy,rfl⟩
 · exact h.2 x hx
 · exact hs
 · exact Xm8 (h.2 y hy) hs⟩
theorem Xlp{l:List Ser}(ha:XfW l)(s:Ser):tot (XiI l s)≤tot l+cS s:=by
 unfold XiI
 split
 · rename_i h
   obtain⟨h1,_⟩:=Xh4 ha h
   generalize pos Op.bytesLess Prod.fst s.1 l=i at*
   obtain⟨e1,e2⟩:=XiQ l i ([],[]) ((l.getD i ([],[])).1,X46 (l.getD i ([],[])).2 s.2) h1
   rw[e2]
   have hl:=Xao s.2 (l.getD i ([],[])).2
   generalize l.getD i ([],[])=x at*
   generalize l.take i=a at*
   generalize l.drop (i+1)=b at*
   subst e1
   unfold tot
   simp only[X9Y,X3Z,cS];omega
 · have e0:tot l=cL cS (l.take (pos Op.bytesLess Prod.fst s.1 l))+cL cS (l.drop (pos Op.bytesLess Prod.fst s.1 l)):=by
    rw[←X9Y,List.take_append_drop];rfl
   rw[e0]
   unfold tot
   simp only[X9Y,X3Z];omega
def X8F(l top:List Ser):List Ser:=top.foldl XiI l
theorem Xgh(l:List Ser)(s:Ser)(t:List Ser):X8F l (s::t)=X8F (XiI l s) t:=rfl
theorem Xhy:∀{t l:List Ser},Xf5 l→(∀x∈t,Xg8 x.2)→Xf5 (X8F l t)
 | [],_,h,_=>h
 | s::t,l,h,ht=>Xhy (t:=t) (Xov h (ht s (by simp))) fun x hx=>ht x (by simp[hx])
theorem XeJ:∀{t l:List Ser},Xf5 l→(∀x∈t,Xg8 x.2)→tot (X8F l t)≤tot l+tot t
 | [],_,_,_=>by simp[X8F,tot,cL]
 | s::t,l,h,ht=>by
   have h1:=XeJ (t:=t) (Xov h (ht s (by simp))) fun x hx=>ht x (by simp[hx])
   have h2:=Xlp h.1 s
   have h3:tot (s::t)=cS s+tot t:=X3Z ..
   rw[Xgh];omega
theorem Xig:∀{t l:List Ser},XfW l→(∀x∈t,Xjm x.2)→XfW t→∀k,X5d (X8F l t) k=X46 (X5d l k) (X5d t k)
 | [],_,_,_,_,k=>rfl
 | s::t,l,h,ht,ha,k=>by
   obtain⟨h1,h2⟩:=List.pairwise_cons.1 ha
   obtain⟨a1,a2,a3⟩:=XiE h (ht s (by simp))
   rw[Xgh,Xig a1 (fun x hx=>ht x (by simp[hx])) h2,a3,X3w]
   by_cases hk:s.1=k
   · subst hk
     have:X5d t s.1=[]:=XcL (by
      rw[Bool.eq_false_iff];intro hh
      obtain⟨z,hz,e⟩:=X7y.1 hh
      have:=h1 z hz
      rw[e,X8Y.irr]at this;cases this)
     rw[if_pos rfl,if_pos rfl,this,Xfx]
   · rw[if_neg hk,if_neg hk]
def X3J(l:List Ser)(f:Int):List Ser:=(l.map fun x=>(x.1,X3V x.2 f 1099511627777)).filter fun x=>!x.2.isEmpty
theorem XgK(lo hi:Int):X3V [] lo hi=[]:=rfl
theorem XlX{l:List Ser}(h:XfW l)(f:Int):XfW (X3J l f):=by
 refine List.Pairwise.sublist List.filter_sublist ?_
 exact List.pairwise_map.2 h
theorem Xgz{l:List Ser}(h:XfW l)(f:Int)(k:List UInt8):X5d (X3J l f) k=X3V (X5d l k) f 1099511627777∧X9S (X3J l f) k=!(X3V (X5d l k) f 1099511627777).isEmpty:=by
 induction l with
 | nil=>exact⟨rfl,rfl⟩
 | cons x l ih=>
   obtain⟨h1,h2⟩:=List.pairwise_cons.1 h
   obtain⟨i1,i2⟩:=ih h2
   have hx:x.1=k→X9S l k=false:=fun e=>by
    rw[Bool.eq_false_iff];intro hh
    obtain⟨z,hz,e2⟩:=X7y.1 hh
    have:=h1 z hz
    rw[e,e2,X8Y.irr]at this;cases this
   have e0:X3J (x::l) f=if (X3V x.2 f 1099511627777).isEmpty then X3J l f else(x.1,X3V x.2 f 1099511627777)::X3J l f:=by
    unfold X3J
    rw[List.map_cons,List.filter_cons]
    cases (X3V x.2 f 1099511627777).isEmpty<;>rfl
   rw[e0,X3w]
   by_cases hk:x.1=k
   · have hn:=XcL (hx hk)
     rw[if_pos hk]
     cases he:(X3V x.2 f 1099511627777).isEmpty with
     | true=>
       rw[if_pos rfl,i1,i2,hn,XgK]
       refine⟨(List.isEmpty_iff.1 he).symm,rfl⟩
     | false=>
       rw[if_neg (by decide),X3w,if_pos hk,X93]
       exact⟨rfl,by simp[hk]⟩
   · rw[if_neg hk]
     cases he:(X3V x.2 f 1099511627777).isEmpty with
     | true=>rw[if_pos rfl];exact⟨i1,i2⟩
     | false=>rw[if_neg (by decide),X3w,if_neg hk,X93,i1,i2];simp[hk]
theorem XlL{l:List Ser}{f:Int}{x:Ser}(h:x∈X3J l f):∃y∈l,x=(y.1,X3V y.2 f 1099511627777):=by
 obtain⟨y,hy,e⟩:=List.mem_map.1 (List.mem_filter.1 h).1
 exact⟨y,hy,e.symm⟩
def Xaw(ls:List (List Ser)):List Ser:=ls.foldl X8F []
def Xsp(ls:List (List Ser))(k:List UInt8):List Pt:=ls.foldl (fun o l=>X46 o (X5d l k)) []
theorem XgL:∀(ls:List (List Ser)) (l:List Ser),Xf5 l→(∀x∈ls,Xf5 x)→∀k,X5d (ls.foldl X8F l) k=ls.foldl (fun o l=>X46 o (X5d l k)) (X5d l k)
 | [],l,_,_,k=>rfl
 | t::ls,l,h,ht,k=>by
   have ht0:=ht t (by simp)
   rw[List.foldl_cons,List.foldl_cons,XgL ls (X8F l t) (Xhy h ht0.2) (fun x hx=>ht x (by simp[hx])),Xig h.1 (fun x hx=>(ht0.2 x hx).1) ht0.1]
theorem Xla:∀(ls:List (List Ser)) (l:List Ser),Xf5 l→(∀x∈ls,Xf5 x)→Xf5 (ls.foldl X8F l)
 | [],l,h,_=>h
 | t::ls,l,h,ht=>Xla ls (X8F l t) (Xhy h (ht t (by simp)).2) fun x hx=>ht x (by simp[hx])
theorem XpE:Xf5 []:=⟨List.Pairwise.nil,fun x hx=>by cases hx⟩
theorem Xau{l:List Ser}(h:X2i l=true):Xf5 l∧tot l≤305∧l.length≤5∧∀x∈l,x.1.length≤8∧x.2≠[]∧X25 x.2=true:=by
 simp only[X2i,Bool.and_eq_true,decide_eq_true_eq,Xe9,List.all_eq_true,List.mem_range]at h
 obtain⟨h5,h⟩:=h
 have hx:∀i,i<l.length→(l.getD i ([],[])).1.length≤8∧(i=0∨Op.bytesLess (l.getD (i - 1) ([],[])).1 (l.getD i ([],[])).1=true)∧(l.getD i ([],[])).2≠[]∧X25 (l.getD i ([],[])).2=true:=fun i hi=>by
  have:=h i hi
  simp only[Xk8,Bool.and_eq_true,Bool.or_eq_true,decide_eq_true_eq,XdP,fIn]at this
  refine⟨by omega,this.2.1,fun e=>?_,this.2.2.2⟩
  rw[e]at this;simp at this
 have hm:∀x∈l,x.1.length≤8∧x.2≠[]∧X25 x.2=true:=fun x hxl=>by
  obtain⟨i,hi,e⟩:=List.getElem_of_mem hxl
  have:=hx i hi
  rw[X1w hi,e]at this
  exact⟨this.1,this.2.2⟩
 refine⟨⟨?_,fun x hxl=>(XkJ (hm x hxl).2.2).1⟩,?_,h5,hm⟩
 · have hs:∀(d:Nat) (i:Nat),i+d+1<l.length→Op.bytesLess (l.getD i ([],[])).1 (l.getD (i+d+1) ([],[])).1=true:=by
    intro d
    induction d with
    | zero=>intro i hi;have:=(hx (i+1) hi).2.1;simp at this;simpa using this
    | succ d ih=>
      intro i hi
      have a:=ih i (by omega)
      have c:=(hx (i+(d+1)+1) hi).2.1
      simp only[Nat.add_sub_cancel]at c
      rcases c with c | c
      · omega
      · exact X8Y.tr _ _ _ a c
   refine List.pairwise_iff_getElem.2 fun i j hi hj hij=>?_
   have:=hs (j - i - 1) i (by omega)
   rw[show i+(j - i - 1)+1=j by omega,X1w hi,X1w hj]at this
   exact this
 · have:∀l:List Ser,(∀x∈l,X25 x.2=true)→tot l≤61*l.length:=fun l=>by
    induction l with
    | nil=>intro _;simp[tot,cL]
    | cons x l ih=>
      intro hh
      have h1:=ih fun y hy=>hh y (by simp[hy])
      have h2:=(XkJ (hh x (by simp))).2
      have h3:tot (x::l)=cS x+tot l:=X3Z ..
      rw[h3,List.length_cons];simp only[cS];omega
   have:=this l fun x hxl=>(hm x hxl).2.2
   omega
end Go.Proofs.YtcfaphojdacmbaaGreatR.B
