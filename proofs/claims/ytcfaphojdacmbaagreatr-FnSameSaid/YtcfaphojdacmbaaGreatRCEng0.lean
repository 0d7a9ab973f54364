/- Series laid on each other:what it comes to. -/
import Derived.Test.YtcfaphojdacmbaaGreatRCMrg
import Derived.Test.YtcfaphojdacmbaaGreatRCTypes
set_option linter.unusedVariables false
set_option linter.unusedSimpArgs false
namespace Go.Proofs.YtcfaphojdacmbaaGreatR.B
open Go Go.Proofs.YtcfaphojdacmbaaGreatR.Bv
abbrev Xcn(l:List Ser):Prop:=Asc Op.bytesLess Prod.fst l
def X5O(l:List Ser)(k:List UInt8):Bool:=l.any fun x=>decide (x.1=k)
theorem X5c{l:List Ser}{k:List UInt8}:X5O l k=true↔∃x∈l,x.1=k:=by simp[X5O]
def X3j(l:List Ser)(k:List UInt8):List Pt:=match l.find? fun x=>decide (x.1=k) with
 | some x=>x.2
 | none=>[]
theorem XgC(k:List UInt8):X3j [] k=[]:=rfl
theorem X2g(x:Ser)(l:List Ser)(k:List UInt8):X3j (x::l) k=if x.1=k then x.2 else X3j l k:=by
 unfold X3j
 rw[List.find?_cons]
 by_cases h:x.1=k<;>simp[h]
theorem XaX{l:List Ser}{k:List UInt8}(h:X5O l k=false):X3j l k=[]:=by
 induction l with
 | nil=>rfl
 | cons x l ih=>
   simp only[X5O,List.any_cons,Bool.or_eq_false_iff,decide_eq_false_iff_not]at h
   rw[X2g,if_neg h.1];exact ih h.2
theorem Xbt{l:List Ser}(h:Xcn l){x:Ser}:x∈l↔X5O l x.1=true∧X3j l x.1=x.2:=by
 induction l with
 | nil=>simp[X5O]
 | cons y l ih=>
   obtain⟨h1,h2⟩:=List.pairwise_cons.1 h
   rw[List.mem_cons,ih h2,X2g,X5c,X5c]
   constructor
   · rintro (rfl | ⟨⟨z,hz,e⟩,h4⟩)
     · exact⟨⟨x,by simp,rfl⟩,by simp⟩
     · have:y.1≠x.1:=fun e2=>by have:=h1 z hz;rw[e,←e2,X4B.irr]at this;cases this
       exact⟨⟨z,by simp[hz],e⟩,by rw[if_neg this];exact h4⟩
   · rintro⟨⟨z,hz,e⟩,h4⟩
     by_cases hy:y.1=x.1
     · rw[if_pos hy]at h4
       exact .inl (Prod.ext hy.symm h4.symm)
     · rw[if_neg hy]at h4
       rcases List.mem_cons.1 hz with rfl | hz
       · exact absurd e hy
       · exact .inr ⟨⟨z,hz,e⟩,h4⟩
theorem Xd9{l r:List Ser}(hl:Xcn l)(hr:Xcn r)(h1:∀k,X5O l k=X5O r k)(h2:∀k,X3j l k=X3j r k):l=r:=
 Xc2 X4B hl hr fun x=>by rw[Xbt hl,Xbt hr,h1,h2]
theorem Xmf{l:List Ser}{k:List UInt8}{p:Pt}(h:p∈X3j l k):∃x∈l,x.1=k∧p∈x.2:=by
 induction l with
 | nil=>cases h
 | cons x l ih=>
   rw[X2g]at h
   split at h
   · exact⟨x,by simp,‹_›,h⟩
   · obtain⟨y,hy,e⟩:=ih h;exact⟨y,by simp[hy],e⟩
theorem XbR{l:List Ser}(h:∀x∈l,Xaq x.2)(k:List UInt8):Xaq (X3j l k):=by
 induction l with
 | nil=>exact⟨List.Pairwise.nil,fun x hx=>by cases hx⟩
 | cons x l ih=>
   rw[X2g];split
   · exact h x (by simp)
   · exact ih fun y hy=>h y (by simp[hy])
theorem Xb1(a:List Pt):X2H a []=a:=rfl
theorem XhI{b:List Pt}(h:XcI b):X2H [] b=b:=Xc2 Xf1 (X4g List.Pairwise.nil) h fun x=>by rw[X1Q h];simp
def XcY(l:List Ser)(s:Ser):List Ser:=if X5O l s.1 then l.set (pos Op.bytesLess Prod.fst s.1 l) ((l.getD (pos Op.bytesLess Prod.fst s.1 l) ([],[])).1,X2H (l.getD (pos Op.bytesLess Prod.fst s.1 l) ([],[])).2 s.2)
 else l.take (pos Op.bytesLess Prod.fst s.1 l)++(s::l.drop (pos Op.bytesLess Prod.fst s.1 l))
theorem Xgg{l:List Ser}(ha:Xcn l){k:List UInt8}(h:X5O l k=true):pos Op.bytesLess Prod.fst k l<l.length∧(l.getD (pos Op.bytesLess Prod.fst k l) ([],[])).1=k:=by
 obtain⟨x,hx,e⟩:=X5c.1 h
 obtain⟨i,hi,e2⟩:=List.getElem_of_mem hx
 have hg:(l.getD i ([],[])).1=k:=by rw[X0L hi,e2];exact e
 have hp:pos Op.bytesLess Prod.fst k l=i:=by
  refine Xmh ([],[]) (Nat.le_of_lt hi) (fun j hj=>?_) (fun j hj hjl=>?_)
  · have:=X4N ([],[]) ha hj hi
    rw[hg]at this;exact this
  · rcases Nat.lt_or_eq_of_le hj with hj | rfl
    · have:=X4N ([],[]) ha hj hjl
      rw[hg]at this
      cases hx2:Op.bytesLess (l.getD j ([],[])).1 k with
      | false=>rfl
      | true=>have:=X4B.tr _ _ _ this hx2;rw[X4B.irr]at this;cases this
    · rw[hg];exact X4B.irr _
 rw[hp];exact⟨hi,hg⟩
theorem XgZ{α:Type}(l:List α)(i:Nat)(d y:α)(h:i<l.length):l=l.take i++l.getD i d::l.drop (i+1)∧l.set i y=l.take i++y::l.drop (i+1):=by
 refine⟨?_,by rw[List.set_eq_take_append_cons_drop,if_pos h]⟩
 conv=>lhs;rw[←List.take_append_drop i l,X4D d h]
theorem X66(x:Ser)(b:List Ser)(k:List UInt8):X5O (x::b) k=(decide (x.1=k)||X5O b k):=by simp[X5O]
theorem X7J(a b:List Ser)(k:List UInt8):X3j (a++b) k=if X5O a k then X3j a k else X3j b k:=by
 induction a with
 | nil=>simp[X5O]
 | cons x a ih=>
   rw[List.cons_append,X2g,X2g,ih,X66]
   by_cases h:x.1=k
   · simp[h]
   · simp[h]
theorem Xdc(a b:List Ser)(k:List UInt8):X5O (a++b) k=(X5O a k||X5O b k):=by simp[X5O]
theorem XoW{a b:List Ser}{x y:Ser}(h:Xcn (a++x::b))(e:y.1=x.1):Xcn (a++y::b):=by
 simp only[Xcn,Asc,List.pairwise_append,List.pairwise_cons,List.mem_cons]at h ⊢
 obtain⟨h1,⟨h2,h3⟩,h4⟩:=h
 refine⟨h1,⟨fun z hz=>by rw[e];exact h2 z hz,h3⟩,fun p hp q hq=>?_⟩
 rcases hq with rfl | hq
 · rw[e];exact h4 p hp x (.inl rfl)
 · exact h4 p hp q (.inr hq)
theorem XdD{l:List Ser}(ha:Xcn l){s:Ser}(hs:XcI s.2):Xcn (XcY l s)∧(∀k,X5O (XcY l s) k=(X5O l k||decide (s.1=k)))∧∀k,X3j (XcY l s) k=if s.1=k then X2H (X3j l k) s.2 else X3j l k:=by
 unfold XcY
 split
 · rename_i h
   obtain⟨h1,h2⟩:=Xgg ha h
   generalize pos Op.bytesLess Prod.fst s.1 l=i at*
   obtain⟨e1,e2⟩:=XgZ l i ([],[]) ((l.getD i ([],[])).1,X2H (l.getD i ([],[])).2 s.2) h1
   rw[e2]
   generalize l.getD i ([],[])=x at*
   generalize l.take i=a at*
   generalize l.drop (i+1)=b at*
   subst e1
   refine⟨XoW ha rfl,fun k=>?_,fun k=>?_⟩
   · simp only[Xdc,X66,h2]
     cases X5O a k<;>cases decide (s.1=k)<;>cases X5O b k<;>rfl
   · rw[X7J,X7J,X2g,X2g]
     simp only[h2]
     by_cases hk:s.1=k
     · subst hk
       have hna:X5O a s.1=false:=by
        rw[Bool.eq_false_iff];intro hh
        obtain⟨z,hz,e⟩:=X5c.1 hh
        have:=(List.pairwise_append.1 ha).2.2 z hz x (by simp)
        rw[e,h2,X4B.irr]at this;cases this
       simp[hna]
     · simp[hk]
 · rename_i h
   have hno:X5O l s.1=false:=by simpa using h
   have hp:∀x∈l,x.1≠s.1:=fun x hx e=>by rw[X5c.2 ⟨x,hx,e⟩]at hno;cases hno
   refine⟨XkP X4B ha hp,fun k=>?_,fun k=>?_⟩
   · conv=>rhs;rw[←List.take_append_drop (pos Op.bytesLess Prod.fst s.1 l) l]
     simp only[Xdc,X66]
     cases X5O (l.take (pos Op.bytesLess Prod.fst s.1 l)) k<;>cases decide (s.1=k)<;>cases X5O (l.drop (pos Op.bytesLess Prod.fst s.1 l)) k<;>rfl
   · have e0:=X7J (l.take (pos Op.bytesLess Prod.fst s.1 l)) (l.drop (pos Op.bytesLess Prod.fst s.1 l)) k
     rw[List.take_append_drop]at e0
     rw[X7J,X2g,e0]
     by_cases hk:s.1=k
     · subst hk
       have hna:X5O (l.take (pos Op.bytesLess Prod.fst s.1 l)) s.1=false:=by
        rw[Bool.eq_false_iff];intro hh
        obtain⟨z,hz,e⟩:=X5c.1 hh
        exact hp z (List.mem_of_mem_take hz) e
       have hnb:X5O (l.drop (pos Op.bytesLess Prod.fst s.1 l)) s.1=false:=by
        rw[Bool.eq_false_iff];intro hh
        obtain⟨z,hz,e⟩:=X5c.1 hh
        exact hp z (List.mem_of_mem_drop hz) e
       simp[hna,XaX hnb,XhI hs]
     · simp[hk]
def X8M(l:List Ser):Prop:=Xcn l∧∀x∈l,Xaq x.2
def cS(x:Ser):Int:=(x.2.length:Int)+1
theorem Xoq(x:Ser):0≤cS x:=by unfold cS;omega
def tot(l:List Ser):Int:=cL cS l
theorem X9x(l:List Ser):0≤tot l:=Xl3 Xoq l
theorem X6U(l:List Ser):(l.length:Int)≤tot l:=by
 unfold tot
 induction l with
 | nil=>simp[cL]
 | cons x l ih=>have e:cS x=(x.2.length:Int)+1:=rfl;rw[X4w,List.length_cons];omega
theorem XaC{l:List Ser}{x:Ser}(h:x∈l):(x.2.length:Int)+1≤tot l:=by
 induction l with
 | nil=>cases h
 | cons y l ih=>
   have h1:=X9x l
   have h2:=Xoq y
   unfold tot at*
   rw[X4w]
   rcases List.mem_cons.1 h with rfl | h
   · have e:cS x=(x.2.length:Int)+1:=rfl;omega
   · have:=ih h;omega
theorem XcV{l:List Ser}{s x:Ser}(h:x∈XcY l s):x∈l∨x=s∨∃y∈l,x=(y.1,X2H y.2 s.2):=by
 unfold XcY at h
 split at h
 · rename_i hh
   rcases List.mem_or_eq_of_mem_set h with h | h
   · exact .inl h
   · by_cases hi:pos Op.bytesLess Prod.fst s.1 l<l.length
     · exact .inr (.inr ⟨_,X1e hi,h⟩)
     · rw[List.set_eq_of_length_le (by omega)]at*
       exact .inl ‹_›
 · rcases Xmt.1 h with h | h
   · exact .inr (.inl h)
   · exact .inl h
theorem Xla{l:List Ser}(h:X8M l){s:Ser}(hs:Xaq s.2):X8M (XcY l s):=⟨(XdD h.1 hs.1).1,fun x hx=>by
 rcases XcV hx with hx | rfl | ⟨y,hy,rfl⟩
 · exact h.2 x hx
 · exact hs
 · exact XjS (h.2 y hy) hs⟩
theorem XjL{l:List Ser}(ha:Xcn l)(s:Ser):tot (XcY l s)≤tot l+cS s:=by
 unfold XcY
 split
 · rename_i h
   obtain⟨h1,_⟩:=Xgg ha h
   generalize pos Op.bytesLess Prod.fst s.1 l=i at*
   obtain⟨e1,e2⟩:=XgZ l i ([],[]) ((l.getD i ([],[])).1,X2H (l.getD i ([],[])).2 s.2) h1
   rw[e2]
   have hl:=X96 s.2 (l.getD i ([],[])).2
   generalize l.getD i ([],[])=x at*
   generalize l.take i=a at*
   generalize l.drop (i+1)=b at*
   subst e1
   unfold tot
   simp only[X8B,X4w,cS];omega
 · have e0:tot l=cL cS (l.take (pos Op.bytesLess Prod.fst s.1 l))+cL cS (l.drop (pos Op.bytesLess Prod.fst s.1 l)):=by
    rw[←X8B,List.take_append_drop];rfl
   rw[e0]
   unfold tot
   simp only[X8B,X4w];omega
def X30(l top:List Ser):List Ser:=top.foldl XcY l
theorem Xc5(l:List Ser)(s:Ser)(t:List Ser):X30 l (s::t)=X30 (XcY l s) t:=rfl
theorem X4t:∀{t l:List Ser},X8M l→(∀x∈t,Xaq x.2)→X8M (X30 l t)
 | [],_,h,_=>h
 | s::t,l,h,ht=>X4t (t:=t) (Xla h (ht s (by simp))) fun x hx=>ht x (by simp[hx])
theorem Xb2:∀{t l:List Ser},X8M l→(∀x∈t,Xaq x.2)→tot (X30 l t)≤tot l+tot t
 | [],_,_,_=>by simp[X30,tot,cL]
 | s::t,l,h,ht=>by
   have h1:=Xb2 (t:=t) (Xla h (ht s (by simp))) fun x hx=>ht x (by simp[hx])
   have h2:=XjL h.1 s
   have h3:tot (s::t)=cS s+tot t:=X4w ..
   rw[Xc5];omega
theorem X4A:∀{t l:List Ser},Xcn l→(∀x∈t,XcI x.2)→Xcn t→∀k,X3j (X30 l t) k=X2H (X3j l k) (X3j t k)
 | [],_,_,_,_,k=>rfl
 | s::t,l,h,ht,ha,k=>by
   obtain⟨h1,h2⟩:=List.pairwise_cons.1 ha
   obtain⟨a1,a2,a3⟩:=XdD h (ht s (by simp))
   rw[Xc5,X4A a1 (fun x hx=>ht x (by simp[hx])) h2,a3,X2g]
   by_cases hk:s.1=k
   · subst hk
     have:X3j t s.1=[]:=XaX (by
      rw[Bool.eq_false_iff];intro hh
      obtain⟨z,hz,e⟩:=X5c.1 hh
      have:=h1 z hz
      rw[e,X4B.irr]at this;cases this)
     rw[if_pos rfl,if_pos rfl,this,Xb1]
   · rw[if_neg hk,if_neg hk]
def X0u(l:List Ser)(f:Int):List Ser:=(l.map fun x=>(x.1,X1o x.2 f 1099511627777)).filter fun x=>!x.2.isEmpty
theorem Xf9(lo hi:Int):X1o [] lo hi=[]:=rfl
theorem X1R{l:List Ser}(h:Xcn l)(f:Int):Xcn (X0u l f):=by
 refine List.Pairwise.sublist List.filter_sublist ?_
 exact List.pairwise_map.2 h
theorem X1r{l:List Ser}(h:Xcn l)(f:Int)(k:List UInt8):X3j (X0u l f) k=X1o (X3j l k) f 1099511627777∧X5O (X0u l f) k=!(X1o (X3j l k) f 1099511627777).isEmpty:=by
 induction l with
 | nil=>exact⟨rfl,rfl⟩
 | cons x l ih=>
   obtain⟨h1,h2⟩:=List.pairwise_cons.1 h
   obtain⟨i1,i2⟩:=ih h2
   have hx:x.1=k→X5O l k=false:=fun e=>by
    rw[Bool.eq_false_iff];intro hh
    obtain⟨z,hz,e2⟩:=X5c.1 hh
    have:=h1 z hz
    rw[e,e2,X4B.irr]at this;cases this
   have e0:X0u (x::l) f=if (X1o x.2 f 1099511627777).isEmpty then X0u l f else(x.1,X1o x.2 f 1099511627777)::X0u l f:=by
    unfold X0u
    rw[List.map_cons,List.filter_cons]
    cases (X1o x.2 f 1099511627777).isEmpty<;>rfl
   rw[e0,X2g]
   by_cases hk:x.1=k
   · have hn:=XaX (hx hk)
     rw[if_pos hk]
     cases he:(X1o x.2 f 1099511627777).isEmpty with
     | true=>
       rw[if_pos rfl,i1,i2,hn,Xf9]
       refine⟨(List.isEmpty_iff.1 he).symm,rfl⟩
     | false=>
       rw[if_neg (by decide),X2g,if_pos hk,X66]
       exact⟨rfl,by simp[hk]⟩
   · rw[if_neg hk]
     cases he:(X1o x.2 f 1099511627777).isEmpty with
     | true=>rw[if_pos rfl];exact⟨i1,i2⟩
     | false=>rw[if_neg (by decide),X2g,if_neg hk,X66,i1,i2];simp[hk]
theorem X9W{l:List Ser}{f:Int}{x:Ser}(h:x∈X0u l f):∃y∈l,x=(y.1,X1o y.2 f 1099511627777):=by
 obtain⟨y,hy,e⟩:=List.mem_map.1 (List.mem_filter.1 h).1
 exact⟨y,hy,e.symm⟩
theorem Xm8{l:List Pt}(h:Xaq l)(lo hi:Int):Xaq (X1o l lo hi):=⟨X6m h.1 lo hi,fun x hx=>h.2 x (X3x.1 hx).1⟩
theorem XcO{l:List Ser}(h:X8M l)(f:Int):X8M (X0u l f):=⟨X1R h.1 f,fun x hx=>by
 obtain⟨y,hy,rfl⟩:=X9W hx
 exact Xm8 (h.2 y hy) _ _⟩
theorem Xbh(l:List Pt)(lo hi:Int):(X1o l lo hi).length≤l.length:=List.length_filter_le ..
def X2q(ls:List (List Ser)):List Ser:=ls.foldl X30 []
def Xqg(ls:List (List Ser))(k:List UInt8):List Pt:=ls.foldl (fun o l=>X2H o (X3j l k)) []
theorem Xfn:∀(ls:List (List Ser)) (l:List Ser),X8M l→(∀x∈ls,X8M x)→∀k,X3j (ls.foldl X30 l) k=ls.foldl (fun o l=>X2H o (X3j l k)) (X3j l k)
 | [],l,_,_,k=>rfl
 | t::ls,l,h,ht,k=>by
   have ht0:=ht t (by simp)
   rw[List.foldl_cons,List.foldl_cons,Xfn ls (X30 l t) (X4t h ht0.2) (fun x hx=>ht x (by simp[hx])),X4A h.1 (fun x hx=>(ht0.2 x hx).1) ht0.1]
theorem X7Y:∀(ls:List (List Ser)) (l:List Ser),X8M l→(∀x∈ls,X8M x)→X8M (ls.foldl X30 l)
 | [],l,h,_=>h
 | t::ls,l,h,ht=>X7Y ls (X30 l t) (X4t h (ht t (by simp)).2) fun x hx=>ht x (by simp[hx])
theorem Xb5:X8M []:=⟨List.Pairwise.nil,fun x hx=>by cases hx⟩
theorem X3b{l:List Ser}(h:X0B l=true):X8M l∧tot l≤305∧l.length≤5∧∀x∈l,x.1.length≤8∧x.2≠[]∧X0F x.2=true:=by
 simp only[X0B,Bool.and_eq_true,decide_eq_true_eq,Xeu,List.all_eq_true,List.mem_range]at h
 obtain⟨h5,h⟩:=h
 have hx:∀i,i<l.length→(l.getD i ([],[])).1.length≤8∧(i=0∨Op.bytesLess (l.getD (i - 1) ([],[])).1 (l.getD i ([],[])).1=true)∧(l.getD i ([],[])).2≠[]∧X0F (l.getD i ([],[])).2=true:=fun i hi=>by
  have:=h i hi
  simp only[XhL,Bool.and_eq_true,Bool.or_eq_true,decide_eq_true_eq,X9f,fIn]at this
  refine⟨by omega,this.2.1,fun e=>?_,this.2.2.2⟩
  rw[e]at this;simp at this
 have hm:∀x∈l,x.1.length≤8∧x.2≠[]∧X0F x.2=true:=fun x hxl=>by
  obtain⟨i,hi,e⟩:=List.getElem_of_mem hxl
  have:=hx i hi
  rw[X0L hi,e]at this
  exact⟨this.1,this.2.2⟩
 refine⟨⟨?_,fun x hxl=>(Xa7 (hm x hxl).2.2).1⟩,?_,h5,hm⟩
 · have hs:∀(d:Nat) (i:Nat),i+d+1<l.length→Op.bytesLess (l.getD i ([],[])).1 (l.getD (i+d+1) ([],[])).1=true:=by
    intro d
    induction d with
    | zero=>intro i hi;have:=(hx (i+1) hi).2.1;simp at this;simpa using this
    | succ d ih=>
      intro i hi
      have a:=ih i (by omega)
      have c:=(hx (i+(d+1)+1) hi).2.1
      simp only[Nat.add_sub_cancel]at c
      rcases c with c | c
      · omega
      · exact X4B.tr _ _ _ a c
   refine List.pairwise_iff_getElem.2 fun i j hi hj hij=>?_
   have:=hs (j - i - 1) i (by omega)
   rw[show i+(j - i - 1)+1=j by omega,X0L hi,X0L hj]at this
   exact this
 · have:∀l:List Ser,(∀x∈l,X0F x.2=true)→tot l≤61*l.length:=fun l=>by
    induction l with
    | nil=>intro _;simp[tot,cL]
    | cons x l ih=>
      intro hh
      have h1:=ih fun y hy=>hh y (by simp[hy])
      have h2:=(Xa7 (hh x (by simp))).2
      have h3:tot (x::l)=cS x+tot l:=X4w ..
      rw[h3,List.length_cons];simp only[cS];omega
   have:=this l fun x hxl=>(hm x hxl).2.2
   omega
end Go.Proofs.YtcfaphojdacmbaaGreatR.B
