/- Series laid on each other:what it comes to. -/
import Derived.Test.YtcfaphojdacmbaaGreatRCMrg
import Derived.Test.YtcfaphojdacmbaaGreatRCTypes
set_option linter.unusedVariables false
set_option linter.unusedSimpArgs false
namespace Go.Proofs.YtcfaphojdacmbaaGreatR.B
open Go Go.Proofs.YtcfaphojdacmbaaGreatR.Bv
abbrev XcB(l:List Ser):Prop:=Asc Op.bytesLess Prod.fst l
def X5M(l:List Ser)(k:List UInt8):Bool:=l.any fun x=>decide (x.1=k)
theorem X5i{l:List Ser}{k:List UInt8}:X5M l k=true↔∃x∈l,x.1=k:=by simp[X5M]
def X2Q(l:List Ser)(k:List UInt8):List Pt:=match l.find? fun x=>decide (x.1=k) with
 | some x=>x.2
 | none=>[]
theorem XhF(k:List UInt8):X2Q [] k=[]:=rfl
theorem X2p(x:Ser)(l:List Ser)(k:List UInt8):X2Q (x::l) k=if x.1=k then x.2 else X2Q l k:=by
 unfold X2Q
 rw[List.find?_cons]
 by_cases h:x.1=k<;>simp[h]
theorem X9I{l:List Ser}{k:List UInt8}(h:X5M l k=false):X2Q l k=[]:=by
 induction l with
 | nil=>rfl
 | cons x l ih=>
   simp only[X5M,List.any_cons,Bool.or_eq_false_iff,decide_eq_false_iff_not]at h
   rw[X2p,if_neg h.1];exact ih h.2
theorem X9l{l:List Ser}(h:XcB l){x:Ser}:x∈l↔X5M l x.1=true∧X2Q l x.1=x.2:=by
 induction l with
 | nil=>simp[X5M]
 | cons y l ih=>
   obtain⟨h1,h2⟩:=List.pairwise_cons.1 h
   rw[List.mem_cons,ih h2,X2p,X5i,X5i]
   constructor
   · rintro (rfl | ⟨⟨z,hz,e⟩,h4⟩)
     · exact⟨⟨x,by simp,rfl⟩,by simp⟩
     · have:y.1≠x.1:=fun e2=>by have:=h1 z hz;rw[e,←e2,X4M.irr]at this;cases this
       exact⟨⟨z,by simp[hz],e⟩,by rw[if_neg this];exact h4⟩
   · rintro⟨⟨z,hz,e⟩,h4⟩
     by_cases hy:y.1=x.1
     · rw[if_pos hy]at h4
       exact .inl (Prod.ext hy.symm h4.symm)
     · rw[if_neg hy]at h4
       rcases List.mem_cons.1 hz with rfl | hz
       · exact absurd e hy
       · exact .inr ⟨⟨z,hz,e⟩,h4⟩
theorem Xet{l r:List Ser}(hl:XcB l)(hr:XcB r)(h1:∀k,X5M l k=X5M r k)(h2:∀k,X2Q l k=X2Q r k):l=r:=
 Xci X4M hl hr fun x=>by rw[X9l hl,X9l hr,h1,h2]
theorem Xm1{l:List Ser}{k:List UInt8}{p:Pt}(h:p∈X2Q l k):∃x∈l,x.1=k∧p∈x.2:=by
 induction l with
 | nil=>cases h
 | cons x l ih=>
   rw[X2p]at h
   split at h
   · exact⟨x,by simp,‹_›,h⟩
   · obtain⟨y,hy,e⟩:=ih h;exact⟨y,by simp[hy],e⟩
theorem Xb9{l:List Ser}(h:∀x∈l,XaT x.2)(k:List UInt8):XaT (X2Q l k):=by
 induction l with
 | nil=>exact⟨List.Pairwise.nil,fun x hx=>by cases hx⟩
 | cons x l ih=>
   rw[X2p];split
   · exact h x (by simp)
   · exact ih fun y hy=>h y (by simp[hy])
theorem XbB(a:List Pt):X2i a []=a:=rfl
theorem Xi8{b:List Pt}(h:Xdq b):X2i [] b=b:=Xci Xgc (X4A List.Pairwise.nil) h fun x=>by rw[X1Y h];simp
def Xdu(l:List Ser)(s:Ser):List Ser:=if X5M l s.1 then l.set (pos Op.bytesLess Prod.fst s.1 l) ((l.getD (pos Op.bytesLess Prod.fst s.1 l) ([],[])).1,X2i (l.getD (pos Op.bytesLess Prod.fst s.1 l) ([],[])).2 s.2)
 else l.take (pos Op.bytesLess Prod.fst s.1 l)++(s::l.drop (pos Op.bytesLess Prod.fst s.1 l))
theorem Xca{l:List Ser}(ha:XcB l){k:List UInt8}(h:X5M l k=true):pos Op.bytesLess Prod.fst k l<l.length∧(l.getD (pos Op.bytesLess Prod.fst k l) ([],[])).1=k:=by
 obtain⟨x,hx,e⟩:=X5i.1 h
 obtain⟨i,hi,e2⟩:=List.getElem_of_mem hx
 have hg:(l.getD i ([],[])).1=k:=by rw[X0R hi,e2];exact e
 have hp:pos Op.bytesLess Prod.fst k l=i:=by
  refine Xmr ([],[]) (Nat.le_of_lt hi) (fun j hj=>?_) (fun j hj hjl=>?_)
  · have:=X5g ([],[]) ha hj hi
    rw[hg]at this;exact this
  · rcases Nat.lt_or_eq_of_le hj with hj | rfl
    · have:=X5g ([],[]) ha hj hjl
      rw[hg]at this
      cases hx2:Op.bytesLess (l.getD j ([],[])).1 k with
      | false=>rfl
      | true=>have:=X4M.tr _ _ _ this hx2;rw[X4M.irr]at this;cases this
    · rw[hg];exact X4M.irr _
 rw[hp];exact⟨hi,hg⟩
theorem Xil{α:Type}(l:List α)(i:Nat)(d y:α)(h:i<l.length):l=l.take i++l.getD i d::l.drop (i+1)∧l.set i y=l.take i++y::l.drop (i+1):=by
 refine⟨?_,by rw[List.set_eq_take_append_cons_drop,if_pos h]⟩
 conv=>lhs;rw[←List.take_append_drop i l,X4Q d h]
theorem X6h(x:Ser)(b:List Ser)(k:List UInt8):X5M (x::b) k=(decide (x.1=k)||X5M b k):=by simp[X5M]
theorem X8G(a b:List Ser)(k:List UInt8):X2Q (a++b) k=if X5M a k then X2Q a k else X2Q b k:=by
 induction a with
 | nil=>simp[X5M]
 | cons x a ih=>
   rw[List.cons_append,X2p,X2p,ih,X6h]
   by_cases h:x.1=k
   · simp[h]
   · simp[h]
theorem Xem(a b:List Ser)(k:List UInt8):X5M (a++b) k=(X5M a k||X5M b k):=by simp[X5M]
theorem Xqe{a b:List Ser}{x y:Ser}(h:XcB (a++x::b))(e:y.1=x.1):XcB (a++y::b):=by
 simp only[XcB,Asc,List.pairwise_append,List.pairwise_cons,List.mem_cons]at h ⊢
 obtain⟨h1,⟨h2,h3⟩,h4⟩:=h
 refine⟨h1,⟨fun z hz=>by rw[e];exact h2 z hz,h3⟩,fun p hp q hq=>?_⟩
 rcases hq with rfl | hq
 · rw[e];exact h4 p hp x (.inl rfl)
 · exact h4 p hp q (.inr hq)
theorem XeX{l:List Ser}(ha:XcB l){s:Ser}(hs:Xdq s.2):XcB (Xdu l s)∧(∀k,X5M (Xdu l s) k=(X5M l k||decide (s.1=k)))∧∀k,X2Q (Xdu l s) k=if s.1=k then X2i (X2Q l k) s.2 else X2Q l k:=by
 unfold Xdu
 split
 · rename_i h
   obtain⟨h1,h2⟩:=Xca ha h
   generalize pos Op.bytesLess Prod.fst s.1 l=i at*
   obtain⟨e1,e2⟩:=Xil l i ([],[]) ((l.getD i ([],[])).1,X2i (l.getD i ([],[])).2 s.2) h1
   rw[e2]
   generalize l.getD i ([],[])=x at*
   generalize l.take i=a at*
   generalize l.drop (i+1)=b at*
   subst e1
   refine⟨Xqe ha rfl,fun k=>?_,fun k=>?_⟩
   · simp only[Xem,X6h,h2]
     cases X5M a k<;>cases decide (s.1=k)<;>cases X5M b k<;>rfl
   · rw[X8G,X8G,X2p,X2p]
     simp only[h2]
     by_cases hk:s.1=k
     · subst hk
       have hna:X5M a s.1=false:=by
        rw[Bool.eq_false_iff];intro hh
        obtain⟨z,hz,e⟩:=X5i.1 hh
        have:=(List.pairwise_append.1 ha).2.2 z hz x (by simp)
        rw[e,h2,X4M.irr]at this;cases this
       simp[hna]
     · simp[hk]
 · rename_i h
   have hno:X5M l s.1=false:=by simpa using h
   have hp:∀x∈l,x.1≠s.1:=fun x hx e=>by rw[X5i.2 ⟨x,hx,e⟩]at hno;cases hno
   refine⟨XlB X4M ha hp,fun k=>?_,fun k=>?_⟩
   · conv=>rhs;rw[←List.take_append_drop (pos Op.bytesLess Prod.fst s.1 l) l]
     simp only[Xem,X6h]
     cases X5M (l.take (pos Op.bytesLess Prod.fst s.1 l)) k<;>cases decide (s.1=k)<;>cases X5M (l.drop (pos Op.bytesLess Prod.fst s.1 l)) k<;>rfl
   · have e0:=X8G (l.take (pos Op.bytesLess Prod.fst s.1 l)) (l.drop (pos Op.bytesLess Prod.fst s.1 l)) k
     rw[List.take_append_drop]at e0
     rw[X8G,X2p,e0]
     by_cases hk:s.1=k
     · subst hk
       have hna:X5M (l.take (pos Op.bytesLess Prod.fst s.1 l)) s.1=false:=by
        rw[Bool.eq_false_iff];intro hh
        obtain⟨z,hz,e⟩:=X5i.1 hh
        exact hp z (List.mem_of_mem_take hz) e
       have hnb:X5M (l.drop (pos Op.bytesLess Prod.fst s.1 l)) s.1=false:=by
        rw[Bool.eq_false_iff];intro hh
        obtain⟨z,hz,e⟩:=X5i.1 hh
        exact hp z (List.mem_of_mem_drop hz) e
       simp[hna,X9I hnb,Xi8 hs]
     · simp[hk]
def X9p(l:List Ser):Prop:=XcB l∧∀x∈l,XaT x.2
def cS(x:Ser):Int:=(x.2.length:Int)+1
theorem Xpc(x:Ser):0≤cS x:=by unfold cS;omega
def tot(l:List Ser):Int:=cL cS l
theorem Xak(l:List Ser):0≤tot l:=Xn3 Xpc l
theorem X7k(l:List Ser):(l.length:Int)≤tot l:=by
 unfold tot
 induction l with
 | nil=>simp[cL]
 | cons x l ih=>have e:cS x=(x.2.length:Int)+1:=rfl;rw[X4T,List.length_cons];omega
theorem Xbh{l:List Ser}{x:Ser}(h:x∈l):(x.2.length:Int)+1≤tot l:=by
 induction l with
 | nil=>cases h
 | cons y l ih=>
   have h1:=Xak l
   have h2:=Xpc y
   unfold tot at*
   rw[X4T]
   rcases List.mem_cons.1 h with rfl | h
   · have e:cS x=(x.2.length:Int)+1:=rfl;omega
   · have:=ih h;omega
theorem XdD{l:List Ser}{s x:Ser}(h:x∈Xdu l s):x∈l∨x=s∨∃y∈l,x=(y.1,X2i y.2 s.2):=by
 unfold Xdu at h
 split at h
 · rename_i hh
   rcases List.mem_or_eq_of_mem_set h with h | h
   · exact .inl h
   · by_cases hi:pos Op.bytesLess Prod.fst s.1 l<l.length
     · exact .inr (.inr ⟨_,X14 hi,h⟩)
     · rw[List.set_eq_of_length_le (by omega)]at*
       exact .inl ‹_›
 · rcases XmL.1 h with h | h
   · exact .inr (.inl h)
   · exact .inl h
theorem XlH{l:List Ser}(h:X9p l){s:Ser}(hs:XaT s.2):X9p (Xdu l s):=⟨(XeX h.1 hs.1).1,fun x hx=>by
 rcases XdD hx with hx | rfl | ⟨y,hy,rfl⟩
 · exact h.2 x hx
 · exact hs
 · exact Xks (h.2 y hy) hs⟩
theorem XjS{l:List Ser}(ha:XcB l)(s:Ser):tot (Xdu l s)≤tot l+cS s:=by
 unfold Xdu
 split
 · rename_i h
   obtain⟨h1,_⟩:=Xca ha h
   generalize pos Op.bytesLess Prod.fst s.1 l=i at*
   obtain⟨e1,e2⟩:=Xil l i ([],[]) ((l.getD i ([],[])).1,X2i (l.getD i ([],[])).2 s.2) h1
   rw[e2]
   have hl:=X7w s.2 (l.getD i ([],[])).2
   generalize l.getD i ([],[])=x at*
   generalize l.take i=a at*
   generalize l.drop (i+1)=b at*
   subst e1
   unfold tot
   simp only[X98,X4T,cS];omega
 · have e0:tot l=cL cS (l.take (pos Op.bytesLess Prod.fst s.1 l))+cL cS (l.drop (pos Op.bytesLess Prod.fst s.1 l)):=by
    rw[←X98,List.take_append_drop];rfl
   rw[e0]
   unfold tot
   simp only[X98,X4T];omega
def X2S(l top:List Ser):List Ser:=top.foldl Xdu l
theorem Xcj(l:List Ser)(s:Ser)(t:List Ser):X2S l (s::t)=X2S (Xdu l s) t:=rfl
theorem X4C:∀{t l:List Ser},X9p l→(∀x∈t,XaT x.2)→X9p (X2S l t)
 | [],_,h,_=>h
 | s::t,l,h,ht=>X4C (t:=t) (XlH h (ht s (by simp))) fun x hx=>ht x (by simp[hx])
theorem Xa3:∀{t l:List Ser},X9p l→(∀x∈t,XaT x.2)→tot (X2S l t)≤tot l+tot t
 | [],_,_,_=>by simp[X2S,tot,cL]
 | s::t,l,h,ht=>by
   have h1:=Xa3 (t:=t) (XlH h (ht s (by simp))) fun x hx=>ht x (by simp[hx])
   have h2:=XjS h.1 s
   have h3:tot (s::t)=cS s+tot t:=X4T ..
   rw[Xcj];omega
theorem X4u:∀{t l:List Ser},XcB l→(∀x∈t,Xdq x.2)→XcB t→∀k,X2Q (X2S l t) k=X2i (X2Q l k) (X2Q t k)
 | [],_,_,_,_,k=>rfl
 | s::t,l,h,ht,ha,k=>by
   obtain⟨h1,h2⟩:=List.pairwise_cons.1 ha
   obtain⟨a1,a2,a3⟩:=XeX h (ht s (by simp))
   rw[Xcj,X4u a1 (fun x hx=>ht x (by simp[hx])) h2,a3,X2p]
   by_cases hk:s.1=k
   · subst hk
     have:X2Q t s.1=[]:=X9I (by
      rw[Bool.eq_false_iff];intro hh
      obtain⟨z,hz,e⟩:=X5i.1 hh
      have:=h1 z hz
      rw[e,X4M.irr]at this;cases this)
     rw[if_pos rfl,if_pos rfl,this,XbB]
   · rw[if_neg hk,if_neg hk]
def X0u(l:List Ser)(f:Int):List Ser:=(l.map fun x=>(x.1,X0Z x.2 f 1099511627777)).filter fun x=>!x.2.isEmpty
theorem Xcq(lo hi:Int):X0Z [] lo hi=[]:=rfl
theorem X23{l:List Ser}(h:XcB l)(f:Int):XcB (X0u l f):=by
 refine List.Pairwise.sublist List.filter_sublist ?_
 exact List.pairwise_map.2 h
theorem X1d{l:List Ser}(h:XcB l)(f:Int)(k:List UInt8):X2Q (X0u l f) k=X0Z (X2Q l k) f 1099511627777∧X5M (X0u l f) k=!(X0Z (X2Q l k) f 1099511627777).isEmpty:=by
 induction l with
 | nil=>exact⟨rfl,rfl⟩
 | cons x l ih=>
   obtain⟨h1,h2⟩:=List.pairwise_cons.1 h
   obtain⟨i1,i2⟩:=ih h2
   have hx:x.1=k→X5M l k=false:=fun e=>by
    rw[Bool.eq_false_iff];intro hh
    obtain⟨z,hz,e2⟩:=X5i.1 hh
    have:=h1 z hz
    rw[e,e2,X4M.irr]at this;cases this
   have e0:X0u (x::l) f=if (X0Z x.2 f 1099511627777).isEmpty then X0u l f else(x.1,X0Z x.2 f 1099511627777)::X0u l f:=by
    unfold X0u
    rw[List.map_cons,List.filter_cons]
    cases (X0Z x.2 f 1099511627777).isEmpty<;>rfl
   rw[e0,X2p]
   by_cases hk:x.1=k
   · have hn:=X9I (hx hk)
     rw[if_pos hk]
     cases he:(X0Z x.2 f 1099511627777).isEmpty with
     | true=>
       rw[if_pos rfl,i1,i2,hn,Xcq]
       refine⟨(List.isEmpty_iff.1 he).symm,rfl⟩
     | false=>
       rw[if_neg (by decide),X2p,if_pos hk,X6h]
       exact⟨rfl,by simp[hk]⟩
   · rw[if_neg hk]
     cases he:(X0Z x.2 f 1099511627777).isEmpty with
     | true=>rw[if_pos rfl];exact⟨i1,i2⟩
     | false=>rw[if_neg (by decide),X2p,if_neg hk,X6h,i1,i2];simp[hk]
theorem XaA{l:List Ser}{f:Int}{x:Ser}(h:x∈X0u l f):∃y∈l,x=(y.1,X0Z y.2 f 1099511627777):=by
 obtain⟨y,hy,e⟩:=List.mem_map.1 (List.mem_filter.1 h).1
 exact⟨y,hy,e.symm⟩
theorem Xmo{l:List Pt}(h:XaT l)(lo hi:Int):XaT (X0Z l lo hi):=⟨X6P h.1 lo hi,fun x hx=>h.2 x (X3K.1 hx).1⟩
theorem Xdv{l:List Ser}(h:X9p l)(f:Int):X9p (X0u l f):=⟨X23 h.1 f,fun x hx=>by
 obtain⟨y,hy,rfl⟩:=XaA hx
 exact Xmo (h.2 y hy) _ _⟩
theorem XbZ(l:List Pt)(lo hi:Int):(X0Z l lo hi).length≤l.length:=List.length_filter_le ..
def X2B(ls:List (List Ser)):List Ser:=ls.foldl X2S []
def Xr1(ls:List (List Ser))(k:List UInt8):List Pt:=ls.foldl (fun o l=>X2i o (X2Q l k)) []
theorem XfN:∀(ls:List (List Ser)) (l:List Ser),X9p l→(∀x∈ls,X9p x)→∀k,X2Q (ls.foldl X2S l) k=ls.foldl (fun o l=>X2i o (X2Q l k)) (X2Q l k)
 | [],l,_,_,k=>rfl
 | t::ls,l,h,ht,k=>by
   have ht0:=ht t (by simp)
   rw[List.foldl_cons,List.foldl_cons,XfN ls (X2S l t) (X4C h ht0.2) (fun x hx=>ht x (by simp[hx])),X4u h.1 (fun x hx=>(ht0.2 x hx).1) ht0.1]
theorem X7K:∀(ls:List (List Ser)) (l:List Ser),X9p l→(∀x∈ls,X9p x)→X9p (ls.foldl X2S l)
 | [],l,h,_=>h
 | t::ls,l,h,ht=>X7K ls (X2S l t) (X4C h (ht t (by simp)).2) fun x hx=>ht x (by simp[hx])
theorem Xbb:X9p []:=⟨List.Pairwise.nil,fun x hx=>by cases hx⟩
theorem X1I{l:List Ser}(h:X0y l=true):X9p l∧tot l≤305∧l.length≤5∧∀x∈l,x.1.length≤8∧x.2≠[]∧X0s x.2=true:=by
 simp only[X0y,Bool.and_eq_true,decide_eq_true_eq,Xfa,List.all_eq_true,List.mem_range]at h
 obtain⟨h5,h⟩:=h
 have hx:∀i,i<l.length→(l.getD i ([],[])).1.length≤8∧(i=0∨Op.bytesLess (l.getD (i - 1) ([],[])).1 (l.getD i ([],[])).1=true)∧(l.getD i ([],[])).2≠[]∧X0s (l.getD i ([],[])).2=true:=fun i hi=>by
  have:=h i hi
  simp only[Xi5,Bool.and_eq_true,Bool.or_eq_true,decide_eq_true_eq,X8b,fIn]at this
  refine⟨by omega,this.2.1,fun e=>?_,this.2.2.2⟩
  rw[e]at this;simp at this
 have hm:∀x∈l,x.1.length≤8∧x.2≠[]∧X0s x.2=true:=fun x hxl=>by
  obtain⟨i,hi,e⟩:=List.getElem_of_mem hxl
  have:=hx i hi
  rw[X0R hi,e]at this
  exact⟨this.1,this.2.2⟩
 refine⟨⟨?_,fun x hxl=>(X6p (hm x hxl).2.2).1⟩,?_,h5,hm⟩
 · have hs:∀(d:Nat) (i:Nat),i+d+1<l.length→Op.bytesLess (l.getD i ([],[])).1 (l.getD (i+d+1) ([],[])).1=true:=by
    intro d
    induction d with
    | zero=>intro i hi;have:=(hx (i+1) hi).2.1;simp at this;simpa using this
    | succ d ih=>
      intro i hi
      have a:=ih i (by omega)
      have c:=(hx (i+(d+1)+1) hi).2.1
      simp only[Nat.add_sub_cancel]at c
      rcases c with c | c
      · omega
      · exact X4M.tr _ _ _ a c
   refine List.pairwise_iff_getElem.2 fun i j hi hj hij=>?_
   have:=hs (j - i - 1) i (by omega)
   rw[show i+(j - i - 1)+1=j by omega,X0R hi,X0R hj]at this
   exact this
 · have:∀l:List Ser,(∀x∈l,X0s x.2=true)→tot l≤61*l.length:=fun l=>by
    induction l with
    | nil=>intro _;simp[tot,cL]
    | cons x l ih=>
      intro hh
      have h1:=ih fun y hy=>hh y (by simp[hy])
      have h2:=(X6p (hh x (by simp))).2
      have h3:tot (x::l)=cS x+tot l:=X4T ..
      rw[h3,List.length_cons];simp only[cS];omega
   have:=this l fun x hxl=>(hm x hxl).2.2
   omega
end Go.Proofs.YtcfaphojdacmbaaGreatR.B
