/- Series laid on each other:what it comes to. -/
import Derived.Test.YtcfaphojdacmbaaGreatRCMrg
import Derived.Test.YtcfaphojdacmbaaGreatRCTypes
set_option linter.unusedVariables false
set_option linter.unusedSimpArgs false
namespace Go.Proofs.YtcfaphojdacmbaaGreatR.B
open Go Go.Proofs.YtcfaphojdacmbaaGreatR.Bv
abbrev XbV(l:List Ser):Prop:=Asc Op.bytesLess Prod.fst l
def X5H(l:List Ser)(k:List UInt8):Bool:=l.any fun x=>decide (x.1=k)
theorem X54{l:List Ser}{k:List UInt8}:X5H l k=true↔∃x∈l,x.1=k:=by simp[X5H]
def X2L(l:List Ser)(k:List UInt8):List Pt:=match l.find? fun x=>decide (x.1=k) with
 | some x=>x.2
 | none=>[]
theorem XhL(k:List UInt8):X2L [] k=[]:=rfl
theorem X2j(x:Ser)(l:List Ser)(k:List UInt8):X2L (x::l) k=if x.1=k then x.2 else X2L l k:=by
 unfold X2L
 rw[List.find?_cons]
 by_cases h:x.1=k<;>simp[h]
theorem X9v{l:List Ser}{k:List UInt8}(h:X5H l k=false):X2L l k=[]:=by
 induction l with
 | nil=>rfl
 | cons x l ih=>
   simp only[X5H,List.any_cons,Bool.or_eq_false_iff,decide_eq_false_iff_not]at h
   rw[X2j,if_neg h.1];exact ih h.2
theorem X7R{l:List Ser}(h:XbV l){x:Ser}:x∈l↔X5H l x.1=true∧X2L l x.1=x.2:=by
 induction l with
 | nil=>simp[X5H]
 | cons y l ih=>
   obtain⟨h1,h2⟩:=List.pairwise_cons.1 h
   rw[List.mem_cons,ih h2,X2j,X54,X54]
   constructor
   · rintro (rfl | ⟨⟨z,hz,e⟩,h4⟩)
     · exact⟨⟨x,by simp,rfl⟩,by simp⟩
     · have:y.1≠x.1:=fun e2=>by have:=h1 z hz;rw[e,←e2,X4H.irr]at this;cases this
       exact⟨⟨z,by simp[hz],e⟩,by rw[if_neg this];exact h4⟩
   · rintro⟨⟨z,hz,e⟩,h4⟩
     by_cases hy:y.1=x.1
     · rw[if_pos hy]at h4
       exact .inl (Prod.ext hy.symm h4.symm)
     · rw[if_neg hy]at h4
       rcases List.mem_cons.1 hz with rfl | hz
       · exact absurd e hy
       · exact .inr ⟨⟨z,hz,e⟩,h4⟩
theorem Xeh{l r:List Ser}(hl:XbV l)(hr:XbV r)(h1:∀k,X5H l k=X5H r k)(h2:∀k,X2L l k=X2L r k):l=r:=
 Xco X4H hl hr fun x=>by rw[X7R hl,X7R hr,h1,h2]
theorem Xmb{l:List Ser}{k:List UInt8}{p:Pt}(h:p∈X2L l k):∃x∈l,x.1=k∧p∈x.2:=by
 induction l with
 | nil=>cases h
 | cons x l ih=>
   rw[X2j]at h
   split at h
   · exact⟨x,by simp,‹_›,h⟩
   · obtain⟨y,hy,e⟩:=ih h;exact⟨y,by simp[hy],e⟩
theorem Xb6{l:List Ser}(h:∀x∈l,XaI x.2)(k:List UInt8):XaI (X2L l k):=by
 induction l with
 | nil=>exact⟨List.Pairwise.nil,fun x hx=>by cases hx⟩
 | cons x l ih=>
   rw[X2j];split
   · exact h x (by simp)
   · exact ih fun y hy=>h y (by simp[hy])
theorem Xbz(a:List Pt):X2o a []=a:=rfl
theorem Xhy{b:List Pt}(h:Xde b):X2o [] b=b:=Xco XfQ (X4q List.Pairwise.nil) h fun x=>by rw[X21 h];simp
def Xdu(l:List Ser)(s:Ser):List Ser:=if X5H l s.1 then l.set (pos Op.bytesLess Prod.fst s.1 l) ((l.getD (pos Op.bytesLess Prod.fst s.1 l) ([],[])).1,X2o (l.getD (pos Op.bytesLess Prod.fst s.1 l) ([],[])).2 s.2)
 else l.take (pos Op.bytesLess Prod.fst s.1 l)++(s::l.drop (pos Op.bytesLess Prod.fst s.1 l))
theorem Xck{l:List Ser}(ha:XbV l){k:List UInt8}(h:X5H l k=true):pos Op.bytesLess Prod.fst k l<l.length∧(l.getD (pos Op.bytesLess Prod.fst k l) ([],[])).1=k:=by
 obtain⟨x,hx,e⟩:=X54.1 h
 obtain⟨i,hi,e2⟩:=List.getElem_of_mem hx
 have hg:(l.getD i ([],[])).1=k:=by rw[X0R hi,e2];exact e
 have hp:pos Op.bytesLess Prod.fst k l=i:=by
  refine XlA ([],[]) (Nat.le_of_lt hi) (fun j hj=>?_) (fun j hj hjl=>?_)
  · have:=X51 ([],[]) ha hj hi
    rw[hg]at this;exact this
  · rcases Nat.lt_or_eq_of_le hj with hj | rfl
    · have:=X51 ([],[]) ha hj hjl
      rw[hg]at this
      cases hx2:Op.bytesLess (l.getD j ([],[])).1 k with
      | false=>rfl
      | true=>have:=X4H.tr _ _ _ this hx2;rw[X4H.irr]at this;cases this
    · rw[hg];exact X4H.irr _
 rw[hp];exact⟨hi,hg⟩
theorem Xh8{α:Type}(l:List α)(i:Nat)(d y:α)(h:i<l.length):l=l.take i++l.getD i d::l.drop (i+1)∧l.set i y=l.take i++y::l.drop (i+1):=by
 refine⟨?_,by rw[List.set_eq_take_append_cons_drop,if_pos h]⟩
 conv=>lhs;rw[←List.take_append_drop i l,X4G d h]
theorem X5T(x:Ser)(b:List Ser)(k:List UInt8):X5H (x::b) k=(decide (x.1=k)||X5H b k):=by simp[X5H]
theorem X8e(a b:List Ser)(k:List UInt8):X2L (a++b) k=if X5H a k then X2L a k else X2L b k:=by
 induction a with
 | nil=>simp[X5H]
 | cons x a ih=>
   rw[List.cons_append,X2j,X2j,ih,X5T]
   by_cases h:x.1=k
   · simp[h]
   · simp[h]
theorem XeM(a b:List Ser)(k:List UInt8):X5H (a++b) k=(X5H a k||X5H b k):=by simp[X5H]
theorem XpN{a b:List Ser}{x y:Ser}(h:XbV (a++x::b))(e:y.1=x.1):XbV (a++y::b):=by
 simp only[XbV,Asc,List.pairwise_append,List.pairwise_cons,List.mem_cons]at h ⊢
 obtain⟨h1,⟨h2,h3⟩,h4⟩:=h
 refine⟨h1,⟨fun z hz=>by rw[e];exact h2 z hz,h3⟩,fun p hp q hq=>?_⟩
 rcases hq with rfl | hq
 · rw[e];exact h4 p hp x (.inl rfl)
 · exact h4 p hp q (.inr hq)
theorem Xeb{l:List Ser}(ha:XbV l){s:Ser}(hs:Xde s.2):XbV (Xdu l s)∧(∀k,X5H (Xdu l s) k=(X5H l k||decide (s.1=k)))∧∀k,X2L (Xdu l s) k=if s.1=k then X2o (X2L l k) s.2 else X2L l k:=by
 unfold Xdu
 split
 · rename_i h
   obtain⟨h1,h2⟩:=Xck ha h
   generalize pos Op.bytesLess Prod.fst s.1 l=i at*
   obtain⟨e1,e2⟩:=Xh8 l i ([],[]) ((l.getD i ([],[])).1,X2o (l.getD i ([],[])).2 s.2) h1
   rw[e2]
   generalize l.getD i ([],[])=x at*
   generalize l.take i=a at*
   generalize l.drop (i+1)=b at*
   subst e1
   refine⟨XpN ha rfl,fun k=>?_,fun k=>?_⟩
   · simp only[XeM,X5T,h2]
     cases X5H a k<;>cases decide (s.1=k)<;>cases X5H b k<;>rfl
   · rw[X8e,X8e,X2j,X2j]
     simp only[h2]
     by_cases hk:s.1=k
     · subst hk
       have hna:X5H a s.1=false:=by
        rw[Bool.eq_false_iff];intro hh
        obtain⟨z,hz,e⟩:=X54.1 hh
        have:=(List.pairwise_append.1 ha).2.2 z hz x (by simp)
        rw[e,h2,X4H.irr]at this;cases this
       simp[hna]
     · simp[hk]
 · rename_i h
   have hno:X5H l s.1=false:=by simpa using h
   have hp:∀x∈l,x.1≠s.1:=fun x hx e=>by rw[X54.2 ⟨x,hx,e⟩]at hno;cases hno
   refine⟨XmU X4H ha hp,fun k=>?_,fun k=>?_⟩
   · conv=>rhs;rw[←List.take_append_drop (pos Op.bytesLess Prod.fst s.1 l) l]
     simp only[XeM,X5T]
     cases X5H (l.take (pos Op.bytesLess Prod.fst s.1 l)) k<;>cases decide (s.1=k)<;>cases X5H (l.drop (pos Op.bytesLess Prod.fst s.1 l)) k<;>rfl
   · have e0:=X8e (l.take (pos Op.bytesLess Prod.fst s.1 l)) (l.drop (pos Op.bytesLess Prod.fst s.1 l)) k
     rw[List.take_append_drop]at e0
     rw[X8e,X2j,e0]
     by_cases hk:s.1=k
     · subst hk
       have hna:X5H (l.take (pos Op.bytesLess Prod.fst s.1 l)) s.1=false:=by
        rw[Bool.eq_false_iff];intro hh
        obtain⟨z,hz,e⟩:=X54.1 hh
        exact hp z (List.mem_of_mem_take hz) e
       have hnb:X5H (l.drop (pos Op.bytesLess Prod.fst s.1 l)) s.1=false:=by
        rw[Bool.eq_false_iff];intro hh
        obtain⟨z,hz,e⟩:=X54.1 hh
        exact hp z (List.mem_of_mem_drop hz) e
       simp[hna,X9v hnb,Xhy hs]
     · simp[hk]
def X8T(l:List Ser):Prop:=XbV l∧∀x∈l,XaI x.2
def cS(x:Ser):Int:=(x.2.length:Int)+1
theorem Xot(x:Ser):0≤cS x:=by unfold cS;omega
def tot(l:List Ser):Int:=cL cS l
theorem X9R(l:List Ser):0≤tot l:=Xmn Xot l
theorem X76(l:List Ser):(l.length:Int)≤tot l:=by
 unfold tot
 induction l with
 | nil=>simp[cL]
 | cons x l ih=>have e:cS x=(x.2.length:Int)+1:=rfl;rw[X4C,List.length_cons];omega
theorem XaY{l:List Ser}{x:Ser}(h:x∈l):(x.2.length:Int)+1≤tot l:=by
 induction l with
 | nil=>cases h
 | cons y l ih=>
   have h1:=X9R l
   have h2:=Xot y
   unfold tot at*
   rw[X4C]
   rcases List.mem_cons.1 h with rfl | h
   · have e:cS x=(x.2.length:Int)+1:=rfl;omega
   · have:=ih h;omega
theorem Xdm{l:List Ser}{s x:Ser}(h:x∈Xdu l s):x∈l∨x=s∨∃y∈l,x=(y.1,X2o y.2 s.2):=by
 unfold Xdu at h
 split at h
 · rename_i hh
   rcases List.mem_or_eq_of_mem_set h with h | h
   · exact .inl h
   · by_cases hi:pos Op.bytesLess Prod.fst s.1 l<l.length
     · exact .inr (.inr ⟨_,X0Y hi,h⟩)
     · rw[List.set_eq_of_length_le (by omega)]at*
       exact .inl ‹_›
 · rcases XmD.1 h with h | h
   · exact .inr (.inl h)
   · exact .inl h
theorem Xlv{l:List Ser}(h:X8T l){s:Ser}(hs:XaI s.2):X8T (Xdu l s):=⟨(Xeb h.1 hs.1).1,fun x hx=>by
 rcases Xdm hx with hx | rfl | ⟨y,hy,rfl⟩
 · exact h.2 x hx
 · exact hs
 · exact XkX (h.2 y hy) hs⟩
theorem XjH{l:List Ser}(ha:XbV l)(s:Ser):tot (Xdu l s)≤tot l+cS s:=by
 unfold Xdu
 split
 · rename_i h
   obtain⟨h1,_⟩:=Xck ha h
   generalize pos Op.bytesLess Prod.fst s.1 l=i at*
   obtain⟨e1,e2⟩:=Xh8 l i ([],[]) ((l.getD i ([],[])).1,X2o (l.getD i ([],[])).2 s.2) h1
   rw[e2]
   have hl:=X7q s.2 (l.getD i ([],[])).2
   generalize l.getD i ([],[])=x at*
   generalize l.take i=a at*
   generalize l.drop (i+1)=b at*
   subst e1
   unfold tot
   simp only[X9a,X4C,cS];omega
 · have e0:tot l=cL cS (l.take (pos Op.bytesLess Prod.fst s.1 l))+cL cS (l.drop (pos Op.bytesLess Prod.fst s.1 l)):=by
    rw[←X9a,List.take_append_drop];rfl
   rw[e0]
   unfold tot
   simp only[X9a,X4C];omega
def X2N(l top:List Ser):List Ser:=top.foldl Xdu l
theorem Xcl(l:List Ser)(s:Ser)(t:List Ser):X2N l (s::t)=X2N (Xdu l s) t:=rfl
theorem X4r:∀{t l:List Ser},X8T l→(∀x∈t,XaI x.2)→X8T (X2N l t)
 | [],_,h,_=>h
 | s::t,l,h,ht=>X4r (t:=t) (Xlv h (ht s (by simp))) fun x hx=>ht x (by simp[hx])
theorem Xad:∀{t l:List Ser},X8T l→(∀x∈t,XaI x.2)→tot (X2N l t)≤tot l+tot t
 | [],_,_,_=>by simp[X2N,tot,cL]
 | s::t,l,h,ht=>by
   have h1:=Xad (t:=t) (Xlv h (ht s (by simp))) fun x hx=>ht x (by simp[hx])
   have h2:=XjH h.1 s
   have h3:tot (s::t)=cS s+tot t:=X4C ..
   rw[Xcl];omega
theorem X3V:∀{t l:List Ser},XbV l→(∀x∈t,Xde x.2)→XbV t→∀k,X2L (X2N l t) k=X2o (X2L l k) (X2L t k)
 | [],_,_,_,_,k=>rfl
 | s::t,l,h,ht,ha,k=>by
   obtain⟨h1,h2⟩:=List.pairwise_cons.1 ha
   obtain⟨a1,a2,a3⟩:=Xeb h (ht s (by simp))
   rw[Xcl,X3V a1 (fun x hx=>ht x (by simp[hx])) h2,a3,X2j]
   by_cases hk:s.1=k
   · subst hk
     have:X2L t s.1=[]:=X9v (by
      rw[Bool.eq_false_iff];intro hh
      obtain⟨z,hz,e⟩:=X54.1 hh
      have:=h1 z hz
      rw[e,X4H.irr]at this;cases this)
     rw[if_pos rfl,if_pos rfl,this,Xbz]
   · rw[if_neg hk,if_neg hk]
def X0v(l:List Ser)(f:Int):List Ser:=(l.map fun x=>(x.1,X13 x.2 f 1099511627777)).filter fun x=>!x.2.isEmpty
theorem Xcg(lo hi:Int):X13 [] lo hi=[]:=rfl
theorem X1Z{l:List Ser}(h:XbV l)(f:Int):XbV (X0v l f):=by
 refine List.Pairwise.sublist List.filter_sublist ?_
 exact List.pairwise_map.2 h
theorem X1o{l:List Ser}(h:XbV l)(f:Int)(k:List UInt8):X2L (X0v l f) k=X13 (X2L l k) f 1099511627777∧X5H (X0v l f) k=!(X13 (X2L l k) f 1099511627777).isEmpty:=by
 induction l with
 | nil=>exact⟨rfl,rfl⟩
 | cons x l ih=>
   obtain⟨h1,h2⟩:=List.pairwise_cons.1 h
   obtain⟨i1,i2⟩:=ih h2
   have hx:x.1=k→X5H l k=false:=fun e=>by
    rw[Bool.eq_false_iff];intro hh
    obtain⟨z,hz,e2⟩:=X54.1 hh
    have:=h1 z hz
    rw[e,e2,X4H.irr]at this;cases this
   have e0:X0v (x::l) f=if (X13 x.2 f 1099511627777).isEmpty then X0v l f else(x.1,X13 x.2 f 1099511627777)::X0v l f:=by
    unfold X0v
    rw[List.map_cons,List.filter_cons]
    cases (X13 x.2 f 1099511627777).isEmpty<;>rfl
   rw[e0,X2j]
   by_cases hk:x.1=k
   · have hn:=X9v (hx hk)
     rw[if_pos hk]
     cases he:(X13 x.2 f 1099511627777).isEmpty with
     | true=>
       rw[if_pos rfl,i1,i2,hn,Xcg]
       refine⟨(List.isEmpty_iff.1 he).symm,rfl⟩
     | false=>
       rw[if_neg (by decide),X2j,if_pos hk,X5T]
       exact⟨rfl,by simp[hk]⟩
   · rw[if_neg hk]
     cases he:(X13 x.2 f 1099511627777).isEmpty with
     | true=>rw[if_pos rfl];exact⟨i1,i2⟩
     | false=>rw[if_neg (by decide),X2j,if_neg hk,X5T,i1,i2];simp[hk]
theorem Xai{l:List Ser}{f:Int}{x:Ser}(h:x∈X0v l f):∃y∈l,x=(y.1,X13 y.2 f 1099511627777):=by
 obtain⟨y,hy,e⟩:=List.mem_map.1 (List.mem_filter.1 h).1
 exact⟨y,hy,e.symm⟩
theorem Xme{l:List Pt}(h:XaI l)(lo hi:Int):XaI (X13 l lo hi):=⟨X6y h.1 lo hi,fun x hx=>h.2 x (X3E.1 hx).1⟩
theorem Xdp{l:List Ser}(h:X8T l)(f:Int):X8T (X0v l f):=⟨X1Z h.1 f,fun x hx=>by
 obtain⟨y,hy,rfl⟩:=Xai hx
 exact Xme (h.2 y hy) _ _⟩
theorem XbL(l:List Pt)(lo hi:Int):(X13 l lo hi).length≤l.length:=List.length_filter_le ..
def X2e(ls:List (List Ser)):List Ser:=ls.foldl X2N []
def XoG(ls:List (List Ser))(k:List UInt8):List Pt:=ls.foldl (fun o l=>X2o o (X2L l k)) []
theorem Xcm:∀(ls:List (List Ser)) (l:List Ser),X8T l→(∀x∈ls,X8T x)→∀k,X2L (ls.foldl X2N l) k=ls.foldl (fun o l=>X2o o (X2L l k)) (X2L l k)
 | [],l,_,_,k=>rfl
 | t::ls,l,h,ht,k=>by
   have ht0:=ht t (by simp)
   rw[List.foldl_cons,List.foldl_cons,Xcm ls (X2N l t) (X4r h ht0.2) (fun x hx=>ht x (by simp[hx])),X3V h.1 (fun x hx=>(ht0.2 x hx).1) ht0.1]
theorem X7l:∀(ls:List (List Ser)) (l:List Ser),X8T l→(∀x∈ls,X8T x)→X8T (ls.foldl X2N l)
 | [],l,h,_=>h
 | t::ls,l,h,ht=>X7l ls (X2N l t) (X4r h (ht t (by simp)).2) fun x hx=>ht x (by simp[hx])
theorem XaG:X8T []:=⟨List.Pairwise.nil,fun x hx=>by cases hx⟩
theorem X16{l:List Ser}(h:X0y l=true):X8T l∧tot l≤305∧l.length≤5∧∀x∈l,x.1.length≤8∧x.2≠[]∧X0u x.2=true:=by
 simp only[X0y,Bool.and_eq_true,decide_eq_true_eq,XeY,List.all_eq_true,List.mem_range]at h
 obtain⟨h5,h⟩:=h
 have hx:∀i,i<l.length→(l.getD i ([],[])).1.length≤8∧(i=0∨Op.bytesLess (l.getD (i - 1) ([],[])).1 (l.getD i ([],[])).1=true)∧(l.getD i ([],[])).2≠[]∧X0u (l.getD i ([],[])).2=true:=fun i hi=>by
  have:=h i hi
  simp only[XhW,Bool.and_eq_true,Bool.or_eq_true,decide_eq_true_eq,X81,fIn]at this
  refine⟨by omega,this.2.1,fun e=>?_,this.2.2.2⟩
  rw[e]at this;simp at this
 have hm:∀x∈l,x.1.length≤8∧x.2≠[]∧X0u x.2=true:=fun x hxl=>by
  obtain⟨i,hi,e⟩:=List.getElem_of_mem hxl
  have:=hx i hi
  rw[X0R hi,e]at this
  exact⟨this.1,this.2.2⟩
 refine⟨⟨?_,fun x hxl=>(X6H (hm x hxl).2.2).1⟩,?_,h5,hm⟩
 · have hs:∀(d:Nat) (i:Nat),i+d+1<l.length→Op.bytesLess (l.getD i ([],[])).1 (l.getD (i+d+1) ([],[])).1=true:=by
    intro d
    induction d with
    | zero=>intro i hi;have:=(hx (i+1) hi).2.1;simp at this;simpa using this
    | succ d ih=>
      intro i hi
      have a:=ih i (by omega)
      have c:=(hx (i+(d+1)+1) hi).2.1
      simp only[Nat.add_sub_cancel]at c
      rcases c with c | c
      · omega
      · exact X4H.tr _ _ _ a c
   refine List.pairwise_iff_getElem.2 fun i j hi hj hij=>?_
   have:=hs (j - i - 1) i (by omega)
   rw[show i+(j - i - 1)+1=j by omega,X0R hi,X0R hj]at this
   exact this
 · have:∀l:List Ser,(∀x∈l,X0u x.2=true)→tot l≤61*l.length:=fun l=>by
    induction l with
    | nil=>intro _;simp[tot,cL]
    | cons x l ih=>
      intro hh
      have h1:=ih fun y hy=>hh y (by simp[hy])
      have h2:=(X6H (hh x (by simp))).2
      have h3:tot (x::l)=cS x+tot l:=X4C ..
      rw[h3,List.length_cons];simp only[cS];omega
   have:=this l fun x hxl=>(hm x hxl).2.2
   omega
end Go.Proofs.YtcfaphojdacmbaaGreatR.B
