/- Series laid on each other:what it comes to. -/
import Derived.Test.YtnoapekdbmpiaaaGreatCMrg
import Derived.Test.YtnoapekdbmpiaaaGreatCTypes
set_option linter.unusedVariables false
set_option linter.unusedSimpArgs false
namespace Go.Proofs.YtnoapekdbmpiaaaGreat.B
open Go Go.Proofs.YtnoapekdbmpiaaaGreat.Bv
abbrev AscS (l:List Ser):Prop:=Asc Op.bytesLess Prod.fst l
def hasK (l:List Ser) (k:List UInt8):Bool:=l.any fun x=>decide (x.1=k)
theorem hasK_iff {l:List Ser} {k:List UInt8}:hasK l k=true↔∃x∈l,x.1=k:=by simp [hasK]
def ptsOf (l:List Ser) (k:List UInt8):List Pt:=match l.find? fun x=>decide (x.1=k) with
 | some x=>x.2
 | none=>[]
theorem ptsOf_nil (k:List UInt8):ptsOf [] k=[]:=rfl
theorem ptsOf_cons (x:Ser) (l:List Ser) (k:List UInt8):ptsOf (x::l) k=if x.1=k then x.2 else ptsOf l k:=by
 unfold ptsOf
 rw [List.find?_cons]
 by_cases h:x.1=k<;>simp [h]
theorem ptsOf_no {l:List Ser} {k:List UInt8} (h:hasK l k=false):ptsOf l k=[]:=by
 induction l with
 | nil=>rfl
 | cons x l ih=>
   simp only [hasK,List.any_cons,Bool.or_eq_false_iff,decide_eq_false_iff_not] at h
   rw [ptsOf_cons,if_neg h.1];exact ih h.2
theorem mem_ptsOf {l:List Ser} (h:AscS l) {x:Ser}:x∈l↔hasK l x.1=true∧ptsOf l x.1=x.2:=by
 induction l with
 | nil=>simp [hasK]
 | cons y l ih=>
   obtain⟨h1,h2⟩:=List.pairwise_cons.1 h
   rw [List.mem_cons,ih h2,ptsOf_cons,hasK_iff,hasK_iff]
   constructor
   · rintro (rfl | ⟨⟨z,hz,e⟩,h4⟩)
     · exact⟨⟨x,by simp,rfl⟩,by simp⟩
     · have:y.1≠x.1:=fun e2=>by have:=h1 z hz;rw [e,←e2,strOrd.irr] at this;cases this
       exact⟨⟨z,by simp [hz],e⟩,by rw [if_neg this];exact h4⟩
   · rintro⟨⟨z,hz,e⟩,h4⟩
     by_cases hy:y.1=x.1
     · rw [if_pos hy] at h4
       exact .inl (Prod.ext hy.symm h4.symm)
     · rw [if_neg hy] at h4
       rcases List.mem_cons.1 hz with rfl | hz
       · exact absurd e hy
       · exact .inr ⟨⟨z,hz,e⟩,h4⟩
theorem ser_ext {l r:List Ser} (hl:AscS l) (hr:AscS r) (h1:∀k,hasK l k=hasK r k) (h2:∀k,ptsOf l k=ptsOf r k):l=r:=
 asc_ext strOrd hl hr fun x=>by rw [mem_ptsOf hl,mem_ptsOf hr,h1,h2]
theorem merge_nil (a:List Pt):fMerge a []=a:=rfl
theorem nil_merge {b:List Pt} (h:AscP b):fMerge [] b=b:=asc_ext intOrd (fMerge_asc List.Pairwise.nil) h fun x=>by rw [mem_fMerge h];simp
def lay1 (l:List Ser) (s:Ser):List Ser:=if hasK l s.1 then l.set (pos Op.bytesLess Prod.fst s.1 l) ((l.getD (pos Op.bytesLess Prod.fst s.1 l) ([],[])).1,fMerge (l.getD (pos Op.bytesLess Prod.fst s.1 l) ([],[])).2 s.2)
 else l.take (pos Op.bytesLess Prod.fst s.1 l)++(s::l.drop (pos Op.bytesLess Prod.fst s.1 l))
theorem has_pos {l:List Ser} (ha:AscS l) {k:List UInt8} (h:hasK l k=true):pos Op.bytesLess Prod.fst k l<l.length∧(l.getD (pos Op.bytesLess Prod.fst k l) ([],[])).1=k:=by
 obtain⟨x,hx,e⟩:=hasK_iff.1 h
 obtain⟨i,hi,e2⟩:=List.getElem_of_mem hx
 have hg:(l.getD i ([],[])).1=k:=by rw [getD_lt hi,e2];exact e
 have hp:pos Op.bytesLess Prod.fst k l=i:=by
  refine pos_of ([],[]) (Nat.le_of_lt hi) (fun j hj=>?_) (fun j hj hjl=>?_)
  · have:=asc_getD ([],[]) ha hj hi
    rw [hg] at this;exact this
  · rcases Nat.lt_or_eq_of_le hj with hj | rfl
    · have:=asc_getD ([],[]) ha hj hjl
      rw [hg] at this
      cases hx2:Op.bytesLess (l.getD j ([],[])).1 k with
      | false=>rfl
      | true=>have:=strOrd.tr _ _ _ this hx2;rw [strOrd.irr] at this;cases this
    · rw [hg];exact strOrd.irr _
 rw [hp];exact⟨hi,hg⟩
theorem set_split {α:Type} (l:List α) (i:Nat) (d y:α) (h:i<l.length):l=l.take i++l.getD i d::l.drop (i+1)∧l.set i y=l.take i++y::l.drop (i+1):=by
 refine⟨?_,by rw [List.set_eq_take_append_cons_drop,if_pos h]⟩
 conv=>lhs;rw [←List.take_append_drop i l,drop_getD d h]
theorem hasK_cons (x:Ser) (b:List Ser) (k:List UInt8):hasK (x::b) k=(decide (x.1=k)||hasK b k):=by simp [hasK]
theorem ptsOf_append (a b:List Ser) (k:List UInt8):ptsOf (a++b) k=if hasK a k then ptsOf a k else ptsOf b k:=by
 induction a with
 | nil=>simp [hasK]
 | cons x a ih=>
   rw [List.cons_append,ptsOf_cons,ptsOf_cons,ih,hasK_cons]
   by_cases h:x.1=k
   · simp [h]
   · simp [h]
theorem hasK_append (a b:List Ser) (k:List UInt8):hasK (a++b) k=(hasK a k||hasK b k):=by simp [hasK]
theorem asc_set {a b:List Ser} {x y:Ser} (h:AscS (a++x::b)) (e:y.1=x.1):AscS (a++y::b):=by
 simp only [AscS,Asc,List.pairwise_append,List.pairwise_cons,List.mem_cons] at h ⊢
 obtain⟨h1,⟨h2,h3⟩,h4⟩:=h
 refine⟨h1,⟨fun z hz=>by rw [e];exact h2 z hz,h3⟩,fun p hp q hq=>?_⟩
 rcases hq with rfl | hq
 · rw [e];exact h4 p hp x (.inl rfl)
 · exact h4 p hp q (.inr hq)
theorem lay1_spec {l:List Ser} (ha:AscS l) {s:Ser} (hs:AscP s.2):AscS (lay1 l s)∧(∀k,hasK (lay1 l s) k=(hasK l k||decide (s.1=k)))∧∀k,ptsOf (lay1 l s) k=if s.1=k then fMerge (ptsOf l k) s.2 else ptsOf l k:=by
 unfold lay1
 split
 · rename_i h
   obtain⟨h1,h2⟩:=has_pos ha h
   generalize pos Op.bytesLess Prod.fst s.1 l=i at*
   obtain⟨e1,e2⟩:=set_split l i ([],[]) ((l.getD i ([],[])).1,fMerge (l.getD i ([],[])).2 s.2) h1
   rw [e2]
   generalize l.getD i ([],[])=x at*
   generalize l.take i=a at*
   generalize l.drop (i+1)=b at*
   subst e1
   refine⟨asc_set ha rfl,fun k=>?_,fun k=>?_⟩
   · simp only [hasK_append,hasK_cons,h2]
     cases hasK a k<;>cases decide (s.1=k)<;>cases hasK b k<;>rfl
   · rw [ptsOf_append,ptsOf_append,ptsOf_cons,ptsOf_cons]
     simp only [h2]
     by_cases hk:s.1=k
     · subst hk
       have hna:hasK a s.1=false:=by
        rw [Bool.eq_false_iff];intro hh
        obtain⟨z,hz,e⟩:=hasK_iff.1 hh
        have:=(List.pairwise_append.1 ha).2.2 z hz x (by simp)
        rw [e,h2,strOrd.irr] at this;cases this
       simp [hna]
     · simp [hk]
 · rename_i h
   have hno:hasK l s.1=false:=by simpa using h
   have hp:∀x∈l,x.1≠s.1:=fun x hx e=>by rw [hasK_iff.2 ⟨x,hx,e⟩] at hno;cases hno
   refine⟨asc_ins strOrd ha hp,fun k=>?_,fun k=>?_⟩
   · conv=>rhs;rw [←List.take_append_drop (pos Op.bytesLess Prod.fst s.1 l) l]
     simp only [hasK_append,hasK_cons]
     cases hasK (l.take (pos Op.bytesLess Prod.fst s.1 l)) k<;>cases decide (s.1=k)<;>cases hasK (l.drop (pos Op.bytesLess Prod.fst s.1 l)) k<;>rfl
   · have e0:=ptsOf_append (l.take (pos Op.bytesLess Prod.fst s.1 l)) (l.drop (pos Op.bytesLess Prod.fst s.1 l)) k
     rw [List.take_append_drop] at e0
     rw [ptsOf_append,ptsOf_cons,e0]
     by_cases hk:s.1=k
     · subst hk
       have hna:hasK (l.take (pos Op.bytesLess Prod.fst s.1 l)) s.1=false:=by
        rw [Bool.eq_false_iff];intro hh
        obtain⟨z,hz,e⟩:=hasK_iff.1 hh
        exact hp z (List.mem_of_mem_take hz) e
       have hnb:hasK (l.drop (pos Op.bytesLess Prod.fst s.1 l)) s.1=false:=by
        rw [Bool.eq_false_iff];intro hh
        obtain⟨z,hz,e⟩:=hasK_iff.1 hh
        exact hp z (List.mem_of_mem_drop hz) e
       simp [hna,ptsOf_no hnb,nil_merge hs]
     · simp [hk]
def SerR (l:List Ser):Prop:=AscS l∧∀x∈l,PtsR x.2
def cS (x:Ser):Int:=(x.2.length:Int)+1
theorem cS_pos (x:Ser):0≤cS x:=by unfold cS;omega
def tot (l:List Ser):Int:=cL cS l
theorem tot_pos (l:List Ser):0≤tot l:=cL_pos cS_pos l
theorem len_tot (l:List Ser):(l.length:Int)≤tot l:=by
 unfold tot
 induction l with
 | nil=>simp [cL]
 | cons x l ih=>have e:cS x=(x.2.length:Int)+1:=rfl;rw [cL_cons,List.length_cons];omega
theorem mem_tot {l:List Ser} {x:Ser} (h:x∈l):(x.2.length:Int)+1≤tot l:=by
 induction l with
 | nil=>cases h
 | cons y l ih=>
   have h1:=tot_pos l
   have h2:=cS_pos y
   unfold tot at*
   rw [cL_cons]
   rcases List.mem_cons.1 h with rfl | h
   · have e:cS x=(x.2.length:Int)+1:=rfl;omega
   · have:=ih h;omega
theorem mem_lay1 {l:List Ser} {s x:Ser} (h:x∈lay1 l s):x∈l∨x=s∨∃y∈l,x=(y.1,fMerge y.2 s.2):=by
 unfold lay1 at h
 split at h
 · rename_i hh
   rcases List.mem_or_eq_of_mem_set h with h | h
   · exact .inl h
   · by_cases hi:pos Op.bytesLess Prod.fst s.1 l<l.length
     · exact .inr (.inr ⟨_,getD_mem hi,h⟩)
     · rw [List.set_eq_of_length_le (by omega)] at*
       exact .inl ‹_›
 · rcases mem_ins.1 h with h | h
   · exact .inr (.inl h)
   · exact .inl h
theorem lay1_R {l:List Ser} (h:SerR l) {s:Ser} (hs:PtsR s.2):SerR (lay1 l s):=⟨(lay1_spec h.1 hs.1).1,fun x hx=>by
 rcases mem_lay1 hx with hx | rfl | ⟨y,hy,rfl⟩
 · exact h.2 x hx
 · exact hs
 · exact PtsR_merge (h.2 y hy) hs⟩
theorem lay1_tot {l:List Ser} (ha:AscS l) (s:Ser):tot (lay1 l s)≤tot l+cS s:=by
 unfold lay1
 split
 · rename_i h
   obtain⟨h1,_⟩:=has_pos ha h
   generalize pos Op.bytesLess Prod.fst s.1 l=i at*
   obtain⟨e1,e2⟩:=set_split l i ([],[]) ((l.getD i ([],[])).1,fMerge (l.getD i ([],[])).2 s.2) h1
   rw [e2]
   have hl:=fMerge_length s.2 (l.getD i ([],[])).2
   generalize l.getD i ([],[])=x at*
   generalize l.take i=a at*
   generalize l.drop (i+1)=b at*
   subst e1
   unfold tot
   simp only [cL_append,cL_cons,cS];omega
 · have e0:tot l=cL cS (l.take (pos Op.bytesLess Prod.fst s.1 l))+cL cS (l.drop (pos Op.bytesLess Prod.fst s.1 l)):=by
    rw [←cL_append,List.take_append_drop];rfl
   rw [e0]
   unfold tot
   simp only [cL_append,cL_cons];omega
def fLaid (l top:List Ser):List Ser:=top.foldl lay1 l
theorem fLaid_cons (l:List Ser) (s:Ser) (t:List Ser):fLaid l (s::t)=fLaid (lay1 l s) t:=rfl
theorem fLaid_R:∀{t l:List Ser},SerR l→(∀x∈t,PtsR x.2)→SerR (fLaid l t)
 | [],_,h,_=>h
 | s::t,l,h,ht=>fLaid_R (t:=t) (lay1_R h (ht s (by simp))) fun x hx=>ht x (by simp [hx])
theorem fLaid_tot:∀{t l:List Ser},SerR l→(∀x∈t,PtsR x.2)→tot (fLaid l t)≤tot l+tot t
 | [],_,_,_=>by simp [fLaid,tot,cL]
 | s::t,l,h,ht=>by
   have h1:=fLaid_tot (t:=t) (lay1_R h (ht s (by simp))) fun x hx=>ht x (by simp [hx])
   have h2:=lay1_tot h.1 s
   have h3:tot (s::t)=cS s+tot t:=cL_cons ..
   rw [fLaid_cons];omega
theorem fLaid_pts:∀{t l:List Ser},AscS l→(∀x∈t,AscP x.2)→AscS t→∀k,ptsOf (fLaid l t) k=fMerge (ptsOf l k) (ptsOf t k)
 | [],_,_,_,_,k=>rfl
 | s::t,l,h,ht,ha,k=>by
   obtain⟨h1,h2⟩:=List.pairwise_cons.1 ha
   obtain⟨a1,a2,a3⟩:=lay1_spec h (ht s (by simp))
   rw [fLaid_cons,fLaid_pts a1 (fun x hx=>ht x (by simp [hx])) h2,a3,ptsOf_cons]
   by_cases hk:s.1=k
   · subst hk
     have:ptsOf t s.1=[]:=ptsOf_no (by
      rw [Bool.eq_false_iff];intro hh
      obtain⟨z,hz,e⟩:=hasK_iff.1 hh
      have:=h1 z hz
      rw [e,strOrd.irr] at this;cases this)
     rw [if_pos rfl,if_pos rfl,this,merge_nil]
   · rw [if_neg hk,if_neg hk]
def fRaised (l:List Ser) (f:Int):List Ser:=(l.map fun x=>(x.1,fSlice x.2 f 1099511627777)).filter fun x=>!x.2.isEmpty
theorem fSlice_nil (lo hi:Int):fSlice [] lo hi=[]:=rfl
theorem raised_asc {l:List Ser} (h:AscS l) (f:Int):AscS (fRaised l f):=by
 refine List.Pairwise.sublist List.filter_sublist ?_
 exact List.pairwise_map.2 h
theorem raised_pts {l:List Ser} (h:AscS l) (f:Int) (k:List UInt8):ptsOf (fRaised l f) k=fSlice (ptsOf l k) f 1099511627777∧hasK (fRaised l f) k=!(fSlice (ptsOf l k) f 1099511627777).isEmpty:=by
 induction l with
 | nil=>exact⟨rfl,rfl⟩
 | cons x l ih=>
   obtain⟨h1,h2⟩:=List.pairwise_cons.1 h
   obtain⟨i1,i2⟩:=ih h2
   have hx:x.1=k→hasK l k=false:=fun e=>by
    rw [Bool.eq_false_iff];intro hh
    obtain⟨z,hz,e2⟩:=hasK_iff.1 hh
    have:=h1 z hz
    rw [e,e2,strOrd.irr] at this;cases this
   have e0:fRaised (x::l) f=if (fSlice x.2 f 1099511627777).isEmpty then fRaised l f else (x.1,fSlice x.2 f 1099511627777)::fRaised l f:=by
    unfold fRaised
    rw [List.map_cons,List.filter_cons]
    cases (fSlice x.2 f 1099511627777).isEmpty<;>rfl
   rw [e0,ptsOf_cons]
   by_cases hk:x.1=k
   · have hn:=ptsOf_no (hx hk)
     rw [if_pos hk]
     cases he:(fSlice x.2 f 1099511627777).isEmpty with
     | true=>
       rw [if_pos rfl,i1,i2,hn,fSlice_nil]
       refine⟨(List.isEmpty_iff.1 he).symm,rfl⟩
     | false=>
       rw [if_neg (by decide),ptsOf_cons,if_pos hk,hasK_cons]
       exact⟨rfl,by simp [hk]⟩
   · rw [if_neg hk]
     cases he:(fSlice x.2 f 1099511627777).isEmpty with
     | true=>rw [if_pos rfl];exact⟨i1,i2⟩
     | false=>rw [if_neg (by decide),ptsOf_cons,if_neg hk,hasK_cons,i1,i2];simp [hk]
theorem raised_mem {l:List Ser} {f:Int} {x:Ser} (h:x∈fRaised l f):∃y∈l,x=(y.1,fSlice y.2 f 1099511627777):=by
 obtain⟨y,hy,e⟩:=List.mem_map.1 (List.mem_filter.1 h).1
 exact⟨y,hy,e.symm⟩
def fLayers (ls:List (List Ser)):List Ser:=ls.foldl fLaid []
def hasL (ls:List (List Ser)) (k:List UInt8):List Pt:=ls.foldl (fun o l=>fMerge o (ptsOf l k)) []
theorem layers_pts:∀(ls:List (List Ser)) (l:List Ser),SerR l→(∀x∈ls,SerR x)→∀k,ptsOf (ls.foldl fLaid l) k=ls.foldl (fun o l=>fMerge o (ptsOf l k)) (ptsOf l k)
 | [],l,_,_,k=>rfl
 | t::ls,l,h,ht,k=>by
   have ht0:=ht t (by simp)
   rw [List.foldl_cons,List.foldl_cons,layers_pts ls (fLaid l t) (fLaid_R h ht0.2) (fun x hx=>ht x (by simp [hx])),fLaid_pts h.1 (fun x hx=>(ht0.2 x hx).1) ht0.1]
theorem layers_R:∀(ls:List (List Ser)) (l:List Ser),SerR l→(∀x∈ls,SerR x)→SerR (ls.foldl fLaid l)
 | [],l,h,_=>h
 | t::ls,l,h,ht=>layers_R ls (fLaid l t) (fLaid_R h (ht t (by simp)).2) fun x hx=>ht x (by simp [hx])
theorem nil_R:SerR []:=⟨List.Pairwise.nil,fun x hx=>by cases hx⟩
theorem fSerOk_R {l:List Ser} (h:fSerOk l=true):SerR l∧tot l≤305∧l.length≤5∧∀x∈l,x.1.length≤8∧x.2≠[]∧fPtsOk x.2=true:=by
 simp only [fSerOk,Bool.and_eq_true,decide_eq_true_eq,allB,List.all_eq_true,List.mem_range] at h
 obtain⟨h5,h⟩:=h
 have hx:∀i,i<l.length→(l.getD i ([],[])).1.length≤8∧(i=0∨Op.bytesLess (l.getD (i - 1) ([],[])).1 (l.getD i ([],[])).1=true)∧(l.getD i ([],[])).2≠[]∧fPtsOk (l.getD i ([],[])).2=true:=fun i hi=>by
  have:=h i hi
  simp only [srAt,Bool.and_eq_true,Bool.or_eq_true,decide_eq_true_eq,fKey,fIn] at this
  refine⟨by omega,this.2.1,fun e=>?_,this.2.2.2⟩
  rw [e] at this;simp at this
 have hm:∀x∈l,x.1.length≤8∧x.2≠[]∧fPtsOk x.2=true:=fun x hxl=>by
  obtain⟨i,hi,e⟩:=List.getElem_of_mem hxl
  have:=hx i hi
  rw [getD_lt hi,e] at this
  exact⟨this.1,this.2.2⟩
 refine⟨⟨?_,fun x hxl=>(fPtsOk_R (hm x hxl).2.2).1⟩,?_,h5,hm⟩
 · have hs:∀(d:Nat) (i:Nat),i+d+1<l.length→Op.bytesLess (l.getD i ([],[])).1 (l.getD (i+d+1) ([],[])).1=true:=by
    intro d
    induction d with
    | zero=>intro i hi;have:=(hx (i+1) hi).2.1;simp at this;simpa using this
    | succ d ih=>
      intro i hi
      have a:=ih i (by omega)
      have c:=(hx (i+(d+1)+1) hi).2.1
      simp only [Nat.add_sub_cancel] at c
      rcases c with c | c
      · omega
      · exact strOrd.tr _ _ _ a c
   refine List.pairwise_iff_getElem.2 fun i j hi hj hij=>?_
   have:=hs (j - i - 1) i (by omega)
   rw [show i+(j - i - 1)+1=j by omega,getD_lt hi,getD_lt hj] at this
   exact this
 · have:∀l:List Ser,(∀x∈l,fPtsOk x.2=true)→tot l≤61*l.length:=fun l=>by
    induction l with
    | nil=>intro _;simp [tot,cL]
    | cons x l ih=>
      intro hh
      have h1:=ih fun y hy=>hh y (by simp [hy])
      have h2:=(fPtsOk_R (hh x (by simp))).2
      have h3:tot (x::l)=cS x+tot l:=cL_cons ..
      rw [h3,List.length_cons];simp only [cS];omega
   have:=this l fun x hxl=>(hm x hxl).2.2
   omega
end Go.Proofs.YtnoapekdbmpiaaaGreat.B
