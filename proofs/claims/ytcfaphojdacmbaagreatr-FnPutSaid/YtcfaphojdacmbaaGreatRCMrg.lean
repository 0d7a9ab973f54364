/- Lists that rise;points merged and sliced:what it comes to. -/
import Derived.Test.YtcfaphojdacmbaaGreatRCSer
set_option linter.unusedVariables false
set_option linter.unusedSimpArgs false
namespace Go.Proofs.YtcfaphojdacmbaaGreatR.B
open Go Go.Proofs.YtcfaphojdacmbaaGreatR.Bv
structure Xq6 {K:Type} (lt:K→K→Bool):Prop where
 irr:∀a,lt a a=false
 tr:∀a b c,lt a b=true→lt b c=true→lt a c=true
 tri:∀a b,lt a b=true∨a=b∨lt b a=true
def Asc{K α:Type}(lt:K→K→Bool)(key:α→K)(l:List α):Prop:=l.Pairwise fun x y=>lt (key x) (key y)=true
section
variable {K α:Type} {lt:K→K→Bool} {key:α→K}
theorem Xco(o:Xq6 lt):∀{l r:List α},Asc lt key l→Asc lt key r→(∀x,x∈l↔x∈r)→l=r
 | [],[],_,_,_=>rfl
 | [],y::r,_,_,h=>absurd ((h y).2 (by simp)) (by simp)
 | x::l,[],_,_,h=>absurd ((h x).1 (by simp)) (by simp)
 | x::l,y::r,hl,hr,h=>by
   obtain⟨h1,h2⟩:=List.pairwise_cons.1 hl
   obtain⟨h3,h4⟩:=List.pairwise_cons.1 hr
   have e:x=y:=by
    rcases List.mem_cons.1 ((h x).1 (by simp)) with e | hx
    · exact e
    · rcases List.mem_cons.1 ((h y).2 (by simp)) with e | hy
      · exact e.symm
      · have:=o.tr _ _ _ (h1 y hy) (h3 x hx)
        rw[o.irr]at this;cases this
   subst e
   rw[Xco o h2 h4 fun z=>⟨fun hz=>?_,fun hz=>?_⟩]
   · rcases List.mem_cons.1 ((h z).1 (by simp[hz])) with e | hz'
     · subst e;have:=h1 z hz;rw[o.irr]at this;cases this
     · exact hz'
   · rcases List.mem_cons.1 ((h z).2 (by simp[hz])) with e | hz'
     · subst e;have:=h3 z hz;rw[o.irr]at this;cases this
     · exact hz'
def pos(lt:K→K→Bool)(key:α→K)(k:K)(l:List α):Nat:=(l.takeWhile fun x=>lt (key x) k).length
theorem XmI(k:K)(l:List α):pos lt key k l≤l.length:=by
 unfold pos
 induction l with
 | nil=>simp
 | cons x l ih=>rw[List.takeWhile_cons];split<;>simp;omega
theorem Xm2(k:K)(d:α):∀(l:List α) (i:Nat),i<pos lt key k l→lt (key (l.getD i d)) k=true
 | [],i,h=>by simp[pos]at h
 | x::l,i,h=>by
   unfold pos at h
   rw[List.takeWhile_cons]at h
   split at h
   · rename_i hx
     cases i with
     | zero=>simpa using hx
     | succ i=>simp at h;simpa using Xm2 k d l i h
   · simp at h
theorem Xmr(k:K)(d:α):∀(l:List α),pos lt key k l<l.length→lt (key (l.getD (pos lt key k l) d)) k=false
 | [],h=>by simp at h
 | x::l,h=>by
   by_cases hx:lt (key x) k=true
   · have e:pos lt key k (x::l)=pos lt key k l+1:=by unfold pos;rw[List.takeWhile_cons,if_pos hx];rfl
     rw[e]at h ⊢
     simp at h
     simpa using Xmr k d l h
   · have e:pos lt key k (x::l)=0:=by unfold pos;rw[List.takeWhile_cons,if_neg hx];rfl
     rw[e];simpa using hx
theorem XlA{k:K}{l:List α}{i:Nat}(d:α)(hi:i≤l.length)(h1:∀j,j<i→lt (key (l.getD j d)) k=true)(h2:∀j,i≤j→j<l.length→lt (key (l.getD j d)) k=false):pos lt key k l=i:=by
 rcases Nat.lt_trichotomy (pos lt key k l) i with h | h | h
 · have a:=h1 _ h
   rw[Xmr (lt:=lt) (key:=key) k d l (by omega)]at a;cases a
 · exact h
 · have a:=Xm2 (lt:=lt) (key:=key) k d l i h
   have:=XmI (lt:=lt) (key:=key) k l
   rw[h2 i (Nat.le_refl _) (by omega)]at a;cases a
theorem X51(d:α){l:List α}(h:Asc lt key l){i j:Nat}(hij:i<j)(hj:j<l.length):lt (key (l.getD i d)) (key (l.getD j d))=true:=by
 have:=List.pairwise_iff_getElem.1 h i j (by omega) hj hij
 rw[X0R (by omega),X0R hj];exact this
theorem Xid{k:K}{l:List α}{x:α}(h:x∈l.take (pos lt key k l)):lt (key x) k=true:=by
 obtain⟨i,hi,e⟩:=List.getElem_of_mem h
 rw[List.length_take]at hi
 have:=Xm2 (lt:=lt) (key:=key) k x l i (by omega)
 rw[X0R (by omega)]at this
 rw[List.getElem_take]at e
 rw[←e];exact this
theorem XcN(o:Xq6 lt){k:K}{l:List α}(ha:Asc lt key l){x:α}(h:x∈l.drop (pos lt key k l)):lt (key x) k=false:=by
 obtain⟨i,hi,e⟩:=List.getElem_of_mem h
 rw[List.length_drop]at hi
 rw[List.getElem_drop]at e
 have hp:pos lt key k l<l.length:=by omega
 have h0:=Xmr (lt:=lt) (key:=key) k x l hp
 cases i with
 | zero=>rw[X0R hp]at h0;rw[←e];exact h0
 | succ i=>
   have h1:=X51 x ha (i:=pos lt key k l) (j:=pos lt key k l+(i+1)) (by omega) (by omega)
   rw[X0R (i:=pos lt key k l+(i+1)) (by omega)]at h1
   rw[e]at h1
   cases hx:lt (key x) k with
   | false=>rfl
   | true=>rw[o.tr _ _ _ h1 hx]at h0;cases h0
theorem Xnq{l:List α}(h:Asc lt key l)(n:Nat):Asc lt key (l.take n):=List.Pairwise.sublist (List.take_sublist n l) h
theorem XnE{l:List α}(h:Asc lt key l)(n:Nat):Asc lt key (l.drop n):=List.Pairwise.sublist (List.drop_sublist n l) h
theorem XmU(o:Xq6 lt){l:List α}(ha:Asc lt key l){p:α}(hp:∀x∈l,key x≠key p):Asc lt key (l.take (pos lt key (key p) l)++(p::l.drop (pos lt key (key p) l))):=by
 refine List.pairwise_append.2 ⟨Xnq ha _,List.pairwise_cons.2 ⟨fun x hx=>?_,XnE ha _⟩,fun x hx y hy=>?_⟩
 · have h1:=XcN o ha hx
   rcases o.tri (key x) (key p) with h | h | h
   · rw[h]at h1;cases h1
   · exact absurd h (hp x (List.mem_of_mem_drop hx))
   · exact h
 · have h1:=Xid hx
   rcases List.mem_cons.1 hy with e | hy
   · subst e;exact h1
   · have h2:=XcN o ha hy
     rcases o.tri (key y) (key p) with h | h | h
     · rw[h]at h2;cases h2
     · exact absurd h (hp y (List.mem_of_mem_drop hy))
     · exact o.tr _ _ _ h1 h
theorem XmD{l:List α}{n:Nat}{p x:α}:x∈l.take n++(p::l.drop n)↔x=p∨x∈l:=by
 conv=>rhs;rw[←List.take_append_drop n l]
 simp only[List.mem_append,List.mem_cons]
 constructor
 · rintro (h | h | h)
   · exact .inr (.inl h)
   · exact .inl h
   · exact .inr (.inr h)
 · rintro (h | h | h)
   · exact .inr (.inl h)
   · exact .inl h
   · exact .inr (.inr h)
end
theorem XfQ:Xq6 (fun a b:Int=>decide (a<b)):=⟨fun a=>by simp,fun a b c h1 h2=>by simp at*;omega,fun a b=>by simp;omega⟩
theorem X5h(a b:UInt8)(x y:List UInt8):Op.bytesLess (a::x) (b::y)=(decide (a<b)||(decide (a=b)&&Op.bytesLess x y)):=by
 simp only[Op.bytesLess]
 rw[show(a==b)=decide (a=b) from by rw[Bool.eq_iff_iff];simp]
theorem X4H:Xq6 Op.bytesLess:=by
 refine⟨fun a=>?_,fun a=>?_,fun a=>?_⟩
 · induction a with
   | nil=>rfl
   | cons x a ih=>rw[X5h,ih];simp
 · induction a with
   | nil=>intro b c h1 h2;cases b with
     | nil=>simp[Op.bytesLess]at h1
     | cons y b=>cases c with
       | nil=>simp[Op.bytesLess]at h2
       | cons z c=>rfl
   | cons x a ih=>intro b c h1 h2;cases b with
     | nil=>simp[Op.bytesLess]at h1
     | cons y b=>cases c with
       | nil=>simp[Op.bytesLess]at h2
       | cons z c=>
         rw[X5h]at*
         simp only[Bool.or_eq_true,Bool.and_eq_true,decide_eq_true_eq]at*
         rcases h1 with h1 | ⟨rfl,h1⟩
         · rcases h2 with h2 | ⟨rfl,h2⟩
           · exact .inl (UInt8.lt_trans h1 h2)
           · exact .inl h1
         · rcases h2 with h2 | ⟨rfl,h2⟩
           · exact .inl h2
           · exact .inr ⟨rfl,ih _ _ h1 h2⟩
 · induction a with
   | nil=>intro b;cases b with
     | nil=>exact .inr (.inl rfl)
     | cons y b=>exact .inl rfl
   | cons x a ih=>intro b;cases b with
     | nil=>exact .inr (.inr rfl)
     | cons y b=>
       rw[X5h,X5h]
       simp only[Bool.or_eq_true,Bool.and_eq_true,decide_eq_true_eq]
       rcases Nat.lt_trichotomy x.toNat y.toNat with h | h | h
       · exact .inl (.inl (UInt8.lt_iff_toNat_lt.2 h))
       · have h:=UInt8.toNat_inj.1 h
         subst h
         rcases ih b with h | rfl | h
         · exact .inl (.inr ⟨rfl,h⟩)
         · exact .inr (.inl rfl)
         · exact .inr (.inr (.inr ⟨rfl,h⟩))
       · exact .inr (.inr (.inl (UInt8.lt_iff_toNat_lt.2 h)))
abbrev ltI(a b:Int):Bool:=decide (a<b)
abbrev Xde(l:List Pt):Prop:=Asc ltI Prod.fst l
def XlE(l:List Pt)(t:Int):Bool:=l.any fun x=>decide (x.1=t)
theorem XbD{l:List Pt}{t:Int}:XlE l t=true↔∃x∈l,x.1=t:=by simp[XlE]
def XiT(o:List Pt)(p:Pt):List Pt:=if XlE o p.1 then o else o.take (pos ltI Prod.fst p.1 o)++(p::o.drop (pos ltI Prod.fst p.1 o))
theorem XjG{o:List Pt}(h:Xde o)(p:Pt):Xde (XiT o p):=by
 unfold XiT;split
 · exact h
 · rename_i hh
   refine XmU XfQ h fun x hx e=>hh (XbD.2 ⟨x,hx,e⟩)
theorem Xdj{o:List Pt}{p x:Pt}:x∈XiT o p↔x∈o∨(x=p∧XlE o p.1=false):=by
 unfold XiT;split
 · rename_i hh;simp[hh]
 · rename_i hh;rw[XmD];simp only[Bool.not_eq_true]at hh;simp[hh];exact Or.comm
theorem Xj0(o:List Pt)(p:Pt):(XiT o p).length≤o.length+1:=by
 unfold XiT;split
 · omega
 · simp;omega
def Xgx(p:Pt):List Pt→List Pt
 | []=>[p]
 | x::l=>if p.1≤x.1 then p::(x::l).filter (fun y=>!(y.1==p.1)) else x::Xgx p l
theorem Xgk{p x:Pt}:∀{l:List Pt},x∈Xgx p l↔x=p∨(x∈l∧x.1≠p.1)
 | []=>by simp[Xgx]
 | y::l=>by
   rw[Xgx];split
   · simp only[List.mem_cons,List.mem_filter,Bool.not_eq_true',beq_eq_false_iff_ne,ne_eq]
   · rename_i h
     simp only[List.mem_cons,Xgk (l:=l)]
     have:y.1≠p.1:=by omega
     constructor
     · rintro (rfl | rfl | ⟨h1,h2⟩)
       · exact .inr ⟨.inl rfl,this⟩
       · exact .inl rfl
       · exact .inr ⟨.inr h1,h2⟩
     · rintro (rfl | ⟨rfl | h1,h2⟩)
       · exact .inr (.inl rfl)
       · exact .inl rfl
       · exact .inr (.inr ⟨h1,h2⟩)
theorem XjU{p:Pt}:∀{l:List Pt},Xde l→Xde (Xgx p l)
 | [],_=>List.pairwise_singleton _ _
 | y::l,h=>by
   obtain⟨h1,h2⟩:=List.pairwise_cons.1 h
   rw[Xgx];split
   · rename_i hy
     refine List.pairwise_cons.2 ⟨fun x hx=>?_,List.Pairwise.sublist List.filter_sublist h⟩
     simp only[List.mem_filter,List.mem_cons,Bool.not_eq_true',beq_eq_false_iff_ne,ne_eq]at hx
     obtain⟨hx,hne⟩:=hx
     simp only[ltI,decide_eq_true_eq]at h1 ⊢
     rcases hx with rfl | hx
     · omega
     · have:=h1 x hx;omega
   · rename_i hy
     refine List.pairwise_cons.2 ⟨fun x hx=>?_,XjU h2⟩
     rcases Xgk.1 hx with rfl | ⟨hx,_⟩
     · simp only[ltI,decide_eq_true_eq];omega
     · exact h1 x hx
theorem Xb3(p:Pt):∀l:List Pt,(Xgx p l).length≤l.length+1
 | []=>by simp[Xgx]
 | y::l=>by
   rw[Xgx];split
   · have:=List.length_filter_le (fun y:Pt=>!(y.1==p.1)) (y::l)
     rw[List.length_cons];omega
   · have:=Xb3 p l
     simp only[List.length_cons];omega
def X2o(a b:List Pt):List Pt:=b.foldl (fun o p=>Xgx p o) a
theorem Xe7(a:List Pt)(p:Pt)(b:List Pt):X2o a (p::b)=X2o (Xgx p a) b:=rfl
theorem X4q:∀{b a:List Pt},Xde a→Xde (X2o a b)
 | [],_,h=>h
 | p::b,a,h=>X4q (b:=b) (XjU h)
theorem X21{x:Pt}:∀{b a:List Pt},Xde b→(x∈X2o a b↔x∈b∨(x∈a∧∀y∈b,y.1≠x.1))
 | [],a,_=>by simp[X2o]
 | p::b,a,h=>by
   obtain⟨h1,h2⟩:=List.pairwise_cons.1 h
   rw[Xe7,X21 h2,Xgk]
   have hp:∀y∈b,y.1≠p.1:=fun y hy=>by have:=h1 y hy;simp only[ltI,decide_eq_true_eq]at this;omega
   constructor
   · rintro (h3 | ⟨rfl | ⟨h3,h4⟩,h5⟩)
     · exact .inl (by simp[h3])
     · exact .inl (by simp)
     · exact .inr ⟨h3,fun y hy=>by
        rcases List.mem_cons.1 hy with rfl | hy
        · exact fun e=>h4 e.symm
        · exact h5 y hy⟩
   · rintro (h3 | ⟨h3,h4⟩)
     · rcases List.mem_cons.1 h3 with rfl | h3
       · exact .inr ⟨.inl rfl,hp⟩
       · exact .inl h3
     · exact .inr ⟨.inr ⟨h3,fun e=>h4 p (by simp) e.symm⟩,fun y hy=>h4 y (by simp[hy])⟩
theorem X7q:∀(b a:List Pt),(X2o a b).length≤a.length+b.length
 | [],a=>by simp[X2o]
 | p::b,a=>by
   have h1:=X7q b (Xgx p a)
   have h2:=Xb3 p a
   rw[Xe7,List.length_cons];omega
theorem Xbt:∀{a b:List Pt},Xde b→Xde (a.foldl XiT b)
 | [],_,h=>h
 | p::a,b,h=>Xbt (a:=a) (XjG h p)
theorem XbP{x:Pt}:∀{a b:List Pt},Xde a→(x∈a.foldl XiT b↔x∈b∨(x∈a∧XlE b x.1=false))
 | [],b,_=>by simp
 | p::a,b,h=>by
   obtain⟨h1,h2⟩:=List.pairwise_cons.1 h
   rw[List.foldl_cons,XbP h2,Xdj]
   have hp:∀y∈a,y.1≠p.1:=fun y hy=>by have:=h1 y hy;simp only[ltI,decide_eq_true_eq]at this;omega
   have key:∀y∈a,(XlE (XiT b p) y.1=false↔XlE b y.1=false):=fun y hy=>by
    rw[←Bool.not_eq_true,←Bool.not_eq_true,XbD,XbD]
    refine not_congr ⟨fun ⟨z,hz,e⟩=>?_,fun ⟨z,hz,e⟩=>⟨z,Xdj.2 (.inl hz),e⟩⟩
    rcases Xdj.1 hz with hz | ⟨rfl,_⟩
    · exact⟨z,hz,e⟩
    · exact absurd e.symm (hp y hy)
   constructor
   · rintro ((h3 | ⟨rfl,h3⟩) | ⟨h3,h4⟩)
     · exact .inl h3
     · exact .inr ⟨by simp,h3⟩
     · exact .inr ⟨by simp[h3],(key x h3).1 h4⟩
   · rintro (h3 | ⟨h3,h4⟩)
     · exact .inl (.inl h3)
     · rcases List.mem_cons.1 h3 with rfl | h3
       · exact .inl (.inr ⟨rfl,h4⟩)
       · exact .inr ⟨h3,(key x h3).2 h4⟩
theorem Xlp{a b:List Pt}(ha:Xde a)(hb:Xde b):a.foldl XiT b=X2o a b:=by
 refine Xco XfQ (Xbt hb) (X4q ha) fun x=>?_
 rw[XbP ha,X21 hb,←Bool.not_eq_true,XbD]
 refine or_congr Iff.rfl (and_congr Iff.rfl ⟨fun h y hy e=>h ⟨y,hy,e⟩,fun h ⟨y,hy,e⟩=>h y hy e⟩)
def XaI(l:List Pt):Prop:=Xde l∧∀x∈l,0≤x.1∧x.1≤1099511627776
theorem X6H{l:List Pt}(h:X0u l=true):XaI l∧l.length≤60:=by
 simp only[X0u,Bool.and_eq_true,decide_eq_true_eq,XeY,List.all_eq_true,List.mem_range]at h
 obtain⟨h1,h2⟩:=h
 have hb:∀i,i<l.length→(0≤(l.getD i (0,0)).1∧(l.getD i (0,0)).1≤1099511627776)∧(i=0∨(l.getD (i - 1) (0,0)).1<(l.getD i (0,0)).1):=fun i hi=>by
  have:=h2 i hi
  simp only[Xd1,Bool.and_eq_true,Bool.or_eq_true,decide_eq_true_eq,fIn]at this
  exact⟨this.1,this.2.2⟩
 refine⟨⟨?_,fun x hx=>?_⟩,h1⟩
 · have hs:∀(d:Nat) (i:Nat),i+d+1<l.length→(l.getD i (0,0)).1<(l.getD (i+d+1) (0,0)).1:=by
    intro d
    induction d with
    | zero=>intro i hi;have:=(hb (i+1) hi).2;simp at this;exact this
    | succ d ih=>
      intro i hi
      have a:=ih i (by omega)
      have c:=(hb (i+(d+1)+1) hi).2
      simp only[Nat.add_sub_cancel]at c
      rcases c with c | c
      · omega
      · exact Int.lt_trans a c
   refine List.pairwise_iff_getElem.2 fun i j hi hj hij=>?_
   have:=hs (j - i - 1) i (by omega)
   rw[show i+(j - i - 1)+1=j by omega,X0R hi,X0R hj]at this
   simpa using this
 · obtain⟨i,hi,e⟩:=List.getElem_of_mem hx
   have:=(hb i hi).1
   rw[X0R hi,e]at this
   exact this
theorem XkX{a b:List Pt}(ha:XaI a)(hb:XaI b):XaI (X2o a b):=⟨X4q ha.1,fun x hx=>by
 rcases(X21 hb.1).1 hx with h | ⟨h,_⟩
 · exact hb.2 x h
 · exact ha.2 x h⟩
def X13(l:List Pt)(lo hi:Int):List Pt:=l.filter fun p=>decide (lo≤p.1)&&decide (p.1<hi)
theorem X3E{l:List Pt}{lo hi:Int}{x:Pt}:x∈X13 l lo hi↔x∈l∧lo≤x.1∧x.1<hi:=by simp[X13]
theorem X6y{l:List Pt}(h:Xde l)(lo hi:Int):Xde (X13 l lo hi):=List.Pairwise.sublist List.filter_sublist h
end Go.Proofs.YtcfaphojdacmbaaGreatR.B
