/- Lists that rise;points merged and sliced:what it comes to. -/
import Derived.Test.YtcfaphojdacmbaaGreatRCSer
set_option linter.unusedVariables false
set_option linter.unusedSimpArgs false
namespace Go.Proofs.YtcfaphojdacmbaaGreatR.B
open Go Go.Proofs.YtcfaphojdacmbaaGreatR.Bv
structure Xqr {K:Type} (lt:K→K→Bool):Prop where
 irr:∀a,lt a a=false
 tr:∀a b c,lt a b=true→lt b c=true→lt a c=true
 tri:∀a b,lt a b=true∨a=b∨lt b a=true
def Asc{K α:Type}(lt:K→K→Bool)(key:α→K)(l:List α):Prop:=l.Pairwise fun x y=>lt (key x) (key y)=true
section
variable {K α:Type} {lt:K→K→Bool} {key:α→K}
theorem Xci(o:Xqr lt):∀{l r:List α},Asc lt key l→Asc lt key r→(∀x,x∈l↔x∈r)→l=r
 | [],[],_,_,_=>rfl
 | [],y::r,_,_,h=>absurd ((h y).2 (by simp)) (by simp)
 | x::l,[],_,_,h=>absurd ((h x).1 (by simp)) (by simp)
 | x::l,y::r,hl,hr,h=>by
   obtain⟨h1,h2⟩:=List.pairwise_cons.1 hl
   obtain⟨h3,h4⟩:=List.pairwise_cons.1 hr
   have e:x=y:=by
    rcases List.mem_cons.1 ((h x).1 (by simp)) with e | hx
    · exact e
    · rcases List.mem_cons.1 ((h y).2 (by simp)) with e | hy
      · exact e.symm
      · have:=o.tr _ _ _ (h1 y hy) (h3 x hx)
        rw[o.irr]at this;cases this
   subst e
   rw[Xci o h2 h4 fun z=>⟨fun hz=>?_,fun hz=>?_⟩]
   · rcases List.mem_cons.1 ((h z).1 (by simp[hz])) with e | hz'
     · subst e;have:=h1 z hz;rw[o.irr]at this;cases this
     · exact hz'
   · rcases List.mem_cons.1 ((h z).2 (by simp[hz])) with e | hz'
     · subst e;have:=h3 z hz;rw[o.irr]at this;cases this
     · exact hz'
def pos(lt:K→K→Bool)(key:α→K)(k:K)(l:List α):Nat:=(l.takeWhile fun x=>lt (key x) k).length
theorem XlJ(k:K)(l:List α):pos lt key k l≤l.length:=by
 unfold pos
 induction l with
 | nil=>simp
 | cons x l ih=>rw[List.takeWhile_cons];split<;>simp;omega
theorem Xmk(k:K)(d:α):∀(l:List α) (i:Nat),i<pos lt key k l→lt (key (l.getD i d)) k=true
 | [],i,h=>by simp[pos]at h
 | x::l,i,h=>by
   unfold pos at h
   rw[List.takeWhile_cons]at h
   split at h
   · rename_i hx
     cases i with
     | zero=>simpa using hx
     | succ i=>simp at h;simpa using Xmk k d l i h
   · simp at h
theorem XlL(k:K)(d:α):∀(l:List α),pos lt key k l<l.length→lt (key (l.getD (pos lt key k l) d)) k=false
 | [],h=>by simp at h
 | x::l,h=>by
   by_cases hx:lt (key x) k=true
   · have e:pos lt key k (x::l)=pos lt key k l+1:=by unfold pos;rw[List.takeWhile_cons,if_pos hx];rfl
     rw[e]at h ⊢
     simp at h
     simpa using XlL k d l h
   · have e:pos lt key k (x::l)=0:=by unfold pos;rw[List.takeWhile_cons,if_neg hx];rfl
     rw[e];simpa using hx
theorem Xmr{k:K}{l:List α}{i:Nat}(d:α)(hi:i≤l.length)(h1:∀j,j<i→lt (key (l.getD j d)) k=true)(h2:∀j,i≤j→j<l.length→lt (key (l.getD j d)) k=false):pos lt key k l=i:=by
 rcases Nat.lt_trichotomy (pos lt key k l) i with h | h | h
 · have a:=h1 _ h
   rw[XlL (lt:=lt) (key:=key) k d l (by omega)]at a;cases a
 · exact h
 · have a:=Xmk (lt:=lt) (key:=key) k d l i h
   have:=XlJ (lt:=lt) (key:=key) k l
   rw[h2 i (Nat.le_refl _) (by omega)]at a;cases a
theorem X5g(d:α){l:List α}(h:Asc lt key l){i j:Nat}(hij:i<j)(hj:j<l.length):lt (key (l.getD i d)) (key (l.getD j d))=true:=by
 have:=List.pairwise_iff_getElem.1 h i j (by omega) hj hij
 rw[X0R (by omega),X0R hj];exact this
theorem XhX{k:K}{l:List α}{x:α}(h:x∈l.take (pos lt key k l)):lt (key x) k=true:=by
 obtain⟨i,hi,e⟩:=List.getElem_of_mem h
 rw[List.length_take]at hi
 have:=Xmk (lt:=lt) (key:=key) k x l i (by omega)
 rw[X0R (by omega)]at this
 rw[List.getElem_take]at e
 rw[←e];exact this
theorem XcW(o:Xqr lt){k:K}{l:List α}(ha:Asc lt key l){x:α}(h:x∈l.drop (pos lt key k l)):lt (key x) k=false:=by
 obtain⟨i,hi,e⟩:=List.getElem_of_mem h
 rw[List.length_drop]at hi
 rw[List.getElem_drop]at e
 have hp:pos lt key k l<l.length:=by omega
 have h0:=XlL (lt:=lt) (key:=key) k x l hp
 cases i with
 | zero=>rw[X0R hp]at h0;rw[←e];exact h0
 | succ i=>
   have h1:=X5g x ha (i:=pos lt key k l) (j:=pos lt key k l+(i+1)) (by omega) (by omega)
   rw[X0R (i:=pos lt key k l+(i+1)) (by omega)]at h1
   rw[e]at h1
   cases hx:lt (key x) k with
   | false=>rfl
   | true=>rw[o.tr _ _ _ h1 hx]at h0;cases h0
theorem Xod{l:List α}(h:Asc lt key l)(n:Nat):Asc lt key (l.take n):=List.Pairwise.sublist (List.take_sublist n l) h
theorem XnC{l:List α}(h:Asc lt key l)(n:Nat):Asc lt key (l.drop n):=List.Pairwise.sublist (List.drop_sublist n l) h
theorem XlB(o:Xqr lt){l:List α}(ha:Asc lt key l){p:α}(hp:∀x∈l,key x≠key p):Asc lt key (l.take (pos lt key (key p) l)++(p::l.drop (pos lt key (key p) l))):=by
 refine List.pairwise_append.2 ⟨Xod ha _,List.pairwise_cons.2 ⟨fun x hx=>?_,XnC ha _⟩,fun x hx y hy=>?_⟩
 · have h1:=XcW o ha hx
   rcases o.tri (key x) (key p) with h | h | h
   · rw[h]at h1;cases h1
   · exact absurd h (hp x (List.mem_of_mem_drop hx))
   · exact h
 · have h1:=XhX hx
   rcases List.mem_cons.1 hy with e | hy
   · subst e;exact h1
   · have h2:=XcW o ha hy
     rcases o.tri (key y) (key p) with h | h | h
     · rw[h]at h2;cases h2
     · exact absurd h (hp y (List.mem_of_mem_drop hy))
     · exact o.tr _ _ _ h1 h
theorem XmL{l:List α}{n:Nat}{p x:α}:x∈l.take n++(p::l.drop n)↔x=p∨x∈l:=by
 conv=>rhs;rw[←List.take_append_drop n l]
 simp only[List.mem_append,List.mem_cons]
 constructor
 · rintro (h | h | h)
   · exact .inr (.inl h)
   · exact .inl h
   · exact .inr (.inr h)
 · rintro (h | h | h)
   · exact .inr (.inl h)
   · exact .inl h
   · exact .inr (.inr h)
end
theorem Xgc:Xqr (fun a b:Int=>decide (a<b)):=⟨fun a=>by simp,fun a b c h1 h2=>by simp at*;omega,fun a b=>by simp;omega⟩
theorem X5s(a b:UInt8)(x y:List UInt8):Op.bytesLess (a::x) (b::y)=(decide (a<b)||(decide (a=b)&&Op.bytesLess x y)):=by
 simp only[Op.bytesLess]
 rw[show(a==b)=decide (a=b) from by rw[Bool.eq_iff_iff];simp]
theorem X4M:Xqr Op.bytesLess:=by
 refine⟨fun a=>?_,fun a=>?_,fun a=>?_⟩
 · induction a with
   | nil=>rfl
   | cons x a ih=>rw[X5s,ih];simp
 · induction a with
   | nil=>intro b c h1 h2;cases b with
     | nil=>simp[Op.bytesLess]at h1
     | cons y b=>cases c with
       | nil=>simp[Op.bytesLess]at h2
       | cons z c=>rfl
   | cons x a ih=>intro b c h1 h2;cases b with
     | nil=>simp[Op.bytesLess]at h1
     | cons y b=>cases c with
       | nil=>simp[Op.bytesLess]at h2
       | cons z c=>
         rw[X5s]at*
         simp only[Bool.or_eq_true,Bool.and_eq_true,decide_eq_true_eq]at*
         rcases h1 with h1 | ⟨rfl,h1⟩
         · rcases h2 with h2 | ⟨rfl,h2⟩
           · exact .inl (UInt8.lt_trans h1 h2)
           · exact .inl h1
         · rcases h2 with h2 | ⟨rfl,h2⟩
           · exact .inl h2
           · exact .inr ⟨rfl,ih _ _ h1 h2⟩
 · induction a with
   | nil=>intro b;cases b with
     | nil=>exact .inr (.inl rfl)
     | cons y b=>exact .inl rfl
   | cons x a ih=>intro b;cases b with
     | nil=>exact .inr (.inr rfl)
     | cons y b=>
       rw[X5s,X5s]
       simp only[Bool.or_eq_true,Bool.and_eq_true,decide_eq_true_eq]
       rcases Nat.lt_trichotomy x.toNat y.toNat with h | h | h
       · exact .inl (.inl (UInt8.lt_iff_toNat_lt.2 h))
       · have h:=UInt8.toNat_inj.1 h
         subst h
         rcases ih b with h | rfl | h
         · exact .inl (.inr ⟨rfl,h⟩)
         · exact .inr (.inl rfl)
         · exact .inr (.inr (.inr ⟨rfl,h⟩))
       · exact .inr (.inr (.inl (UInt8.lt_iff_toNat_lt.2 h)))
abbrev ltI(a b:Int):Bool:=decide (a<b)
abbrev Xdq(l:List Pt):Prop:=Asc ltI Prod.fst l
def Xn2(l:List Pt)(t:Int):Bool:=l.any fun x=>decide (x.1=t)
theorem XbL{l:List Pt}{t:Int}:Xn2 l t=true↔∃x∈l,x.1=t:=by simp[Xn2]
def Xjk(o:List Pt)(p:Pt):List Pt:=if Xn2 o p.1 then o else o.take (pos ltI Prod.fst p.1 o)++(p::o.drop (pos ltI Prod.fst p.1 o))
theorem XjR{o:List Pt}(h:Xdq o)(p:Pt):Xdq (Xjk o p):=by
 unfold Xjk;split
 · exact h
 · rename_i hh
   refine XlB Xgc h fun x hx e=>hh (XbL.2 ⟨x,hx,e⟩)
theorem Xds{o:List Pt}{p x:Pt}:x∈Xjk o p↔x∈o∨(x=p∧Xn2 o p.1=false):=by
 unfold Xjk;split
 · rename_i hh;simp[hh]
 · rename_i hh;rw[XmL];simp only[Bool.not_eq_true]at hh;simp[hh];exact Or.comm
theorem Xja(o:List Pt)(p:Pt):(Xjk o p).length≤o.length+1:=by
 unfold Xjk;split
 · omega
 · simp;omega
def XgY(p:Pt):List Pt→List Pt
 | []=>[p]
 | x::l=>if p.1≤x.1 then p::(x::l).filter (fun y=>!(y.1==p.1)) else x::XgY p l
theorem Xgr{p x:Pt}:∀{l:List Pt},x∈XgY p l↔x=p∨(x∈l∧x.1≠p.1)
 | []=>by simp[XgY]
 | y::l=>by
   rw[XgY];split
   · simp only[List.mem_cons,List.mem_filter,Bool.not_eq_true',beq_eq_false_iff_ne,ne_eq]
   · rename_i h
     simp only[List.mem_cons,Xgr (l:=l)]
     have:y.1≠p.1:=by omega
     constructor
     · rintro (rfl | rfl | ⟨h1,h2⟩)
       · exact .inr ⟨.inl rfl,this⟩
       · exact .inl rfl
       · exact .inr ⟨.inr h1,h2⟩
     · rintro (rfl | ⟨rfl | h1,h2⟩)
       · exact .inr (.inl rfl)
       · exact .inl rfl
       · exact .inr (.inr ⟨h1,h2⟩)
theorem Xkh{p:Pt}:∀{l:List Pt},Xdq l→Xdq (XgY p l)
 | [],_=>List.pairwise_singleton _ _
 | y::l,h=>by
   obtain⟨h1,h2⟩:=List.pairwise_cons.1 h
   rw[XgY];split
   · rename_i hy
     refine List.pairwise_cons.2 ⟨fun x hx=>?_,List.Pairwise.sublist List.filter_sublist h⟩
     simp only[List.mem_filter,List.mem_cons,Bool.not_eq_true',beq_eq_false_iff_ne,ne_eq]at hx
     obtain⟨hx,hne⟩:=hx
     simp only[ltI,decide_eq_true_eq]at h1 ⊢
     rcases hx with rfl | hx
     · omega
     · have:=h1 x hx;omega
   · rename_i hy
     refine List.pairwise_cons.2 ⟨fun x hx=>?_,Xkh h2⟩
     rcases Xgr.1 hx with rfl | ⟨hx,_⟩
     · simp only[ltI,decide_eq_true_eq];omega
     · exact h1 x hx
theorem Xb7(p:Pt):∀l:List Pt,(XgY p l).length≤l.length+1
 | []=>by simp[XgY]
 | y::l=>by
   rw[XgY];split
   · have:=List.length_filter_le (fun y:Pt=>!(y.1==p.1)) (y::l)
     rw[List.length_cons];omega
   · have:=Xb7 p l
     simp only[List.length_cons];omega
def X2i(a b:List Pt):List Pt:=b.foldl (fun o p=>XgY p o) a
theorem XeS(a:List Pt)(p:Pt)(b:List Pt):X2i a (p::b)=X2i (XgY p a) b:=rfl
theorem X4A:∀{b a:List Pt},Xdq a→Xdq (X2i a b)
 | [],_,h=>h
 | p::b,a,h=>X4A (b:=b) (Xkh h)
theorem X1Y{x:Pt}:∀{b a:List Pt},Xdq b→(x∈X2i a b↔x∈b∨(x∈a∧∀y∈b,y.1≠x.1))
 | [],a,_=>by simp[X2i]
 | p::b,a,h=>by
   obtain⟨h1,h2⟩:=List.pairwise_cons.1 h
   rw[XeS,X1Y h2,Xgr]
   have hp:∀y∈b,y.1≠p.1:=fun y hy=>by have:=h1 y hy;simp only[ltI,decide_eq_true_eq]at this;omega
   constructor
   · rintro (h3 | ⟨rfl | ⟨h3,h4⟩,h5⟩)
     · exact .inl (by simp[h3])
     · exact .inl (by simp)
     · exact .inr ⟨h3,fun y hy=>by
        rcases List.mem_cons.1 hy with rfl | hy
        · exact fun e=>h4 e.symm
        · exact h5 y hy⟩
   · rintro (h3 | ⟨h3,h4⟩)
     · rcases List.mem_cons.1 h3 with rfl | h3
       · exact .inr ⟨.inl rfl,hp⟩
       · exact .inl h3
     · exact .inr ⟨.inr ⟨h3,fun e=>h4 p (by simp) e.symm⟩,fun y hy=>h4 y (by simp[hy])⟩
theorem X7w:∀(b a:List Pt),(X2i a b).length≤a.length+b.length
 | [],a=>by simp[X2i]
 | p::b,a=>by
   have h1:=X7w b (XgY p a)
   have h2:=Xb7 p a
   rw[XeS,List.length_cons];omega
theorem Xc5:∀{a b:List Pt},Xdq b→Xdq (a.foldl Xjk b)
 | [],_,h=>h
 | p::a,b,h=>Xc5 (a:=a) (XjR h p)
theorem Xbv{x:Pt}:∀{a b:List Pt},Xdq a→(x∈a.foldl Xjk b↔x∈b∨(x∈a∧Xn2 b x.1=false))
 | [],b,_=>by simp
 | p::a,b,h=>by
   obtain⟨h1,h2⟩:=List.pairwise_cons.1 h
   rw[List.foldl_cons,Xbv h2,Xds]
   have hp:∀y∈a,y.1≠p.1:=fun y hy=>by have:=h1 y hy;simp only[ltI,decide_eq_true_eq]at this;omega
   have key:∀y∈a,(Xn2 (Xjk b p) y.1=false↔Xn2 b y.1=false):=fun y hy=>by
    rw[←Bool.not_eq_true,←Bool.not_eq_true,XbL,XbL]
    refine not_congr ⟨fun ⟨z,hz,e⟩=>?_,fun ⟨z,hz,e⟩=>⟨z,Xds.2 (.inl hz),e⟩⟩
    rcases Xds.1 hz with hz | ⟨rfl,_⟩
    · exact⟨z,hz,e⟩
    · exact absurd e.symm (hp y hy)
   constructor
   · rintro ((h3 | ⟨rfl,h3⟩) | ⟨h3,h4⟩)
     · exact .inl h3
     · exact .inr ⟨by simp,h3⟩
     · exact .inr ⟨by simp[h3],(key x h3).1 h4⟩
   · rintro (h3 | ⟨h3,h4⟩)
     · exact .inl (.inl h3)
     · rcases List.mem_cons.1 h3 with rfl | h3
       · exact .inl (.inr ⟨rfl,h4⟩)
       · exact .inr ⟨h3,(key x h3).2 h4⟩
theorem Xn0{a b:List Pt}(ha:Xdq a)(hb:Xdq b):a.foldl Xjk b=X2i a b:=by
 refine Xci Xgc (Xc5 hb) (X4A ha) fun x=>?_
 rw[Xbv ha,X1Y hb,←Bool.not_eq_true,XbL]
 refine or_congr Iff.rfl (and_congr Iff.rfl ⟨fun h y hy e=>h ⟨y,hy,e⟩,fun h ⟨y,hy,e⟩=>h y hy e⟩)
def XaT(l:List Pt):Prop:=Xdq l∧∀x∈l,0≤x.1∧x.1≤1099511627776
theorem X6p{l:List Pt}(h:X0s l=true):XaT l∧l.length≤60:=by
 simp only[X0s,Bool.and_eq_true,decide_eq_true_eq,Xfa,List.all_eq_true,List.mem_range]at h
 obtain⟨h1,h2⟩:=h
 have hb:∀i,i<l.length→(0≤(l.getD i (0,0)).1∧(l.getD i (0,0)).1≤1099511627776)∧(i=0∨(l.getD (i - 1) (0,0)).1<(l.getD i (0,0)).1):=fun i hi=>by
  have:=h2 i hi
  simp only[Xdi,Bool.and_eq_true,Bool.or_eq_true,decide_eq_true_eq,fIn]at this
  exact⟨this.1,this.2.2⟩
 refine⟨⟨?_,fun x hx=>?_⟩,h1⟩
 · have hs:∀(d:Nat) (i:Nat),i+d+1<l.length→(l.getD i (0,0)).1<(l.getD (i+d+1) (0,0)).1:=by
    intro d
    induction d with
    | zero=>intro i hi;have:=(hb (i+1) hi).2;simp at this;exact this
    | succ d ih=>
      intro i hi
      have a:=ih i (by omega)
      have c:=(hb (i+(d+1)+1) hi).2
      simp only[Nat.add_sub_cancel]at c
      rcases c with c | c
      · omega
      · exact Int.lt_trans a c
   refine List.pairwise_iff_getElem.2 fun i j hi hj hij=>?_
   have:=hs (j - i - 1) i (by omega)
   rw[show i+(j - i - 1)+1=j by omega,X0R hi,X0R hj]at this
   simpa using this
 · obtain⟨i,hi,e⟩:=List.getElem_of_mem hx
   have:=(hb i hi).1
   rw[X0R hi,e]at this
   exact this
theorem Xks{a b:List Pt}(ha:XaT a)(hb:XaT b):XaT (X2i a b):=⟨X4A ha.1,fun x hx=>by
 rcases(X1Y hb.1).1 hx with h | ⟨h,_⟩
 · exact hb.2 x h
 · exact ha.2 x h⟩
def X0Z(l:List Pt)(lo hi:Int):List Pt:=l.filter fun p=>decide (lo≤p.1)&&decide (p.1<hi)
theorem X3K{l:List Pt}{lo hi:Int}{x:Pt}:x∈X0Z l lo hi↔x∈l∧lo≤x.1∧x.1<hi:=by simp[X0Z]
theorem X6P{l:List Pt}(h:Xdq l)(lo hi:Int):Xdq (X0Z l lo hi):=List.Pairwise.sublist List.filter_sublist h
end Go.Proofs.YtcfaphojdacmbaaGreatR.B
