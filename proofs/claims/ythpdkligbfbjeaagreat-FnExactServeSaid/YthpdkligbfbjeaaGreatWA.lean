/- Walks of Go functions by value:the library,part 1 of 4. -/
import Derived.WalkKit
import Derived.DataElems
import Derived.OwnWalk
import Derived.Deep.Draws
import Derived.Laws.Append
set_option linter.unusedVariables false
set_option linter.unusedSimpArgs false
set_option linter.defProp false
namespace Go.Proofs.YthpdkligbfbjeaaGreat.Bv
def Yaa:=@Prod.mk.injEq
def Yab:=@List.length_append
def Yac:=@Bool.and_eq_true
def Yad:=@List.length_cons
def Yae:=@if_neg
def Yaf:=@List.mem_append
def Yag:=@Option.some.injEq
def Yah:=@if_pos
def Yai:=@List.length_nil
def Yaj:=@decide_eq_true_eq
def Yak:=@List.mem_cons
def Yal:=@List.length_take
def Yam:=@List.append_assoc
def Yan:=@List.mem_cons_of_mem
def Yao:=@Option.isSome_iff_exists
def Yap:=@List.length_drop
def Yaq:=@Array.length_toList
def Yar:=@List.getD_eq_getElem?_getD
def Yas:=@List.map_cons
def Yat:=@List.take_length
def Yau:=@Go.IntWalk.i64_in
def Yav:=@decide_eq_false
def Yaw:=@decide_eq_false_iff_not
def Yax:=@List.getElem?_eq_getElem
def Yay:=@Prod.eta
def Yaz:=@decide_eq_true
def YaA:=@Int.tmod_eq_emod_of_nonneg
def YaB:=@List.nodup_cons
def YaC:=@Nat.le_refl
def YaD:=@Option.map_eq_some_iff
def YaE:=@List.getElem?_take
def YaF:=@List.nodup_append
def YaG:=@Int.toNat_natCast
def YaH:=@List.drop_drop
def YaI:=@List.map_nil
def YaJ:=@List.take_append_drop
def YaK:=@Ne.symm
def YaL:=@List.length_eq_zero_iff
def YaM:=@List.getElem_of_mem
def YaN:=@List.mem_map
def YaO:=@Array.getElem?_eq_some_iff
def YaP:=@List.mem_singleton
def YaQ:=@Bool.true_and
def YaR:=@Bool.not_eq_false
def YaS:=@Bool.not_eq_true'
def YaT:=@List.pairwise_cons
def YaU:=@Nat.zero_add
def YaV:=@List.nil_append
def YaW:=@Nat.le_trans
def YaX:=@List.length_set
def YaY:=@Nat.mul_le_mul_right
def YaZ:=@List.take_append_of_le_length
def Ya0:=@Nat.add_mul
def Ya1:=@List.take_of_length_le
def Ya2:=@List.filter_append
def Ya3:=@List.getElem?_eq_some_iff
def Ya4:=@List.drop_left
def Ya5:=@Bool.or_eq_true
def Ya6:=@Nat.add_zero
def Ya7:=@List.all_eq_true
def Ya8:=@List.map_append
def Ya9:=@Nat.min_eq_left
def Yba:=@Int.tdiv_eq_ediv_of_nonneg
def Ybb:=@List.getElem?_append_right
def Ybc:=@List.cons_append
def Ybd:=@List.append_nil
def Ybe:=@Nat.lt_of_lt_of_le
def Ybf:=@Array.getD_eq_getD_getElem?
def Ybg:=@List.nodup_nil
def Ybh:=@congrArg
def Ybi:=@Option.bind_eq_some_iff
def Ybj:=@List.length_pos_iff
def Ybk:=@Bool.false_and
def Ybl:=@List.take_left
def Ybm:=@and_true
def Ybn:=@Bool.eq_false_iff
def Ybo:=@Bool.not_eq_false'
def Ybp:=@List.zip_cons_cons
def Ybq:=@Bool.eq_iff_iff
def Ybr:=@List.foldl_cons
def Ybs:=@List.flatten_cons
def Ybt:=@List.eq_nil_of_length_eq_zero
def Ybu:=@Bool.and_true
def Ybv:=@Option.some.inj
def Ybw:=@true_and
def Ybx:=@List.replicate_succ
def Yby:=@List.findIdx_getElem
def Ybz:=@List.getElem?_drop
def YbA:=@List.mem_filter
def YbB:=@List.mem_of_getElem?
def YbC:=@List.set_set
def YbD:=@List.drop_eq_getElem_cons
def YbE:=@List.map_congr_left
def YbF:=@List.takeWhile_cons
def YbG:=@beq_eq_false_iff_ne
def YbH:=@List.foldl_append
def YbI:=@List.size_toArray
def YbJ:=@Array.getElem?_toList
def YbK:=@List.drop_zero
def YbL:=@List.take_take
def YbM:=@List.take_left'
def YbN:=@forall_eq
def YbO:=@List.drop_length
def YbP:=@Bool.and_false
def YbQ:=@List.drop_take
def YbR:=@List.getElem?_append_left
def YbS:=@List.length_replicate
def YbT:=@List.drop_append_of_le_length
def YbU:=@Bool.cond_eq_ite
def YbV:=@List.mem_range
def YbW:=@beq_iff_eq
def YbX:=@List.head_eq_of_cons_eq
def YbY:=@Nat.add_sub_cancel_left
def YbZ:=@Array.toList_append
def Yb0:=@List.filter_eq_self
def Yb1:=@List.take_succ_cons
def Yb2:=@List.getElem?_set_self
def Yb3:=@Nat.sub_self
def Yb4:=@Array.ext'
def Yb5:=@Array.toList_map
def Yb6:=@List.take_succ_eq_append_getElem
def Yb7:=@UInt8.lt_iff_toNat_lt
def Yb8:=@List.pairwise_iff_getElem
def Yb9:=@List.mem_append_left
def Yca:=@Nat.add_assoc
def Ycb:=@List.getElem?_cons_succ
def Ycc:=@Array.getElem?_eq_none
def Ycd:=@Bool.false_eq_true
def Yce:=@List.Pairwise.sublist
def Ycf:=@List.drop_left'
def Ycg:=@List.getElem?_eq_none
def Ych:=@Option.map_some
def Yci:=@if_true
def Ycj:=@List.getElem?_map
def Yck:=@Nat.pow_le_pow_right
def Ycl:=@Nat.mod_eq_of_lt
def Ycm:=@Option.bind_some
def Ycn:=@List.drop_set_of_lt
def Yco:=@List.take_set_of_le
def Ycp:=@List.countP_cons_of_neg
def Ycq:=@Array.size_push
def Ycr:=@List.cons.injEq
def Ycs:=@List.mem_cons_self
def Yct:=@Nat.add_sub_cancel
def Ycu:=@Nat.min_def
def Ycv:=@Bool.or_true
def Ycw:=@List.getElem?_toArray
def Ycx:=@List.length_filter_le
def Ycy:=@List.mapM_cons
def Ycz:=@Bool.or_eq_false_iff
def YcA:=@Go.IntWalk.u8_in
def YcB:=@Array.toList_setIfInBounds
def YcC:=@Int.fdiv_eq_ediv_of_nonneg
def YcD:=@not_or
def YcE:=@List.exists_mem_of_ne_nil
def YcF:=@List.findIdx_eq
def YcG:=@List.length_map
def YcH:=@List.length_zip
def YcI:=@Array.toList_range
def YcJ:=@BitVec.toNat_ofNat
def YcK:=@List.Sublist.append_left
def YcL:=@List.foldl_nil
def YcM:=@List.countP_cons_of_pos
def YcN:=@List.getElem?_cons_zero
def YcO:=@List.pairwise_singleton
def YcP:=@Array.size_append
def YcQ:=@Go.IntWalk.u32_in
def YcR:=@List.flatMap_cons
def YcS:=@List.getElem_take
def YcT:=@Nat.lt_trichotomy
def YcU:=@List.findIdx_eq_length
def YcV:=@List.findIdx_le_length
def YcW:=@List.not_of_lt_findIdx
def YcX:=@List.set_eq_take_append_cons_drop
def YcY:=@List.take_add
def YcZ:=@BitVec.toNat_xor
def Yc0:=@Bool.not_eq_true
def Yc1:=@List.filter_cons
def Yc2:=@List.findIdx_lt_length_of_exists
def Yc3:=@List.getElem_mem
def Yc4:=@List.isEmpty_iff
def Yc5:=@List.take_append
def Yc6:=@Bool.and_eq_false_iff
def Yc7:=@ByteArray.data_append
def Yc8:=@Iff.rfl
def Yc9:=@List.getElem?_of_mem
def Yda:=@List.mem_of_mem_drop
def Ydb:=@List.pairwise_append
def Ydc:=@Nat.pow_succ
def Ydd:=@List.filter_sublist
def Yde:=@List.flatten_append
def Ydf:=@Int.lt_ediv_add_one_mul_self
def Ydg:=@List.take_length_add_append
def Ydh:=@Option.toList_some
def Ydi:=@Bool.not_true
def Ydj:=@Bool.or_false
def Ydk:=@ByteArray.ext
def Ydl:=@Decidable.not_not
def Ydm:=@List.ext_getElem?
def Ydn:=@List.pairwise_map
def Ydo:=@List.take_add_one
def Ydp:=@Bool.true_or
def Ydq:=@List.any_eq_true
def Ydr:=@List.map_map
def Yds:=@List.mem_flatten
def Ydt:=@decide_eq_decide
def Ydu:=@if_false
def Ydv:=@Nat.le_antisymm
def Ydw:=@UInt8.toNat_inj
def Ydx:=@cond_true
inductive Ty where
 | int (k:IntKind)
 | bool
 | str
 | list (t:Ty)
 | unit
 | pair (a b:Ty)
 deriving DecidableEq
@[reducible] def El:Ty->Type
 | .int _=>Int
 | .bool=>Bool
 | .str=>List UInt8
 | .list t=>List (El t)
 | .unit=>Unit
 | .pair a b=>El a×El b
def size:Ty->Nat
 | .unit=>0
 | .pair a b=>size a+size b
 | _=>1
abbrev Mem:=Addr->Option Value
def Mem.le(M N:Mem):Prop:=∀a v,M a=some v->N a=some v
theorem Mem.le_refl(M:Mem):M.le M:=λ_ _ h=>h
theorem Mem.le_trans{M N K:Mem}(h:M.le N)(h':N.le K):M.le K:=λa v x=>h' a v (h a v x)
def RdC(M:Mem):(t:Ty)->List Value->El t->Prop
 | .int k,cs,n=>cs=[.int k n]
 | .bool,cs,b=>cs=[.bool b]
 | .str,cs,s=>cs=[.string ⟨s.toArray⟩]
 | .list t,cs,l=>∃ad cap,cs=[.slice ad l.length cap]/\l.length<=cap/\cap<=maxLen/\
    ∀i (h:i<l.length),∃a vs,ad=some a/\vs.length=size t/\(∀j u,vs[j]?=some u->M (a.add (i*size t+j))=some u)/\RdC M t vs (List.get l ⟨i,h⟩)
 | .unit,cs,_=>cs=[]
 | .pair a b,cs,x=>∃c1 c2,cs=c1++c2/\RdC M a c1 x.1/\RdC M b c2 x.2
theorem RdC.mono{M N:Mem}(hMN:M.le N):∀(t:Ty) (cs:List Value) (x:El t),RdC M t cs x->RdC N t cs x
 | .int _,_,_,h=>h
 | .bool,_,_,h=>h
 | .str,_,_,h=>h
 | .unit,_,_,h=>h
 | .pair a b,_,_,⟨c1,c2,e,h1,h2⟩=>⟨c1,c2,e,RdC.mono hMN a _ _ h1,RdC.mono hMN b _ _ h2⟩
 | .list t,_,_,⟨ad,cap,e,hl,hm,h⟩=>⟨ad,cap,e,hl,hm,λi hi=>by
    obtain⟨a,vs,e1,e2,e3,e4⟩:=h i hi;exact⟨a,vs,e1,e2,λj u hu=>hMN _ _ (e3 j u hu),RdC.mono hMN t _ _ e4⟩⟩
theorem RdC.length{M:Mem}:∀(t:Ty) (cs:List Value) (x:El t),RdC M t cs x->cs.length=size t
 | .int _,_,_,h=>by cases h;rfl
 | .bool,_,_,h=>by cases h;rfl
 | .str,_,_,h=>by cases h;rfl
 | .unit,_,_,h=>by cases h;rfl
 | .pair a b,_,_,⟨c1,c2,e,h1,h2⟩=>by
    subst e;rw[Yab,RdC.length a _ _ h1,RdC.length b _ _ h2];rfl
 | .list t,_,_,⟨ad,cap,e,_,_,_⟩=>by cases e;rfl
theorem RdC.oneCell{M:Mem}:∀(t:Ty) (cs:List Value) (x:El t),RdC M t cs x->∀u∈cs,u.oneCell'=true
 | .int _,_,_,h=>by cases h;simp[Value.oneCell']
 | .bool,_,_,h=>by cases h;simp[Value.oneCell']
 | .str,_,_,h=>by cases h;simp[Value.oneCell']
 | .unit,_,_,h=>by cases h;simp
 | .pair a b,_,_,⟨c1,c2,e,h1,h2⟩=>by
    subst e;intro u hu;rcases Yaf.1 hu with h | h
    . exact RdC.oneCell a _ _ h1 u h
    . exact RdC.oneCell b _ _ h2 u h
 | .list t,_,_,⟨ad,cap,e,_,_,_⟩=>by cases e;simp[Value.oneCell']
inductive X02 where
 | int (k:IntKind) (n:Int)
 | bool (b:Bool)
 | str (s:List UInt8)
 | lst (t:Ty) (l:List (El t)) (tag:Option Nat)
 | own (t:Ty) (r:Nat)
 | sub (t:Ty) (r lo hi:Nat)
 | bor (t:Ty) (l:List (El t)) (r ver:Nat) (at':Option (Nat×Nat))
 | emp (t:Ty)
 | und
def RdV(M:Mem)(v:Value):X02->Prop
 | .int k n=>v=.int k n
 | .bool b=>v=.bool b
 | .str s=>v=.string ⟨s.toArray⟩
 | .lst t l _=>RdC M (.list t) [v] l
 | _=>v.oneCell'=true
theorem RdV.mono{M N:Mem}(h:M.le N){v:Value}:∀{c:X02},RdV M v c->RdV N v c
 | .int ..,h'=>h'
 | .bool _,h'=>h'
 | .str _,h'=>h'
 | .lst t l _,h'=>RdC.mono h (.list t) _ _ h'
 | .own ..,h'=>h'
 | .sub ..,h'=>h'
 | .bor ..,h'=>h'
 | .emp ..,h'=>h'
 | .und,h'=>h'
theorem RdV.oneCell{M:Mem}{v:Value}:∀{c:X02},RdV M v c->v.oneCell'=true
 | .int ..,h=>by cases h;rfl
 | .bool _,h=>by cases h;rfl
 | .str _,h=>by cases h;rfl
 | .lst t l _,h=>RdC.oneCell (.list t) _ _ h _ (by simp)
 | .own ..,h=>h
 | .sub ..,h=>h
 | .bor ..,h=>h
 | .emp ..,h=>h
 | .und,h=>h
def flat:(t:Ty)->El t->List X02
 | .int k,n=>[.int k n]
 | .bool,b=>[.bool b]
 | .str,s=>[.str s]
 | .list t,l=>[.lst t l none]
 | .unit,_=>[]
 | .pair a b,x=>flat a x.1++flat b x.2
def X2x:(t:Ty)->List X02->Option (El t×List X02)
 | .int k,.int k' n::r=>if k'=k then some (n,r) else none
 | .bool,.bool b::r=>some (b,r)
 | .str,.str s::r=>some (s,r)
 | .list t,.lst t' l _::r=>if h:t'=t then some (h▸l,r) else none
 | .unit,r=>some ((),r)
 | .pair a b,r=>(X2x a r).bind λp=>(X2x b p.2).bind λq=>some ((p.1,q.1),q.2)
 | _,_=>none
inductive X27 {α β:Type} (R:α->β->Prop):List α->List β->Prop
 | nil:X27 R [] []
 | cons {a b as bs}:R a b->X27 R as bs->X27 R (a::as) (b::bs)
theorem X27.imp{α β:Type}{R S:α->β->Prop}(h:∀a b,R a b->S a b){as bs}:X27 R as bs->X27 S as bs
 | .nil=>.nil
 | .cons x y=>.cons (h _ _ x) (y.imp h)
theorem X27.append{α β:Type}{R:α->β->Prop}{as bs as' bs'}(h:X27 R as bs)(h':X27 R as' bs'):X27 R (as++as') (bs++bs'):=by
 induction h with
 | nil=>exact h'
 | cons x _ ih=>exact .cons x ih
theorem X27.length{α β:Type}{R:α->β->Prop}{as bs}(h:X27 R as bs):as.length=bs.length:=by
 induction h with
 | nil=>rfl
 | cons _ _ ih=>simp[ih]
theorem X27.get{α β:Type}{R:α->β->Prop}{as:List α}{bs:List β}(h:X27 R as bs):∀{i:Nat} {b},bs[i]?=some b->∃a,as[i]?=some a/\R a b:=by
 induction h with
 | nil=>intro i b hb;simp at hb
 | cons x _ ih=>
   intro i b hb;cases i with
   | zero=>simp at hb;subst hb;exact⟨_,by simp,x⟩
   | succ i=>simp at hb;obtain⟨a,ha,hr⟩:=ih hb;exact⟨a,by simpa using ha,hr⟩
theorem X27.take{α β:Type}{R:α->β->Prop}{as:List α}{bs:List β}(h:X27 R as bs)(n:Nat):X27 R (as.take n) (bs.take n):=by
 induction h generalizing n with
 | nil=>simp;exact .nil
 | cons x _ ih=>cases n with
   | zero=>simp;exact .nil
   | succ n=>exact .cons x (ih n)
theorem X27.drop{α β:Type}{R:α->β->Prop}{as:List α}{bs:List β}(h:X27 R as bs)(n:Nat):X27 R (as.drop n) (bs.drop n):=by
 induction h generalizing n with
 | nil=>simp;exact .nil
 | cons x y ih=>cases n with
   | zero=>exact .cons x y
   | succ n=>exact ih n
theorem Xg7{M:Mem}:∀(t:Ty) (cs:List Value) (x:El t),RdC M t cs x->X27 (RdV M) cs (flat t x)
 | .int _,_,_,h=>by cases h;exact .cons rfl .nil
 | .bool,_,_,h=>by cases h;exact .cons rfl .nil
 | .str,_,_,h=>by cases h;exact .cons rfl .nil
 | .unit,_,_,h=>by cases h;exact .nil
 | .pair a b,_,_,⟨c1,c2,e,h1,h2⟩=>by
    subst e;exact(Xg7 a _ _ h1).append (Xg7 b _ _ h2)
 | .list t,cs,l,h=>by
    have h0:=h;obtain⟨ad,cap,e,_,_,_⟩:=h;subst e;exact .cons h0 .nil
theorem Xgn{M:Mem}:∀(t:Ty) (vs:List Value) (cvs:List X02) (x:El t) (rest:List X02),X27 (RdV M) vs cvs->X2x t cvs=some (x,rest)->
 ∃c1 c2,vs=c1++c2/\RdC M t c1 x/\X27 (RdV M) c2 rest
 | .unit,vs,cvs,x,rest,h,e=>by simp only[X2x,Yag,Yaa]at e;obtain⟨_,rfl⟩:=e;exact⟨[],vs,rfl,rfl,h⟩
 | .pair a b,vs,cvs,x,rest,h,e=>by
    simp only[X2x,Ybi,Yag,Yaa]at e;obtain⟨⟨xa,ra⟩,ea,⟨xb,rb⟩,eb,ex,er⟩:=e;obtain⟨c1,c2,rfl,h1,h2⟩:=Xgn a vs cvs xa ra h ea;obtain⟨c3,c4,rfl,h3,h4⟩:=Xgn b c2 ra xb rb h2 eb;simp only at er ex;subst er;exact⟨c1++c3,c4,by simp,⟨c1,c3,rfl,by subst ex;exact h1,by subst ex;exact h3⟩,h4⟩
 | .int k,vs,cvs,x,rest,h,e=>by
    cases h with
    | nil=>simp[X2x]at e
    | cons hx hr=>rename_i v c vs' cs';cases c<;>simp[X2x]at e;obtain⟨rfl,rfl,rfl⟩:=e;cases hx;exact⟨[_],_,rfl,rfl,hr⟩
 | .bool,vs,cvs,x,rest,h,e=>by
    cases h with
    | nil=>simp[X2x]at e
    | cons hx hr=>rename_i v c vs' cs';cases c<;>simp[X2x]at e;obtain⟨rfl,rfl⟩:=e;cases hx;exact⟨[_],_,rfl,rfl,hr⟩
 | .str,vs,cvs,x,rest,h,e=>by
    cases h with
    | nil=>simp[X2x]at e
    | cons hx hr=>rename_i v c vs' cs';cases c<;>simp[X2x]at e;obtain⟨rfl,rfl⟩:=e;cases hx;exact⟨[_],_,rfl,rfl,hr⟩
 | .list t,vs,cvs,x,rest,h,e=>by
    cases h with
    | nil=>simp[X2x]at e
    | cons hx hr=>
      rename_i v c vs' cs';cases c<;>simp[X2x]at e;rename_i t' l tag;by_cases ht:t'=t
      . subst ht;simp at e;obtain⟨rfl,rfl⟩:=e;exact⟨[v],_,rfl,hx,hr⟩
      . exact absurd e.1.1 ht
theorem XiQ{M:Mem}:∀(t:Ty) (cs:List Value) (x:El t),X27 (RdV M) cs (flat t x)->RdC M t cs x
 | .int _,cs,x,h=>by cases h with | cons a b=>cases b;cases a;rfl
 | .bool,cs,x,h=>by cases h with | cons a b=>cases b;cases a;rfl
 | .str,cs,x,h=>by cases h with | cons a b=>cases b;cases a;rfl
 | .list t,cs,x,h=>by cases h with | cons a b=>cases b;exact a
 | .unit,cs,x,h=>by cases h;rfl
 | .pair a b,cs,x,h=>by
    have hl:(flat a x.1).length<=cs.length:=by have:=h.length;simp[flat]at this;omega
    have h1:=h.take (flat a x.1).length;have h2:=h.drop (flat a x.1).length;simp only[flat,Ybl,Ya4]at h1 h2;exact⟨_,_,(YaJ _ _).symm,XiQ a _ _ h1,XiQ b _ _ h2⟩
theorem X3k:∀(t:Ty) (x:El t),(flat t x).length=size t
 | .int _,_=>rfl
 | .bool,_=>rfl
 | .str,_=>rfl
 | .list _,_=>rfl
 | .unit,_=>rfl
 | .pair a b,x=>by simp[flat,size,X3k a,X3k b]
def X0o(t:Ty)(l:List (El t)):List X02:=match l with
 | []=>[]
 | x::r=>flat t x++X0o t r
theorem X3r(t:Ty)(x:El t)(l:List (El t)):X0o t (x::l)=flat t x++X0o t l:=rfl
theorem X1f(t:Ty):∀(l r:List (El t)),X0o t (l++r)=X0o t l++X0o t r
 | [],_=>rfl
 | x::l,r=>by rw[Ybc,X3r,X3r,X1f t l r,Yam]
theorem X0V(t:Ty):∀(l:List (El t)),(X0o t l).length=l.length*size t
 | []=>by simp[X0o]
 | x::l=>by rw[X3r,Yab,X3k,X0V t l,Yad,Ya0];omega
theorem Xi6(t:Ty):∀(l:List (El t)) (n:Nat),X0o t (l.take n)=(X0o t l).take (n*size t)
 | [],n=>by simp[X0o]
 | x::l,0=>by simp[X0o]
 | x::l,n+1=>by
   have h:(n+1)*size t=(flat t x).length+n*size t:=by rw[X3k,Ya0];omega
   rw[Yb1,X3r,X3r,Xi6 t l n,h,Ydg]
theorem XeO(t:Ty):∀(l:List (El t)) (n:Nat),X0o t (l.drop n)=(X0o t l).drop (n*size t)
 | [],n=>by simp[X0o]
 | x::l,0=>by simp
 | x::l,n+1=>by
   have h:(n+1)*size t=(flat t x).length+n*size t:=by rw[X3k,Ya0];omega
   rw[List.drop_succ_cons,X3r,XeO t l n,h,List.drop_length_add_append]
theorem XjA{t:Ty}{c:X02}:∀{l:List (El t)},c∈X0o t l->∃x∈l,c∈flat t x
 | [],h=>by simp[X0o]at h
 | x::l,h=>by
   rw[X3r,Yaf]at h;rcases h with h | h
   . exact⟨x,by simp,h⟩
   . obtain⟨y,hy,hc⟩:=XjA h;exact⟨y,Yan _ hy,hc⟩
section
inductive X1v (w:World):List Value->List X02->List Nat->Prop
 | nil:X1v w [] [] []
 | int {k n vs cs bs}:X1v w vs cs bs->X1v w (.int k n::vs) (.int k n::cs) bs
 | bool {b vs cs bs}:X1v w vs cs bs->X1v w (.bool b::vs) (.bool b::cs) bs
 | str {s vs cs bs}:X1v w vs cs bs->X1v w (.string ⟨s.toArray⟩::vs) (.str s::cs) bs
 | emp {ad t tag vs cs bs}:X1v w vs cs bs->X1v w (.slice ad 0 0::vs) (.lst t [] tag::cs) bs
 | lst {g o cap arr e t l tag b1 vs cs b2}:w.heap[g]?=some (.cells arr e (0,0))->List.length l<=cap->cap<=maxLen->o+cap*size t<=arr.size->
    X1v w ((arr.toList.drop o).take (List.length l*size t)) (X0o t l) b1->X1v w vs cs b2->
    X1v w (.slice (some ⟨g,o,none⟩) (List.length l) cap::vs) (.lst t l tag::cs) (g::(b1++b2))
variable {w:World}
theorem X1v.length{vs cs bs}(h:X1v w vs cs bs):vs.length=cs.length:=by
 induction h with
 | nil=>rfl
 | lst _ _ _ _ _ _ _ ih=>simp[ih]
 | _=>simp[*]
theorem X1v.append{vs cs bs vs' cs' bs'}(h:X1v w vs cs bs)(h':X1v w vs' cs' bs'):X1v w (vs++vs') (cs++cs') (bs++bs'):=by
 induction h with
 | nil=>exact h'
 | int _ ih=>exact .int ih
 | bool _ ih=>exact .bool ih
 | str _ ih=>exact .str ih
 | emp _ ih=>exact .emp ih
 | lst h1 h2 h3 h4 h5 _ _ ih=>
   have:=X1v.lst (tag:=‹_›) h1 h2 h3 h4 h5 ih;simpa [Yam] using this
theorem X1v.split{vs cs bs}(h:X1v w vs cs bs):∀{c1 c2},cs=c1++c2->∃v1 v2 b1 b2,vs=v1++v2/\bs=b1++b2/\X1v w v1 c1 b1/\X1v w v2 c2 b2:=by
 induction h with
 | nil=>intro c1 c2 e;cases c1 with
   | nil=>simp at e;subst e;exact⟨[],[],[],[],rfl,rfl,.nil,.nil⟩
   | cons=>simp at e
 | @int k n vs cs bs h ih=>intro c1 c2 e;cases c1 with
   | nil=>simp at e;subst e;exact⟨[],_,[],_,rfl,rfl,.nil,.int h⟩
   | cons x c1=>simp at e;obtain⟨rfl,rfl⟩:=e;obtain⟨v1,v2,b1,b2,e1,e2,h1,h2⟩:=ih rfl;subst e1;subst e2;exact⟨_::v1,v2,b1,b2,rfl,rfl,.int h1,h2⟩
 | @bool b vs cs bs h ih=>intro c1 c2 e;cases c1 with
   | nil=>simp at e;subst e;exact⟨[],_,[],_,rfl,rfl,.nil,.bool h⟩
   | cons x c1=>simp at e;obtain⟨rfl,rfl⟩:=e;obtain⟨v1,v2,b1,b2,e1,e2,h1,h2⟩:=ih rfl;subst e1;subst e2;exact⟨_::v1,v2,b1,b2,rfl,rfl,.bool h1,h2⟩
 | @str s vs cs bs h ih=>intro c1 c2 e;cases c1 with
   | nil=>simp at e;subst e;exact⟨[],_,[],_,rfl,rfl,.nil,.str h⟩
   | cons x c1=>simp at e;obtain⟨rfl,rfl⟩:=e;obtain⟨v1,v2,b1,b2,e1,e2,h1,h2⟩:=ih rfl;subst e1;subst e2;exact⟨_::v1,v2,b1,b2,rfl,rfl,.str h1,h2⟩
 | @emp ad t tag vs cs bs h ih=>intro c1 c2 e;cases c1 with
   | nil=>simp at e;subst e;exact⟨[],_,[],_,rfl,rfl,.nil,.emp h⟩
   | cons x c1=>simp at e;obtain⟨rfl,rfl⟩:=e;obtain⟨v1,v2,b1,b2,e1,e2,h1,h2⟩:=ih rfl;subst e1;subst e2;exact⟨_::v1,v2,b1,b2,rfl,rfl,.emp h1,h2⟩
 | @lst g o cap arr e0 t l tag b1 vs cs b2 h1 h2 h3 h4 h5 h6 ih5 ih6=>intro c1 c2 e;cases c1 with
   | nil=>simp at e;subst e;exact⟨[],_,[],_,rfl,rfl,.nil,.lst h1 h2 h3 h4 h5 h6⟩
   | cons x c1=>
     simp at e;obtain⟨rfl,rfl⟩:=e;obtain⟨v1,v2,b21,b22,e1,e2,k1,k2⟩:=ih6 rfl;subst e1;subst e2;exact⟨_::v1,v2,g::(b1++b21),b22,rfl,by simp,.lst h1 h2 h3 h4 h5 k1,k2⟩
theorem X1v.frame{vs cs bs}(h:X1v w vs cs bs){w':World}:(∀g∈bs,w'.heap[g]?=w.heap[g]?)->X1v w' vs cs bs:=by
 induction h with
 | nil=>intro _;exact .nil
 | int _ ih=>intro hw;exact .int (ih hw)
 | bool _ ih=>intro hw;exact .bool (ih hw)
 | str _ ih=>intro hw;exact .str (ih hw)
 | emp _ ih=>intro hw;exact .emp (ih hw)
 | lst h1 h2 h3 h4 h5 h6 ih5 ih6=>
   intro hw;exact .lst (by rw[hw _ (by simp)];exact h1) h2 h3 h4 (ih5 λg hg=>hw g (by simp[hg])) (ih6 λg hg=>hw g (by simp[hg]))
theorem X1v.lt{vs cs bs}(h:X1v w vs cs bs):∀g∈bs,g<w.heap.size:=by
 induction h with
 | nil=>intro g hg;cases hg
 | lst h1 h2 h3 h4 h5 h6 ih5 ih6=>
   intro g hg;simp only[Yak,Yaf]at hg;rcases hg with rfl | hg | hg
   . exact(YaO.1 h1).1
   . exact ih5 g hg
   . exact ih6 g hg
 | _=>assumption
theorem X1v.one{vs cs bs}(h:X1v w vs cs bs):∀u∈vs,u.oneCell'=true:=by
 induction h with
 | nil=>intro g hg;cases hg
 | lst h1 h2 h3 h4 h5 h6 ih5 ih6=>
   intro u hu;rcases Yak.1 hu with rfl | hu
   . rfl
   . exact ih6 u hu
 | int _ ih=>intro u hu;rcases Yak.1 hu with rfl | hu<;>first | rfl | exact ih u hu
 | bool _ ih=>intro u hu;rcases Yak.1 hu with rfl | hu<;>first | rfl | exact ih u hu
 | str _ ih=>intro u hu;rcases Yak.1 hu with rfl | hu<;>first | rfl | exact ih u hu
 | emp _ ih=>intro u hu;rcases Yak.1 hu with rfl | hu<;>first | rfl | exact ih u hu
theorem X8S(g o n:Nat):(⟨g,o,none⟩:Addr).add n=⟨g,o+n,none⟩:=by unfold Addr.add;split<;>simp_all
theorem X5z{g o:Nat}{arr:Array Value}{e:TypeId}(h:w.heap[g]?=some (.cells arr e (0,0))){j:Nat}{u:Value}(hu:(arr.toList.drop o)[j]?=some u):w.cell? ⟨g,o+j,none⟩=some u:=by
 rw[Ybz]at hu;simp[World.cell?,h]at hu ⊢;exact hu
theorem Xdp{α:Type}(l:List α)(s n i:Nat):((l.drop (i*s)).take s)[n]?=if n<s then l[i*s+n]? else none:=by
 rw[YaE];split
 . rw[Ybz]
 . rfl
theorem X1v.rd{vs cs bs}(h:X1v w vs cs bs){N:Mem}:(∀ad u,ad.block∈bs->w.cell? ad=some u->N ad=some u)->X27 (RdV N) vs cs:=by
 induction h with
 | nil=>intro _;exact .nil
 | int _ ih=>intro hN;exact .cons rfl (ih hN)
 | bool _ ih=>intro hN;exact .cons rfl (ih hN)
 | str _ ih=>intro hN;exact .cons rfl (ih hN)
 | @emp ad t tag vs cs bs _ ih=>intro hN;exact .cons (show RdC N (.list t) _ _ from⟨ad,0,rfl,by simp,by simp,λi hi=>by simp at hi⟩) (ih hN)
 | @lst g o cap arr e t l tag b1 vs cs b2 h1 h2 h3 h4 h5 h6 ih5 ih6=>
   intro hN;refine .cons ?_ (ih6 λad u hb=>hN ad u (by simp[hb]));have hc:=ih5 λad u hb=>hN ad u (by simp[hb]);refine⟨some ⟨g,o,none⟩,cap,rfl,h2,h3,λi hi=>?_⟩;have hci:=(hc.drop (i*size t)).take (size t);rw[<-XeO]at hci;have hx:(X0o t (List.drop i l)).take (size t)=flat t (List.get l ⟨i,hi⟩):=by
    rw[YbD hi,X3r,YaZ (by rw[X3k];exact YaC _),Ya1 (by rw[X3k];exact YaC _)];rfl
   rw[hx]at hci;refine⟨_,_,rfl,?_,?_,XiQ t _ _ hci⟩
   . have:=hci.length;rw[this,X3k]
   . intro j u hu;rw[Xdp]at hu;split at hu
     . rw[YaE]at hu;split at hu
       . rw[X8S];exact hN _ u (by simp) (X5z h1 hu)
       . cases hu
     . cases hu
def X4Q(w:World)(t:Ty)(v:Value)(l:List (El t))(bs:List Nat):Prop:=X1v w [v] [.lst t l none] bs
theorem X4Q.cases{t:Ty}{v:Value}{l:List (El t)}{bs:List Nat}(h:X4Q w t v l bs):
 (∃ad,v=.slice ad 0 0/\l=[]/\bs=[])\/∃g o cap arr e b1,v=.slice (some ⟨g,o,none⟩) (List.length l) cap/\bs=g::b1/\w.heap[g]?=some (.cells arr e (0,0))/\List.length l<=cap/\cap<=maxLen/\o+cap*size t<=arr.size/\
   X1v w ((arr.toList.drop o).take (List.length l*size t)) (X0o t l) b1:=by
 unfold X4Q at h;cases h with
 | emp h=>cases h;exact .inl ⟨_,rfl,rfl,rfl⟩
 | lst h1 h2 h3 h4 h5 h6=>cases h6;exact .inr ⟨_,_,_,_,_,_,rfl,by simp,h1,h2,h3,h4,h5⟩
theorem X4Q.emp{t:Ty}(ad:Option Addr):X4Q w t (.slice ad 0 0) [] []:=X1v.emp .nil
theorem X4Q.mk{t:Ty}{g o cap:Nat}{arr:Array Value}{e:TypeId}{l:List (El t)}{b1:List Nat}(h1:w.heap[g]?=some (.cells arr e (0,0)))(h2:List.length l<=cap)(h3:cap<=maxLen)(h4:o+cap*size t<=arr.size)(h5:X1v w ((arr.toList.drop o).take (List.length l*size t)) (X0o t l) b1):X4Q w t (.slice (some ⟨g,o,none⟩) (List.length l) cap) l (g::b1):=by
 have:=X1v.lst (tag:=none) h1 h2 h3 h4 h5 .nil;simpa [X4Q] using this
theorem X4Q.slice{t:Ty}{v:Value}{l:List (El t)}{bs:List Nat}(h:X4Q w t v l bs):∃ad cap,v=.slice ad (List.length l) cap/\List.length l<=cap/\cap<=maxLen:=by
 rcases h.cases with⟨ad,rfl,rfl,_⟩ | ⟨g,o,cap,arr,e,b1,rfl,_,_,h2,h3,_⟩
 . exact⟨ad,0,rfl,by simp,by simp⟩
 . exact⟨_,cap,rfl,h2,h3⟩
theorem X4Q.frame{t:Ty}{v:Value}{l:List (El t)}{bs:List Nat}(h:X4Q w t v l bs){w':World}(hw:∀g∈bs,w'.heap[g]?=w.heap[g]?):X4Q w' t v l bs:=X1v.frame h hw
theorem X4Q.rd{t:Ty}{v:Value}{l:List (El t)}{bs:List Nat}(h:X4Q w t v l bs){N:Mem}(hN:∀ad u,ad.block∈bs->w.cell? ad=some u->N ad=some u):RdC N (.list t) [v] l:=by
 have:=X1v.rd h hN;cases this with | cons a b=>exact a
theorem XiK(w:World)(g:Nat)(arr arr':Array Value)(e:TypeId)(h:w.heap[g]?=some (.cells arr e (0,0))):(w.setRow g arr').heap[g]?=some (.cells arr' e (0,0)):=setRow_heap w g arr arr' e _ h
theorem XfP{vs cs bs}(h:X1v w vs cs bs){c1 c2 c3:List X02}(e:cs=c1++(c2++c3)):∃v1 v2 v3 b1 b2 b3,vs=v1++(v2++v3)/\bs=b1++(b2++b3)/\X1v w v1 c1 b1/\X1v w v2 c2 b2/\X1v w v3 c3 b3:=by
 obtain⟨v1,v',b1,b',rfl,rfl,h1,h'⟩:=h.split e;obtain⟨v2,v3,b2,b3,rfl,rfl,h2,h3⟩:=h'.split rfl;exact⟨v1,v2,v3,b1,b2,b3,rfl,rfl,h1,h2,h3⟩
theorem Xpf{α:Type}(L us v1 v2 v3:List α)(o n:Nat)(h:(L.drop o).take n=v1++(v2++v3))(hu:us.length=v2.length)(hn:o+n<=L.length):
 ((L.take (o+v1.length)++us++L.drop (o+v1.length+us.length)).drop o).take n=v1++(us++v3):=by
 have hlen:v1.length+(v2.length+v3.length)=n:=by
  have:=Ybh List.length h;simp at this;omega
 have e1:(L.take (o+v1.length)).drop o=v1:=by
  rw[YbQ,YbY];have:((L.drop o).take n).take v1.length=v1:=by rw[h,Ybl]
  rw[YbL,Ya9 (by omega)]at this;exact this
 have e3:(L.drop (o+v1.length+us.length)).take v3.length=v3:=by
  have:(((L.drop o).take n).drop (v1.length+v2.length))=v3:=by rw[h,<-Yam,<-Yab,Ya4]
  rw[YbQ,YaH]at this;rw[hu,Yca];rw[show n - (v1.length+v2.length)=v3.length by omega]at this;exact this
 rw[Yam,YbT (by simp;omega),e1,Yc5];rw[Ya1 (by omega)]
 congr 1
 rw[Yc5,Ya1 (by omega)]
 congr 1
 rw[show n - v1.length - us.length=v3.length by omega,e3]
theorem X4Q.put{t:Ty}{v:Value}{l l':List (El t)}{bs:List Nat}(h:X4Q w t v l bs)(hnd:bs.Nodup){c1 c2 c3 ds:List X02}(hc:X0o t l=c1++(c2++c3)){us:List Value}{b':List Nat}(hu:X1v w us ds b')(hl:ds.length=c2.length)(hpos:0<c2.length)(hl':X0o t l'=c1++(ds++c3))(hlen:List.length l'=List.length l)(hdis:∀x∈b',x∉bs)(hnd':b'.Nodup):
 ∃g o cap arr e b1 b2 b3,v=.slice (some ⟨g,o,none⟩) (List.length l) cap/\w.heap[g]?=some (.cells arr e (0,0))/\o+c1.length+us.length<=arr.size/\bs=g::(b1++(b2++b3))/\us.length=ds.length/\
  X4Q (w.setRow g (arr.toList.take (o+c1.length)++us++arr.toList.drop (o+c1.length+us.length)).toArray) t v l' (g::(b1++(b'++b3)))/\(g::(b1++(b'++b3))).Nodup:=by
 rcases h.cases with⟨ad,rfl,rfl,rfl⟩ | ⟨g,o,cap,arr,e,b,rfl,rfl,hg,h2,h3,h4,h5⟩
 . have:=Ybh List.length hc;simp[X0o]at this;omega
 . obtain⟨v1,v2,v3,b1,b2,b3,ev,rfl,k1,k2,k3⟩:=XfP h5 hc;have hlu:=hu.length;have hl1:=k1.length;have hl2:=k2.length;have hl3:=k3.length;have hn:o+List.length l*size t<=arr.toList.length:=by
    have h7:List.length l*size t<=cap*size t:=YaY (size t) h2;have h8:arr.toList.length=arr.size:=Yaq;omega
   have hput:=Xpf arr.toList us v1 v2 v3 o _ ev (by omega) hn;have hsz:o+c1.length+us.length<=arr.size:=by
    have:=Ybh List.length ev;simp at this hn;have h7:List.length l*size t=v1.length+(v2.length+v3.length):=by omega
    omega
   have hnd2:(g::(b1++(b'++b3))).Nodup:=by
    simp only[YaB,YaF,Yaf,YcD]at hnd ⊢;simp only[Yak,Yaf,YcD]at hdis;obtain⟨⟨n1,n2,n3⟩,m1,⟨⟨m2,m3,m4⟩,m5⟩⟩:=hnd;refine⟨⟨n1,λhx=>(hdis g hx).1 rfl,n3⟩,m1,⟨hnd',m3,λx hx y hy e=>by subst e;exact(hdis x hx).2.2.2 hy⟩,?_⟩;intro x hx y hy e;subst e;rcases hy with hy | hy
    . exact(hdis x hy).2.1 hx
    . exact m5 x hx x (.inr hy) rfl
   refine⟨g,o,cap,arr,e,b1,b2,b3,rfl,hg,hsz,rfl,hlu,?_,hnd2⟩;have hfr:∀(vs:List Value) (cs:List X02) (bb:List Nat),X1v w vs cs bb->g∉bb->X1v (w.setRow g (arr.toList.take (o+c1.length)++us++arr.toList.drop (o+c1.length+us.length)).toArray) vs cs bb:=λvs cs bb hh hgn=>
    hh.frame λx hx=>setRow_other w g x _ (λe=>by subst e;exact hgn hx)
   simp only[YaB,Yaf,YcD]at hnd2;rw[<-hlen]at h2 h5 ⊢;refine X4Q.mk (XiK w g arr _ e hg) h2 h3 ?_ ?_
   . simp only[YbI,Yab,Yal,Yap,Yaq];omega
   . rw[hl'];have e2:((arr.toList.take (o+c1.length)++us++arr.toList.drop (o+c1.length+us.length)).toArray.toList.drop o).take (List.length l'*size t)=v1++(us++v3):=by
      rw[hlen,<-hl1];exact hput
     rw[e2];exact(hfr _ _ _ k1 hnd2.1.1).append ((hfr _ _ _ hu hnd2.1.2.1).append (hfr _ _ _ k3 hnd2.1.2.2))
end
section
variable {P:Program} {w:World}
theorem Xdy(t ty e e':TypeId)(i:TypeInfo)(ht:P.underlying t=some (.slice e))(hi:P.info? e=some i)(g o sLen sCap:Nat)(cur:Array Value)(hg:w.heap[g]?=some (.cells cur e' (0,0)))(a:Addr)(m c:Nat)(news:List Value)(hl:news.length=m*i.size)(hnews:∀j u,news[j]?=some u->w.cell? (a.add j)=some u)(h1:∀u∈news,u.oneCell'=true)(hroom:sLen+m<=sCap)(hfit:o+sLen*i.size+news.length<=cur.size):
 (Builtin.append_ #[t,t] ty #[.slice (some ⟨g,o,none⟩) sLen sCap,.slice (some a) m c]).run P w=
   .ok (.slice (some ⟨g,o,none⟩) (sLen+m) sCap) (w.setRow g (cur.toList.take (o+sLen*i.size)++news++cur.toList.drop (o+sLen*i.size+news.length)).toArray):=by
 have hf:=run_firstCells_some (P:=P) w i.size m a m c news hl hnews;have hst:=run_storeCells_at P g (o+sLen*i.size) e' news 0 cur w hg (by simpa using hfit) h1;simp only[Ya6]at hst;simp[Builtin.append_,run_underlying ht,sizeOf,typeInfo,hi,Builtin.lenOf,hroom,hf,Addr.add_lit,hst]
structure Xei (w w':World) (bs bs' more:List Nat):Prop where
 nodup:bs'.Nodup
 sub:∀x∈bs',x∈bs\/x∈more\/w.heap.size<=x
 size:w.heap.size<=w'.heap.size
 keep:∀k,k<w.heap.size->k∉bs->w'.heap[k]?=w.heap[k]?
 os:w'.os=w.os
 tape:w'.tape=w.tape
 output:w'.output=w.output
theorem Xar{t ty e:TypeId}{i:TypeInfo}{z:Value}(ht:P.underlying t=some (.slice e))(hi:P.info? e=some i)(hz:i.zero=some z)(hzs:z.cells.size=i.size){τ:Ty}(hs:i.size=size τ)(hpos:0<size τ){v:Value}{l:List (El τ)}{bs:List Nat}(h:X4Q w τ v l bs)(hnd:bs.Nodup){a:Addr}{c:Nat}{l2:List (El τ)}{us:List Value}{b':List Nat}(hus:∀j u,us[j]?=some u->w.cell? (a.add j)=some u)(hu:X1v w us (X0o τ l2) b')(hnd':b'.Nodup)(hdis:∀x∈b',x∉bs)(h0:0<List.length l2)(h63:List.length l+List.length l2<=maxLen)(hbytes:(List.length l+List.length l2)*i.bytes<=140737488355328):
 ∃v' w' bs',(Builtin.append_ #[t,t] ty #[v,.slice (some a) (List.length l2) c]).run P w=.ok v' w'/\X4Q w' τ v' (l++l2) bs'/\Xei w w' bs bs' b':=by
 have hsmall:List.length l+List.length l2<=9223372036854775807:=by simp only[maxLen]at h63;omega
 have hul:us.length=List.length l2*i.size:=by rw[hu.length,X0V,hs]
 have hcat:List.length (l++l2)=List.length l+List.length l2:=Yab;have grown:∀(old:Nat) (olds:List Value) (b1:List Nat),olds.length=List.length l*i.size->X1v w olds (X0o τ l) b1->(∀x∈b1,x∈bs)->b1.Nodup->
  ∃bs',X4Q (w.drew.alloc (.cells (olds.toArray++us.toArray++Builtin.zeroCells z.cells (grownCap w (List.length l+List.length l2) old e - (List.length l+List.length l2))) e)) τ (.slice (some ⟨w.heap.size,0,none⟩) (List.length l+List.length l2) (grownCap w (List.length l+List.length l2) old e)) (l++l2) bs'/\
   Xei w (w.drew.alloc (.cells (olds.toArray++us.toArray++Builtin.zeroCells z.cells (grownCap w (List.length l+List.length l2) old e - (List.length l+List.length l2))) e)) bs bs' b':=by
  intro old olds b1 hol ho hb1 hb1n;have hge:=grownCap_ge w (List.length l+List.length l2) old e;have hcm:grownCap w (List.length l+List.length l2) old e<=maxLen:=grownCap_le_maxLen w (List.length l+List.length l2) old e h63;have keep:∀k,k<w.heap.size->(w.drew.alloc (.cells (olds.toArray++us.toArray++Builtin.zeroCells z.cells (grownCap w (List.length l+List.length l2) old e - (List.length l+List.length l2))) e)).heap[k]?=w.heap[k]?:=λk hk=>heap_alloc_old w.drew _ hk;have hcs:X1v w (olds++us) (X0o τ (l++l2)) (b1++b'):=by rw[X1f];exact ho.append hu
  have hlt:=hcs.lt;have hnd2:(b1++b').Nodup:=by
   rw[YaF];exact⟨hb1n,hnd',λx hx y hy e=>by subst e;exact hdis x hy (hb1 x hx)⟩
  refine⟨w.heap.size::(b1++b'),?_,⟨?_,?_,by simp,λk hk _=>keep k hk,rfl,rfl,rfl⟩⟩
  . rw[<-hcat]at hge hcm ⊢;refine X4Q.mk (arr:=olds.toArray++us.toArray++Builtin.zeroCells z.cells _) (heap_alloc_new w.drew _) hge hcm ?_ ?_
    . simp only[YcP,YbI,size_zeroCells,hzs,hol,hul,hcat];rw[<-hs,<-Ya0,<-Ya0,YaU,hcat]at*;refine Nat.le_of_eq ?_
      congr 1
      omega
    . have e1:((olds.toArray++us.toArray++Builtin.zeroCells z.cells (grownCap w (List.length (l++l2)) old e - List.length (l++l2))).toList.drop 0).take (List.length (l++l2)*size τ)=olds++us:=by
       rw[YbK,YbZ,YbZ,YaZ]
       . rw[Ya1];simp[hol,hul,hcat,hs,Ya0]
       . simp[hol,hul,hcat,hs,Ya0]
      rw[e1];exact hcs.frame λg hg=>by rw[hcat];exact keep g (hlt g hg)
  . exact YaB.2 ⟨λhx=>Nat.lt_irrefl _ (hlt _ hx),hnd2⟩
  . intro x hx;simp only[Yak,Yaf]at hx;rcases hx with rfl | hx | hx
    . exact .inr (.inr (YaC _))
    . exact .inl (hb1 x hx)
    . exact .inr (.inl hx)
 rcases h.cases with⟨ad,rfl,rfl,rfl⟩ | ⟨g,o,cap,arr,e',b1,rfl,rfl,hg,h2,h3,h4,h5⟩
 ·
  obtain⟨bs',g1,g2⟩:=grown 0 [] [] (by simp) .nil (by simp) Ybg;simp only[Yai,YaU,YaV,Array.empty_append]at g1 g2 ⊢;simp only[Yai,YaU]at hbytes hsmall;cases ad with
  | none=>
    refine⟨_,_,bs',run_append_nil (P:=P) w t ty e i z ht hi hz a _ c us hul hus h0 (by omega) (by omega),?_,?_⟩
    . simpa using g1
    . simpa using g2
  | some b=>
    refine⟨_,_,bs',run_append_grow (P:=P) w t ty e i z ht hi hz b 0 0 [] (by simp) (by simp) a _ c us hul hus (by omega) (by omega) (growslice_fits (by omega) (by simpa using hbytes)),?_,?_⟩
    . simpa using g1
    . simpa using g2
 . by_cases hroom:List.length l+List.length l2<=cap
   . have hfit:o+List.length l*i.size+us.length<=arr.size:=by
      rw[hul,Yca,<-Ya0,hs];have:=YaY (size τ) hroom;omega
     refine⟨_,_,g::(b1++b'),Xdy t ty e e' i ht hi g o _ cap arr hg a _ c us hul hus hu.one hroom hfit,?_,⟨?_,?_,by simp,λk _ hk=>setRow_other w g k _ (λe=>by subst e;exact hk (by simp)),by simp,by simp,by simp⟩⟩
     . simp only[YaB]at hnd;have hgb:g∉b':=λhx=>hdis g hx (by simp);rw[<-hcat]at hroom ⊢;refine X4Q.mk (XiK w g arr _ e' hg) hroom h3 ?_ ?_
       . simp only[YbI,Yab,Yal,Yap,Yaq];omega
       . have h8:arr.toList.length=arr.size:=Yaq;have hn:o+List.length l*size τ<=arr.toList.length:=by rw[h8,<-hs];omega
         have e1:(((arr.toList.take (o+List.length l*i.size)++us++arr.toList.drop (o+List.length l*i.size+us.length)).toArray.toList).drop o).take (List.length (l++l2)*size τ)=(arr.toList.drop o).take (List.length l*size τ)++us:=by
          rw[hs,hcat,Ya0,Yam];rw[YbT (by simp;omega),YbQ,YbY];rw[Yc5];have e3:((arr.toList.drop o).take (List.length l*size τ)).length=List.length l*size τ:=by simp;rw[h8]at hn;omega
          rw[e3,Ya1 (by omega)]
          congr 1
          rw[YbY,YaZ (by rw[hul,hs];exact YaC _),Ya1 (by rw[hul,hs];exact YaC _)]
         rw[e1,X1f];have fr:∀{vs cs bb},X1v w vs cs bb->g∉bb->X1v (w.setRow g (arr.toList.take (o+List.length l*i.size)++us++arr.toList.drop (o+List.length l*i.size+us.length)).toArray) vs cs bb:=λhh hn=>hh.frame λx hx=>setRow_other w g x _ (λe=>by subst e;exact hn hx);exact(fr h5 hnd.1).append (fr hu hgb)
     . simp only[YaB,Yaf,YcD,YaF]at hnd ⊢;exact⟨⟨hnd.1,λhx=>hdis g hx (by simp)⟩,hnd.2,hnd',λx hx y hy e=>by subst e;exact hdis x hy (by simp[hx])⟩
     . intro x hx;simp only[Yak,Yaf]at hx ⊢;rcases hx with rfl | hx | hx
       . exact .inl (.inl rfl)
       . exact .inl (.inr hx)
       . exact .inr (.inl hx)
   . have hol:((arr.toList.drop o).take (List.length l*size τ)).length=List.length l*i.size:=by
      rw[h5.length,X0V,hs]
     obtain⟨bs',g1,g2⟩:=grown cap _ b1 hol h5 (λx hx=>by simp[hx]) (YaB.1 hnd).2;refine⟨_,_,bs',run_append_grow (P:=P) w t ty e i z ht hi hz ⟨g,o,none⟩ _ cap _ hol ?_ a _ c us hul hus (by omega) (by omega) (growslice_fits (by omega) hbytes),g1,g2⟩;intro j u hj;rw[X8S];rw[YaE]at hj;split at hj
     . exact X5z hg hj
     . cases hj
theorem X4Q.piece{τ:Ty}{v:Value}{l:List (El τ)}{bs:List Nat}(h:X4Q w τ v l bs)(hnd:bs.Nodup){ad:Option Addr}{n cap lo hi:Nat}(hv:v=.slice ad n cap)(h1:lo<=hi)(h2:hi<=List.length l):
 ∃bs',X4Q w τ (.slice (if cap=lo then ad else ad.map (·.add (lo*size τ))) (hi - lo) (cap - lo)) ((l.take hi).drop lo) bs'/\bs'.Nodup/\∀x∈bs',x∈bs:=by
 have hlen:List.length ((l.take hi).drop lo)=hi - lo:=by rw[Yap,Yal];omega
 rcases h.cases with⟨ad',rfl,rfl,rfl⟩ | ⟨g,o,cap',arr,e',b1,rfl,rfl,hg,k2,k3,k4,k5⟩
 . injection hv with e1 e2 e3;subst e1;subst e3;simp at h2;subst h2;have:lo=0:=by omega
   subst this;exact⟨[],by simpa using X4Q.emp ad',Ybg,by simp⟩
 . injection hv with e1 e2 e3;subst e1;subst e3;by_cases hc:cap'=lo
   . have e4:hi=lo:=by omega
     refine⟨[],?_,Ybg,by simp⟩;have:(l.take hi).drop lo=[]:=by rw[List.drop_eq_nil_iff];simp;omega
     rw[this,e4,hc,Yb3,Yah rfl];exact X4Q.emp _
   . have hfl:X0o τ l=X0o τ (l.take lo)++(X0o τ ((l.take hi).drop lo)++X0o τ (l.drop hi)):=by
      rw[<-X1f,<-X1f]
      congr 1
      have e5:(l.take lo)=(l.take hi).take lo:=by rw[YbL,Ya9 h1]
      rw[e5,<-Yam,YaJ,YaJ]
     obtain⟨v1,v2,v3,c1,c2,c3,ev,rfl,m1,m2,m3⟩:=XfP k5 hfl;have hl1:v1.length=lo*size τ:=by rw[m1.length,X0V,Yal,Ya9 (by omega)]
     have hl2:v2.length=(hi - lo)*size τ:=by rw[m2.length,X0V,hlen]
     refine⟨g::c2,?_,?_,?_⟩
     . rw[Yae hc];simp only[Ych,X8S];rw[<-hlen]at hl2 ⊢;refine X4Q.mk hg (by rw[hlen];omega) (by simp only[maxLen]at k3 ⊢;omega) ?_ ?_
       . have:lo*size τ+(cap' - lo)*size τ=cap'*size τ:=by rw[<-Ya0];congr 1;omega
         omega
       . have e6:(arr.toList.drop (o+lo*size τ)).take (List.length ((l.take hi).drop lo)*size τ)=v2:=by
          have e7:(((arr.toList.drop o).take (List.length l*size τ)).drop v1.length).take v2.length=v2:=by rw[ev,Ya4,Ybl]
          rw[YbQ,YaH,YbL,hl1,hl2]at e7;rw[Ya9]at e7
          . exact e7
          . rw[hlen,<-Nat.sub_mul];exact YaY _ (by omega)
         rw[e6];exact m2
     . simp only[YaB,Yaf,YcD,YaF]at hnd ⊢;exact⟨hnd.1.2.1,hnd.2.2.1.1⟩
     . intro x hx;simp only[Yak,Yaf]at hx ⊢;rcases hx with rfl | hx
       . exact .inl rfl
       . exact .inr (.inr (.inl hx))
def Xdc:Ty->Bool
 | .list _=>false
 | .pair a b=>Xdc a&&Xdc b
 | _=>true
def XfM:X02->Bool
 | .int ..=>true
 | .bool _=>true
 | .str _=>true
 | _=>false
theorem Xg4:∀{t:Ty},Xdc t=true->∀(x:El t),∀c∈flat t x,XfM c=true
 | .int _,_,x,c,h=>by simp[flat]at h;subst h;rfl
 | .bool,_,x,c,h=>by simp[flat]at h;subst h;rfl
 | .str,_,x,c,h=>by simp[flat]at h;subst h;rfl
 | .unit,_,x,c,h=>by simp[flat]at h
 | .list _,h0,x,c,h=>by simp[Xdc]at h0
 | .pair a b,h0,x,c,h=>by
   simp only[Xdc,Yac]at h0;simp only[flat,Yaf]at h;rcases h with h | h
   . exact Xg4 h0.1 x.1 c h
   . exact Xg4 h0.2 x.2 c h
theorem X1v.plain{M:Mem}{vs:List Value}{cs:List X02}(h:X27 (RdV M) vs cs):(∀c∈cs,XfM c=true)->X1v w vs cs []:=by
 induction h with
 | nil=>intro _;exact .nil
 | @cons v c vs cs hx hr ih=>
   intro hp;have ih':=ih λc hc=>hp c (Yan _ hc);have hc:=hp c (by simp);cases c<;>simp[XfM]at hc
   . cases hx;exact .int ih'
   . cases hx;exact .bool ih'
   . cases hx;exact .str ih'
theorem XgL{t:Ty}(h:Xdc t=true)(l:List (El t)):∀c∈X0o t l,XfM c=true:=λc hc=>by
 obtain⟨x,_,hx⟩:=XjA hc;exact Xg4 h x c hx
def XiO:Ty->List Value
 | .int k=>[.int k 0]
 | .bool=>[.bool false]
 | .str=>[.string ⟨#[]⟩]
 | .list _=>[.slice none 0 0]
 | .unit=>[]
 | .pair a b=>XiO a++XiO b
def dfl:(t:Ty)->El t
 | .int _=>(0:Int)
 | .bool=>false
 | .str=>[]
 | .list _=>[]
 | .unit=>()
 | .pair a b=>(dfl a,dfl b)
theorem X1v.zeros:∀(t:Ty),X1v w (XiO t) (flat t (dfl t)) []
 | .int _=>.int .nil
 | .bool=>.bool .nil
 | .str=>.str (s:=[]) .nil
 | .list _=>.emp .nil
 | .unit=>.nil
 | .pair a b=>by have:=(X1v.zeros a).append (X1v.zeros b);simpa [XiO,flat,dfl] using this
theorem X1v.zerosN(t:Ty):∀n,X1v w (List.replicate n (XiO t)).flatten (X0o t (List.replicate n (dfl t))) []
 | 0=>.nil
 | n+1=>by
   rw[Ybx,Ybs,Ybx,X3r];have:=(X1v.zeros (w:=w) t).append (X1v.zerosN t n);simpa using this
end
inductive Cap where
 | box (k off:Nat)
 | ptr (cs:List X02)
 | pp (k off:Nat)
 | pptr (cs:List X02)
inductive Sv where
 | und
 | nil
 | val (agg:Bool) (cs:List X02)
 | box (k off:Nat)
 | ptr (cs:List X02)
 | tup (l:List (Bool×List X02))
 | fn (f:Nat) (first caps:List Cap)
 | hp (t:Ty) (r i off:Nat)
 | bptr (cs:List X02) (r ver:Nat)
 | pp (k off:Nat)
 | pptr (cs:List X02)
def look{α:Type}(k:Nat):List (Nat×α)->Option α
 | []=>none
 | (j,x)::r=>if j=k then some x else look k r
inductive X0L where
 | cold (e:TypeId)
 | frz (e:TypeId) (t:Ty) (l:List (El t)) (ver:Nat) (z:Bool)
 | hot (e:TypeId) (t:Ty) (l:List (El t)) (ver:Nat) (hole:Option (Nat×Nat)) (z:Bool)
def X0L.cold? :X0L->Option TypeId
 | .cold e=>some e
 | .frz e _ _ _ true=>some e
 | _=>none
structure St where
 nt:Nat
 slots:List (Nat×Sv)
 boxes:List (Nat×List X02)
 rows:List (Nat×X0L)
 olds:List Nat:=[]
def St.get(st:St)(i:Nat):Sv:=match look i st.slots with | some sv=>sv | none=>.und
def St.put(st:St)(i:Nat)(sv:Sv):St:={st with slots:=(i,sv)::st.slots,olds:=st.olds.filter λj=>!(j==i)}
def St.lit(st:St)(i:Nat)(b:Bool):St:={st with slots:=(i,.val false [.bool b])::st.slots}
def St.box(st:St)(k:Nat):Option (List X02):=look k st.boxes
def St.rowv(st:St)(k:Nat):Option X0L:=look k st.rows
def X8M(k:Nat)(rows:List (Nat×X0L)):Option TypeId:=match look k rows with
 | some rv=>rv.cold?
 | none=>none
def St.row(st:St)(k:Nat):Option TypeId:=X8M k st.rows
structure TI where
 ty:Ty
 agg:Bool:=false
 fields:List (Nat×TypeId):=[]
 elem:TypeId:=0
 bytes:Nat
abbrev Tab:=List (TypeId×TI)
def Xml:Ty->List X02
 | .int k=>[.int k 0]
 | .bool=>[.bool false]
 | .str=>[.str []]
 | .list t=>[.lst t [] (some 0)]
 | .unit=>[]
 | .pair a b=>Xml a++Xml b
abbrev dflt:(t:Ty)->El t:=dfl
inductive Sh where
 | one
 | agg (n:Nat)
 | ptr (n:Nat)
 | clo (f:Nat) (caps:List Nat)
 | pptr (n:Nat)
 | clop (f n:Nat)
 | self (f:Nat) (m:Bool)
structure Con where
 io:Bool:=false
 I:Ty:=.unit
 ownI:List (Nat×TypeId):=[]
 A:Ty
 shA:List Sh
 ownA:List (Nat×TypeId):=[]
 backA:List (Nat×TypeId):=[]
 B:Ty:=.unit
 R:Ty
 shR:List (Bool×Nat)
 fresh:List (Nat×TypeId):=[]
 newR:Bool:=false
 pre:El I->El A->Prop
 f:Option (El I->El A->El R×(El I×El B)):=none
 post:El I->El A->El R×(El I×El B)->Prop:=λ_ _ _=>True
def Con.Post(con:Con)(i:El con.I)(a:El con.A)(y:El con.R×(El con.I×El con.B)):Prop:=match con.f with
 | some f=>y=f i a
 | none=>con.post i a y
structure Gam where
 con:Nat->Option Con
 tk:List Nat:=[]
 eqs:List (TypeId×Ty):=[]
structure In where
 sv:Sv
 raw:Sv:=.und
 box:Option (List X02):=none
 row:Option TypeId:=none
 boxes:List (Nat×List X02):=[]
 rows:List (Nat×X0L):=[]
structure Eff where
 sv:Sv
 nbox:Option (List X02):=none
 nrow:List (Nat×X0L):=[]
 urow:List (Nat×X0L):=[]
 krow:List Nat:=[]
 sbox:Option (Nat×List X02):=none
def XfY:Value->Sv
 | .int k n=>.val false [.int k n]
 | .bool b=>.val false [.bool b]
 | .string s=>.val false [.str s.data.toList]
 | .slice none 0 0=>.nil
 | _=>.und
def Xyc:X02->Option Nat
 | .lst _ _ (some r)=>some r
 | .own _ r=>some r
 | .sub _ r _ _=>some r
 | .bor _ _ r _ _=>some r
 | _=>none
def XcV:List X02->List Nat
 | []=>[]
 | c::l=>match Xyc c with
   | some r=>r::XcV l
   | none=>XcV l
def Xp2:List (Bool×List X02)->List Nat
 | []=>[]
 | p::l=>XcV p.2++Xp2 l
def Xaq:List Cap->List Nat
 | []=>[]
 | .ptr cs::l=>XcV cs++Xaq l
 | .pptr cs::l=>XcV cs++Xaq l
 | _::l=>Xaq l
def X8N:Sv->List Nat
 | .val _ cs=>XcV cs
 | .ptr cs=>XcV cs
 | .pptr cs=>XcV cs
 | .tup l=>Xp2 l
 | .fn _ a b=>Xaq a++Xaq b
 | .hp _ r _ _=>[r]
 | .bptr cs r _=>r::XcV cs
 | _=>[]
def XeM:List (Nat×List X02)->List Nat
 | []=>[]
 | p::l=>XcV p.2++XeM l
def X8h:List Cap->List Nat
 | []=>[]
 | .box k _::l=>k::X8h l
 | .pp k _::l=>k::X8h l
 | _::l=>X8h l
def X4I:Sv->List Nat
 | .box k _=>[k]
 | .pp k _=>[k]
 | .fn _ a b=>X8h a++X8h b
 | _=>[]
def pick{α:Type}(l:List (Nat×α)):List Nat->List (Nat×α)
 | []=>[]
 | k::ks=>match look k l with
   | some x=>(k,x)::pick l ks
   | none=>pick l ks
def Xo9(rows:List (Nat×X0L)):X02->X02
 | .own t r=>match look r rows with
   | some (.frz _ t' l _ z)=>if h:t'=t then .lst t (h▸l) (cond (z&&!(r==0)) (some r) none) else .own t r
   | _=>.own t r
 | .sub t r lo hi=>match look r rows with
   | some (.frz _ t' l _ _)=>if h:t'=t then .lst t (((h▸l:List (El t)).take hi).drop lo) none else .sub t r lo hi
   | _=>.sub t r lo hi
 | .bor t l r ver p=>match look r rows with
   | some (.frz _ _ _ ver' _)=>cond (ver'==ver) (.lst t l none) (.bor t l r ver p)
   | _=>.bor t l r ver p
 | c=>c
def XbT(rows:List (Nat×X0L)):List X02->List X02
 | []=>[]
 | c::l=>Xo9 rows c::XbT rows l
def resL(rows:List (Nat×X0L)):List (Bool×List X02)->List (Bool×List X02)
 | []=>[]
 | (a,cs)::l=>(a,XbT rows cs)::resL rows l
def Xd2(rows:List (Nat×X0L)):Sv->Sv
 | .val ag cs=>.val ag (XbT rows cs)
 | .tup l=>.tup (resL rows l)
 | .bptr cs r ver=>match look r rows with
   | some (.frz _ _ _ ver' _)=>cond (ver'==ver) (.ptr (XbT rows cs)) (.bptr cs r ver)
   | _=>.bptr cs r ver
 | sv=>sv
def Xrt(st:St)(sv:Sv):In:=
 let bx:=pick st.boxes (X4I sv)
 let rows:=pick st.rows (X8N sv++XeM bx)
 let sv':=Xd2 rows sv
 {sv:=sv',raw:=sv,box:=(match sv' with | .box k _=>look k bx | .pp k _=>look k bx | _=>none),row:=(match sv' with | .val false [.lst _ _ (some r)]=>X8M r rows | _=>none),boxes:=bx,rows:=rows}
def X3x(st:St):Operand->In
 | .tmp t=>Xrt st (st.get t)
 | .const v=>{sv:=XfY v}
 | .func f=>{sv:=.fn f [] [],raw:=.fn f [] []}
 | .global _=>{sv:=.und}
def Xii(tab:Tab)(t:TypeId):Sv->Sv
 | .nil=>match look t tab with
   | some ⟨.list τ,_,_,_,_⟩=>.val false [.lst τ [] (some 0)]
   | _=>.und
 | sv=>sv
def Xot(op:BinOp):X02->X02->Option (List Prop×X02)
 | .int k a,.int k' b=>match op with
   | .shl=>some ([0<=b],.int k (k.wrap (a*2 ^ (min b.toNat k.bits))))
   | .shr=>some ([0<=b],.int k (a.fdiv (2 ^ (min b.toNat k.bits))))
   | _=>if k=k' then match op with
     | .add=>some ([],.int k (k.wrap (a+b)))
     | .sub=>some ([],.int k (k.wrap (a - b)))
     | .mul=>some ([],.int k (k.wrap (a*b)))
     | .quo=>some ([b≠0],.int k (k.wrap (a.tdiv b)))
     | .rem=>some ([b≠0],.int k (a.tmod b))
     | .eql=>some ([],.bool (a==b))
     | .neq=>some ([],.bool (a !=b))
     | .lss=>some ([],.bool (decide (a<b)))
     | .leq=>some ([],.bool (decide (a<=b)))
     | .gtr=>some ([],.bool (decide (a>b)))
     | .geq=>some ([],.bool (decide (a>=b)))
     | .and=>some ([],.int k (k.wrap (BitVec.ofInt k.bits a&&&BitVec.ofInt k.bits b).toNat))
     | .or=>some ([],.int k (k.wrap (BitVec.ofInt k.bits a|||BitVec.ofInt k.bits b).toNat))
     | .xor=>some ([],.int k (k.wrap (BitVec.ofInt k.bits a ^^^ BitVec.ofInt k.bits b).toNat))
     | _=>none
     else none
 | .str a,.str b=>match op with
   | .add=>some ([a.length+b.length<=9223372036854775807],.str (a++b))
   | .eql=>some ([],.bool (a==b))
   | .neq=>some ([],.bool (!(a==b)))
   | .lss=>some ([],.bool (Op.bytesLess a b))
   | .leq=>some ([],.bool (Op.bytesLess a b||a==b))
   | .gtr=>some ([],.bool (!(Op.bytesLess a b||a==b)))
   | .geq=>some ([],.bool (!Op.bytesLess a b))
   | _=>none
 | .bool a,.bool b=>match op with
   | .eql=>some ([],.bool (a==b))
   | .neq=>some ([],.bool (!(a==b)))
   | _=>none
 | _,_=>none
def Xsr:X02->X02->Option Bool
 | .int _ a,.int _ b=>some (a==b)
 | .str a,.str b=>some (a==b)
 | .bool a,.bool b=>some (a==b)
 | _,_=>none
def XhG:List X02->List X02->Option Bool
 | [],[]=>some true
 | a::r,b::s=>match Xsr a b with
   | some x=>match XhG r s with
     | some y=>some (x&&y)
     | none=>none
   | none=>none
 | _,_=>none
def Xe8:Ty->Bool
 | .list _=>false
 | .unit=>false
 | .pair a b=>Xe8 a&&Xe8 b
 | _=>true
def XqB(τ:Ty)(cs ds:List X02):Option Bool:=match Xe8 τ,X2x τ cs,X2x τ ds with
 | true,some (_,[]),some (_,[])=>XhG cs ds
 | _,_,_=>none
def unV(op:UnOp):X02->Option X02
 | .bool b=>match op with
   | .not=>some (.bool (!b))
   | _=>none
 | .int k n=>match op with
   | .neg=>some (.int k (k.wrap (0 - n)))
   | .xor=>some (.int k (k.wrap (BitVec.ofInt k.bits (if k.signed then -1 else k.max) ^^^ BitVec.ofInt k.bits n).toNat))
   | _=>none
 | _=>none
def Xko(place:Nat->Option (Nat×Nat))(cells:List X02):List (Nat×List X02)->Option (List X02)
 | []=>some cells
 | (i,cs)::rest=>match place i with
   | none=>none
   | some (off,sz)=>
     if cs.length=sz/\off+cs.length<=cells.length then Xko place (cells.take off++(cs++cells.drop (off+cs.length))) rest
     else none
def XbX(t:Ty):Nat->List X02->Option (List (El t)×List X02)
 | 0,cs=>some ([],cs)
 | n+1,cs=>(X2x t cs).bind λp=>(XbX t n p.2).bind λq=>some (p.1::q.1,q.2)
def XkQ(t:Ty):Nat->List X02
 | 0=>[]
 | n+1=>Xml t++XkQ t n
def XaY(tab:Tab)(t:TypeId)(sv:Sv):Option (List X02):=match Xii tab t sv with
 | .val _ cs=>some cs
 | _=>none
def X0J(d i:Nat):Nat:=2*(d*4096+i)+1
def XkF(d i:Nat):Nat:=2*(d*4096+i+2048)+1
def XfL(i:Nat):Nat:=2*i+2
def Xlg(i:Nat):Nat:=2*(i+4096)+2
def Xlq(rows:List (Nat×X0L)):X02->Option X02
 | .lst t l _=>some (.lst t l none)
 | .emp t=>some (.lst t [] none)
 | .own t r=>match look r rows with
   | some (.hot _ t' l _ none _)=>if h:t'=t then some (.lst t (h▸l) none) else none
   | _=>none
 | .sub t r lo hi=>match look r rows with
   | some (.hot _ t' l _ none _)=>if h:t'=t then some (.lst t (((h▸l:List (El t)).take hi).drop lo) none) else none
   | _=>none
 | .bor t l r ver _=>match look r rows with
   | some (.hot _ _ _ ver' none _)=>cond (ver'==ver) (some (.lst t l none)) none
   | _=>none
 | .und=>none
 | c=>some c
def XeP(rows:List (Nat×X0L)):List X02->Option (List X02)
 | []=>some []
 | c::l=>match Xlq rows c,XeP rows l with
   | some c',some l'=>some (c'::l')
   | _,_=>none
def X21:List X02->List Nat
 | []=>[]
 | .own _ r::l=>r::X21 l
 | .sub _ r _ _::l=>r::X21 l
 | .bor _ _ r _ _::l=>r::X21 l
 | _::l=>X21 l
def XcN(rows:List (Nat×X0L)):List X02->Option (List X02×List Nat)
 | []=>some ([],[])
 | .int k n::l=>(XcN rows l).map λp=>(.int k n::p.1,p.2)
 | .bool b::l=>(XcN rows l).map λp=>(.bool b::p.1,p.2)
 | .str s::l=>(XcN rows l).map λp=>(.str s::p.1,p.2)
 | .lst t x tag::l=>match tag with
   | some 0=>match x with
     | []=>(XcN rows l).map λp=>(.lst t [] none::p.1,p.2)
     | _=>none
   | _=>none
 | .emp t::l=>(XcN rows l).map λp=>(.lst t [] none::p.1,p.2)
 | .own t r::l=>match look r rows with
   | some (.hot _ t' x _ none _)=>if h:t'=t then(XcN rows l).map λp=>(.lst t (h▸x) none::p.1,r::p.2) else none
   | _=>none
 | _=>none
def X51(k:Nat):List Nat->Bool
 | []=>true
 | j::l=>!(j==k)&&X51 k l
def X60:List Nat->Bool
 | []=>true
 | k::l=>X51 k l&&X60 l
def Xgq(l r:List Nat):Bool:=l.all λk=>X51 k r
def XmX(r ver:Nat)(p:Nat->Option (Nat×Nat)):Nat->List X02->List X02
 | _,[]=>[]
 | j,.lst t l _::cs=>.bor t l r ver (p j)::XmX r ver p (j+1) cs
 | j,c::cs=>c::XmX r ver p (j+1) cs
def X9t(boxes:List (Nat×List X02)):List Nat->List Cap->Option (List X02×List Nat)
 | [],[]=>some ([],[])
 | n::ns,.ptr cs::l=>if n<=cs.length then(X9t boxes ns l).map λp=>(cs.take n++p.1,p.2) else none
 | n::ns,.box k off::l=>match look k boxes with
   | some cs=>if off+n<=cs.length then(X9t boxes ns l).map λp=>((cs.drop off).take n++p.1,k::p.2) else none
   | none=>none
 | _,_=>none
def X2a(tab:Tab)(ko:Option Nat):List Sh->List TypeId->List In->Option (List X02×List Nat)
 | [],[],[]=>some ([],[])
 | .one::sh,t::ts,x::xs=>match Xii tab t x.sv with
   | .val false [c]=>(X2a tab ko sh ts xs).map λr=>(c::r.1,r.2)
   | _=>none
 | .agg n::sh,t::ts,x::xs=>match Xii tab t x.sv with
   | .val true cs=>if cs.length=n then(X2a tab ko sh ts xs).map λr=>(cs++r.1,r.2) else none
   | _=>none
 | .ptr n::sh,_::ts,x::xs=>match x.sv with
   | .ptr cs=>if n<=cs.length then(X2a tab ko sh ts xs).map λr=>(cs.take n++r.1,r.2) else none
   | .box k off=>match x.box with
     | some cs=>if off+n<=cs.length then(X2a tab ko sh ts xs).map λr=>((cs.drop off).take n++r.1,k::r.2) else none
     | none=>none
   | _=>none
 | .clo f ns::sh,_::ts,x::xs=>match x.sv with
   | .fn f' [] caps=>if f'=f then match X9t x.boxes ns caps with
     | some p=>(X2a tab ko sh ts xs).map λr=>(p.1++r.1,p.2++r.2)
     | none=>none
     else none
   | _=>none
 | .pptr n::sh,_::ts,x::xs=>match x.sv with
   | .pptr cs=>if n<=cs.length then(X2a tab ko sh ts xs).map λr=>(cs.take n++r.1,r.2) else none
   | .pp k off=>match x.box with
     | some cs=>if off+n<=cs.length then(X2a tab ko sh ts xs).map λr=>((cs.drop off).take n++r.1,k::r.2) else none
     | none=>none
   | _=>none
 | .clop f n::sh,_::ts,x::xs=>match x.sv with
   | .fn f' [] [.pptr cs]=>if f'=f/\n<=cs.length then(X2a tab ko sh ts xs).map λr=>(cs.take n++r.1,r.2) else none
   | .fn f' [] [.pp k off]=>match look k x.boxes with
     | some cs=>if f'=f/\off+n<=cs.length then(X2a tab ko sh ts xs).map λr=>((cs.drop off).take n++r.1,k::r.2) else none
     | none=>none
   | _=>none
 | .self f m::sh,_::ts,x::xs=>match x.sv,ko,m with
   | .fn f' [.box k 0] [],some k',false=>if f'=f/\k=k' then X2a tab ko sh ts xs else none
   | .fn f' [] [.pp k 0],some k',true=>if f'=f/\k=k' then X2a tab ko sh ts xs else none
   | _,_,_=>none
 | _,_,_=>none
def XpA:List (Bool×Nat)->List X02->List (Bool×List X02)
 | [],_=>[]
 | (ag,n)::sh,cs=>(ag,cs.take n)::XpA sh (cs.drop n)
def Xew(key:Nat->Nat)(fr:List (Nat×TypeId))(i:Nat):List X02->List X02
 | []=>[]
 | .lst t l _::r=>(match look i fr with | some _=>.own t (key i) | none=>.lst t l none)::Xew key fr (i+1) r
 | c::r=>c::Xew key fr (i+1) r
def X6C(key:Nat->Nat)(fr:List (Nat×TypeId))(i:Nat):List X02->List (Nat×X0L)
 | []=>[]
 | .lst t l _::r=>match look i fr with
   | some e=>(key i,.hot e t l 0 none false)::X6C key fr (i+1) r
   | none=>X6C key fr (i+1) r
 | _::r=>X6C key fr (i+1) r
def XvX:List (Bool×List X02)->Sv
 | [(ag,cs)]=>.val ag cs
 | l=>.tup l
def Xcq(fr:List (Nat×TypeId))(i:Nat):List X02->Bool
 | []=>false
 | .lst ..::r=>(match look i fr with | some _=>false | none=>true)||Xcq fr (i+1) r
 | _::r=>Xcq fr (i+1) r
def Con.leans(con:Con):Bool:=Xcq con.fresh 0 (flat con.R (dfl con.R))||Xcq con.ownI 0 (flat con.I (dfl con.I))
def Xa4(rows:List (Nat×X0L))(cs:List X02):List (Nat×TypeId)->Option (List Nat)
 | []=>some []
 | (j,e)::l=>match cs[j]?,Xa4 rows cs l with
   | some (.own t r),some ks=>match look r rows with
     | some (.hot _ t' _ _ none _)=>if t'=t then some (r::ks) else none
     | _=>none
   | some (.lst _ [] (some 0)),some ks=>some ks
   | some (.emp _),some ks=>some ks
   | _,_=>none
def Xim(τ:Ty)(l:List (El τ))(i off:Nat)(ds:List X02):Option (List (El τ)):=
 match X2x τ ((flat τ (l.getD i (dfl τ))).take off++(ds++(flat τ (l.getD i (dfl τ))).drop (off+ds.length))) with
 | some (y,[])=>some (l.set i y)
 | _=>none
def X8r(rows:List (Nat×X0L))(cs:List X02):List (Nat×TypeId)->List X02->Option (List (Nat×X0L))
 | [],[]=>some []
 | (j,e)::l,.lst t' l' _::bs=>match cs[j]?,X8r rows cs l bs with
   | some (.own _ r),some ks=>match look r rows with
     | some (.hot e0 t1 _ ver none _)=>if t1=t' then some ((r,.hot e0 t' l' (ver+1) none false)::ks) else none
     | _=>none
   | some (.bor t0 _ r ver (some (i,off))),some ks=>match look r rows with
     | some (.hot e0 τ L ver' none _)=>if ver'=ver/\t0=t' then match Xim τ L i off [.lst t' l' none] with
       | some L'=>some ((r,.hot e0 τ L' (ver+1) none false)::ks)
       | none=>none
       else none
     | _=>none
   | some (.lst _ [] (some 0)),some ks=>some ks
   | some (.emp _),some ks=>some ks
   | _,_=>none
 | _,_=>none
def X0v(cs:List X02):List (Nat×TypeId)->List Nat
 | []=>[]
 | (j,_)::l=>match cs[j]? with
   | some (.own _ r)=>r::X0v cs l
   | some (.bor _ _ r _ (some _))=>r::X0v cs l
   | _=>X0v cs l
def Xai(skip:List (Nat×TypeId))(i:Nat):List X02->List X02
 | []=>[]
 | c::l=>match look i skip with
   | some _=>Xai skip (i+1) l
   | none=>c::Xai skip (i+1) l
def XnJ(rows:List (Nat×X0L))(cs:List X02):List (Nat×TypeId)->Bool
 | []=>true
 | (j,_)::l=>(match cs[j]? with
   | some (.own t r)=>(match look r rows with | some (.hot _ t' _ _ none _)=>decide (t'=t) | _=>false)
   | some (.bor _ _ r ver (some _))=>(match look r rows with | some (.hot _ _ _ ver' none _)=>decide (ver'=ver) | _=>false)
   | some (.lst _ [] (some 0))=>true
   | some (.emp _)=>true
   | _=>false)&&XnJ rows cs l
structure XvV (con:Con) where
 i:El con.I
 a:El con.A
 k:Option Nat
 cs:List X02
 rows:List (Nat×X0L)
 kill:List Nat
def XwV(k:Option Nat)(l:List Nat):Bool:=match k with
 | some k=>X51 k l
 | none=>true
def Xmw(con:Con)(rows:List (Nat×X0L))(i:El con.I)(k:Option Nat)(iks:List Nat)(p:List X02×List Nat):Option (XvV con):=
 match XeP rows p.1,Xa4 rows p.1 con.ownA with
 | some vs,some ks=>match X2x con.A vs with
   | some (a,[])=>
     match X60 (ks++(iks++X0v p.1 con.backA))&&Xgq (X21 (Xai (con.ownA++con.backA) 0 p.1)) (ks++(iks++X0v p.1 con.backA))&&XnJ rows p.1 con.backA
      &&(!con.leans||((X21 (Xai (con.ownA++con.backA) 0 p.1)).isEmpty&&p.2.isEmpty))&&XwV k p.2 with
     | true=>some ⟨i,a,k,p.1,rows,ks++iks⟩
     | false=>none
   | _=>none
 | _,_=>none
def Xix(tab:Tab)(con:Con)(ts:List TypeId)(args:List In):Option (XvV con):=
 match con.io with
 | true=>match args,ts with
   | x0::xs,_::ts'=>match x0.sv,x0.box with
     | .box k 0,some bc=>match XeP (args.flatMap (·.rows)) bc,Xa4 (args.flatMap (·.rows)) bc con.ownI,X2a tab (some k) con.shA ts' xs with
       | some ic,some iks,some p=>match X2x con.I ic with
         | some (i,[])=>match (X21 (Xai con.ownI 0 bc)).isEmpty with
           | true=>Xmw con (args.flatMap (·.rows)) i (some k) iks p
           | false=>none
         | _=>none
       | _,_,_=>none
     | _,_=>none
   | _,_=>none
 | false=>match X2a tab none con.shA ts args with
   | some p=>Xmw con (args.flatMap (·.rows)) (dfl con.I) none [] p
   | none=>none
def X3z(con:Con)(d:Nat)(x:XvV con)(y:El con.R×(El con.I×El con.B))(br:List (Nat×X0L)):Eff:=
 {sv:=(match con.newR with | true=>.box (d+1) 0 | false=>XvX (XpA con.shR (Xew (X0J d) con.fresh 0 (flat con.R y.1))))
  nbox:=(match con.newR with | true=>some (Xew (X0J d) con.fresh 0 (flat con.R y.1)) | false=>none)
  nrow:=X6C (X0J d) con.fresh 0 (flat con.R y.1)++(match x.k with | some _=>X6C (XkF d) con.ownI 0 (flat con.I y.2.1) | none=>[])
  urow:=br
  krow:=x.kill
  sbox:=(match x.k with | some k=>some (k,Xew (XkF d) con.ownI 0 (flat con.I y.2.1)) | none=>none)}
def X55(Γ:Gam)(o:Oper)(ins:List In):Option (Con×List TypeId×List In):=match o.op,ins with
 | .call c,f::xs=>match c.callee with
   | .value _=>match f.sv with
     | .fn n first caps=>match Γ.con n with
       | some con=>some (con,first.map (λ_=>0)++(c.argTypes.toList++caps.map λ_=>0),first.map (capIn f)++(xs++caps.map (capIn f)))
       | none=>none
     | _=>none
   | _=>none
 | _,_=>none
where
 capIn (f:In):Cap->In
  | .box k off=>{sv:=.box k off,box:=look k f.boxes,boxes:=f.boxes,rows:=f.rows}
  | .ptr cs=>{sv:=.ptr cs,rows:=f.rows}
  | .pp k off=>{sv:=.pp k off,box:=look k f.boxes,boxes:=f.boxes,rows:=f.rows}
  | .pptr cs=>{sv:=.pptr cs,rows:=f.rows}
def intOf?(x:In):Option Int:=match x.sv with
 | .val false [.int _ n]=>some n
 | _=>none
def listOf?(x:In):Option ((t:Ty)×List (El t)):=match x.sv with
 | .val false [c]=>match Xlq x.rows c with
   | some (.lst t l _)=>some ⟨t,l⟩
   | _=>none
 | _=>none
def Xhy(tab:Tab)(b:Builtin)(o:Oper)(ts:List TypeId)(args:List In):Option (List Prop×Eff):=
 match b,args with
 | .len,[x]=>match ts with
   | [t]=>match look t tab,x.sv with
     | some ⟨.str,false,_,_,_⟩,.val false [.str s]=>some ([],{sv:=.val false [.int .i64 s.length]})
     | some ⟨.list _,false,_,_,_⟩,_=>match listOf? x with
       | some ⟨τ,l⟩=>some ([],{sv:=.val false [.int .i64 l.length]})
       | none=>none
     | _,_=>none
   | _=>none
 | .min,[x,y]=>match x.sv,y.sv with
   | .val false [.int k a],.val false [.int _ b]=>some ([],{sv:=.val false [.int k (if b<a then b else a)]})
   | _,_=>none
 | .max,[x,y]=>match x.sv,y.sv with
   | .val false [.int k a],.val false [.int _ b]=>some ([],{sv:=.val false [.int k (if a<b then b else a)]})
   | _,_=>none
 | _,_=>none
def X97{a b:Ty}(h:a=b)(l:List (El a)):List (El b):=h▸l
def Xms(τ:Ty)(yc:X02)(y:In):Option (List (El τ)×List Nat):=match Xdc τ with
 | true=>match Xlq y.rows yc with
   | some (.lst t l2 _)=>if h:t=τ then some (X97 h l2,[]) else none
   | _=>none
 | false=>match yc with
   | .own t r=>match look r y.rows with
     | some (.hot _ t' l2 _ none _)=>if h:t'=τ then if t=τ then some (X97 h l2,[r]) else none else none
     | _=>none
   | .lst t [] (some 0)=>some ([],[])
   | .emp t=>some ([],[])
   | _=>none
def Xdo(e:TypeId)(τ:Ty)(bytes:Nat)(d:Nat)(x:In)(xc yc:X02)(y:In):Option (List Prop×Eff):=
 let fin (l l2:List (El τ)) (kill:List Nat) (upd:List (Nat×X0L)):Option (List Prop×Eff):=
  some ([l.length+l2.length<=9223372036854775807,(l.length+l2.length)*bytes<=140737488355328],
   {sv:=.val false [.own τ (X0J d 0)],nrow:=[(X0J d 0,.hot e τ (l++l2) 0 none false)],krow:=kill,urow:=upd})
 match Xms τ yc y with
 | none=>none
 | some (l2,ks)=>match xc with
   | .own t r=>match look r x.rows with
     | some (.hot _ t' l _ none z)=>if h:t'=τ then if t=τ then match X51 r ks with
       | true=>fin (X97 h l) l2 (r::ks) []
       | false=>none
       else none else none
     | _=>none
   | .lst t [] (some 0)=>fin [] l2 ks []
   | .emp t=>fin [] l2 ks []
   | .bor t l r ver (some (i,off))=>match look r x.rows with
     | some (.hot e0 τ0 L ver' none _)=>if h:t=τ then if ver'=ver then match X51 r ks,Xim τ0 L i off [.lst τ [] none] with
       | true,some L'=>fin (X97 h l) l2 ks [(r,.hot e0 τ0 L' (ver+1) (some (i,off)) false)]
       | _,_=>none
       else none else none
     | _=>none
   | _=>none
def Xod(tab:Tab)(ti:TI)(τ:Ty)(r i off:Nat)(x:In)(ds:List X02)(rows:List (Nat×X0L)):Option (List Prop×Eff):=
 match look r x.rows,XcN rows ds with
 | some (.hot e τ' l ver hole z),some (ps,ks)=>if h:τ'=τ then
    if ds.length=size ti.ty/\off+ds.length<=size τ/\0<ds.length then
     match X51 r ks&&X60 ks,Xim τ (X97 h l) i off ps with
     | true,some l'=>match hole with
       | none=>some ([],{sv:=.und,krow:=ks,urow:=[(r,.hot e τ l' (ver+1) none z)]})
       | some (i',off')=>if off'=off/\ds.length=1 then some ([i=i'],{sv:=.und,krow:=ks,urow:=[(r,.hot e τ l' (ver+1) none z)]}) else none
     | _,_=>none
    else none
   else none
 | _,_=>none
def X5n(τ:Ty)(l:List (El τ))(a b:Option Int):List Prop×List (El τ)×(Nat×Nat):=match a,b with
 | none,none=>([],l,(0,l.length))
 | some n,none=>([0<=n,n<=l.length],l.drop n.toNat,(n.toNat,l.length))
 | none,some m=>([0<=m,m<=l.length],l.take m.toNat,(0,m.toNat))
 | some n,some m=>([0<=n,n<=m,m<=l.length],(l.take m.toNat).drop n.toNat,(n.toNat,m.toNat))
def Xxh(τ:Ty)(tag:Option Nat)(rows:List (Nat×X0L))(b:Option Int):Option Nat:=match tag,b with
 | some r,none=>match look r rows with
   | some (.frz _ τ' _ _ true)=>if τ'=τ/\r≠0 then some r else none
   | _=>none
 | _,_=>none
def Xta(τ:Ty)(e:TypeId)(x:In):Option (Nat×Nat×Nat×List (El τ)):=match x.raw with
 | .val false [.sub τ1 r lo hi]=>match look r x.rows with
   | some (.frz e' τ' L _ true)=>if h:τ'=τ then if τ1=τ/\e'=e/\r≠0 then some (r,lo,hi,X97 h L) else none else none
   | _=>none
 | _=>none
def Xl3(tab:Tab)(Γ:Gam)(o:Oper)(ti:TI)(x:In)(a b:Option Int):Option (List Prop×Eff):=
 match x.sv,ti.ty,ti.agg with
 | .val false [.str s],.str,false=>
   match a,b with
   | none,none=>some ([],{sv:=.val false [.str s]})
   | some n,none=>some ([0<=n,n<=s.length],{sv:=.val false [.str (s.drop n.toNat)]})
   | none,some m=>some ([0<=m,m<=s.length],{sv:=.val false [.str (s.take m.toNat)]})
   | some n,some m=>some ([0<=n,n<=m,m<=s.length],{sv:=.val false [.str ((s.take m.toNat).drop n.toNat)]})
 | .val false [.lst τ l tag],.list _,false=>match look ti.elem tab with
   | some te=>if size te.ty=size τ then
      let p:=X5n τ l a b
      match o.dst.any λd=>Γ.tk.contains (d+1000000) with
      | true=>match Xxh τ tag x.rows b with
        | some r=>some (p.1,{sv:=.val false [.sub τ r p.2.2.1 p.2.2.2]})
        | none=>none
      | false=>some (p.1,{sv:=.val false [.lst τ p.2.1 none]})
     else none
   | none=>none
 | .val false [.own τ r],.list _,false=>match look ti.elem tab,look r x.rows with
   | some te,some (.hot e τ' l ver none z)=>if h:τ'=τ then if size te.ty=size τ then
      let p:=X5n τ (X97 h l) a b
      match o.dst,o.dst.any Γ.tk.contains with
      | some d,true=>some (p.1,{sv:=.val false [.own τ (X0J d 0)],nrow:=[(X0J d 0,.hot e τ p.2.1 0 none false)],krow:=[r]})
      | _,_=>some (p.1,{sv:=.val false [.sub τ r p.2.2.1 p.2.2.2]})
     else none else none
   | _,_=>none
 | .val false [.sub τ r lo hi],.list _,false=>match look ti.elem tab,look r x.rows with
   | some te,some (.hot e τ' l ver none z)=>if h:τ'=τ then if size te.ty=size τ then
      let p:=X5n τ (((X97 h l).take hi).drop lo) a b
      some (p.1,{sv:=.val false [.sub τ r (lo+p.2.2.1) (lo+p.2.2.2)]})
     else none else none
   | _,_=>none
 | .val false [.bor τ l r ver _],.list _,false=>match look ti.elem tab,look r x.rows with
   | some te,some (.hot _ _ _ ver' _ _)=>if ver'=ver then if size te.ty=size τ then
      let p:=X5n τ l a b
      some (p.1,{sv:=.val false [.bor τ p.2.1 r ver none]})
     else none else none
   | _,_=>none
 | _,_,_=>none
def XlJ(tab:Tab)(Γ:Gam)(o:Oper)(t:TypeId)(lo hi:Option Operand)(x:In)(ys:List In):Option (List Prop×Eff):=
 match look t tab with
 | none=>none
 | some ti=>match lo,hi,ys with
   | none,none,[]=>Xl3 tab Γ o ti x none none
   | some _,none,[y]=>match intOf? y with
     | some n=>Xl3 tab Γ o ti x (some n) none
     | none=>none
   | none,some _,[z]=>match intOf? z with
     | some m=>Xl3 tab Γ o ti x none (some m)
     | none=>none
   | some _,some _,[y,z]=>match intOf? y,intOf? z with
     | some n,some m=>Xl3 tab Γ o ti x (some n) (some m)
     | _,_=>none
   | _,_,_=>none
def Xk9(tab:Tab)(o:Oper)(ts:List TypeId)(x y:In):Option (List Prop×Eff):=
 match o.dst,ts with
 | some d,[t,u]=>if t=u then match look t tab,Xii tab t x.sv,Xii tab u y.sv with
   | some ⟨.list τ,false,_,e,_⟩,.val false [xc],.val false [yc]=>match look e tab with
     | some ⟨τe,_,_,_,bytes⟩=>if τe=τ/\0<size τ then
        match xc,yc with
        | .lst τ1 l (some r),.lst τ2 l' _=>match (decide (r=0)&&Xdc τ) with
          | true=>Xdo e τ bytes d x xc yc y
          | false=>if h1:τ1=τ then if h2:τ2=τ then if r=0\/x.row=some e then
            some ([(X97 h1 l).length+(X97 h2 l').length<=9223372036854775807,((X97 h1 l).length+(X97 h2 l').length)*bytes<=140737488355328],
             {sv:=.val false [.lst τ (X97 h1 l++X97 h2 l') (some (X0J d 0))],nrow:=[(X0J d 0,.cold e)],krow:=[r]})
            else none else none else none
        | .lst τ1 l none,.lst τ2 l' _=>match Xta τ e x with
          | some (r,lo,hi,L)=>if h2:τ2=τ then
            some ([lo<L.length,hi=L.length,(L.drop lo).length+(X97 h2 l').length<=9223372036854775807,((L.drop lo).length+(X97 h2 l').length)*bytes<=140737488355328],
             {sv:=.val false [.lst τ (L.drop lo++X97 h2 l') (some (X0J d 0))],nrow:=[(X0J d 0,.cold e)],krow:=[r]})
            else none
          | none=>Xdo e τ bytes d x xc yc y
        | _,_=>Xdo e τ bytes d x xc yc y
       else none
     | none=>none
   | _,_,_=>none
   else none
 | _,_=>none
structure Dst (τ:Ty) where
 e:TypeId
 l:List (El τ)
 ver:Nat
 z:Bool
 r:Nat
 lo:Nat
 hi:Nat
def XuU(τ:Ty)(x:In):Option (Dst τ):=match x.sv with
 | .val false [.own τ1 r]=>match look r x.rows with
   | some (.hot e τ' l ver none z)=>if h:τ'=τ then if τ1=τ then some ⟨e,X97 h l,ver,z,r,0,(X97 h l).length⟩ else none else none
   | _=>none
 | .val false [.sub τ1 r lo hi]=>match look r x.rows with
   | some (.hot e τ' l ver none z)=>if h:τ'=τ then if τ1=τ then some ⟨e,X97 h l,ver,z,r,lo,hi⟩ else none else none
   | _=>none
 | _=>none
def XnI(tab:Tab)(Γ:Gam)(o:Oper)(c:Call)(xs:List In):Option (List Prop×Eff):=
 match c.callee,xs with
 | .builtin .append,[x,y]=>Xk9 tab o c.argTypes.toList x y
 | .builtin .copy,[x,y]=>match c.argTypes.toList with
   | [tx,ty]=>match look tx tab with
     | some ⟨.list τ,false,_,e,_⟩=>match look e tab with
       | some te=>if te.ty=τ/\0<size τ/\Xdc τ=true then match XuU τ x,listOf? y with
          | some p,some ⟨τ2,l2⟩=>if h2:τ2=τ then
             some ([p.lo<=p.hi,p.hi<=p.l.length],{sv:=.val false [.int .i64 (min (p.hi - p.lo) (X97 h2 l2).length:Nat)],urow:=[(p.r,.hot p.e τ (p.l.take p.lo++((X97 h2 l2).take (min (p.hi - p.lo) (X97 h2 l2).length)++p.l.drop (p.lo+min (p.hi - p.lo) (X97 h2 l2).length))) (p.ver+1) none p.z)]})
            else none
          | _,_=>none
         else none
       | none=>none
     | _=>none
   | _=>none
 | .builtin .clear,[x]=>match c.argTypes.toList with
   | [tx]=>match look tx tab with
     | some ⟨.list τ,false,_,e,_⟩=>match look e tab with
       | some te=>if te.ty=τ/\0<size τ then match XuU τ x with
          | some p=>some ([p.lo<=p.hi,p.hi<=p.l.length],{sv:=.tup [],urow:=[(p.r,.hot p.e τ (p.l.take p.lo++(List.replicate (p.hi - p.lo) (dfl τ)++p.l.drop p.hi)) (p.ver+1) none p.z)]})
          | none=>none
         else none
       | none=>none
     | _=>none
   | _=>none
 | .builtin b,xs=>Xhy tab b o c.argTypes.toList xs
 | _,_=>none
def XfA(tab:Tab)(Γ:Gam)(o:Oper)(args:List In):Option (List Prop×Eff):=
 match o.op,args with
 | .move _,[x]=>some ([],{sv:=Xii tab o.type x.sv})
 | .assign _,[x]=>some ([],{sv:=Xii tab o.type x.sv})
 | .pick _ _ _,[c,a,b]=>match c.sv with
   | .val false [.bool c']=>match c' with
     | true=>some ([],{sv:=a.sv})
     | false=>some ([],{sv:=b.sv})
   | _=>none
 | .alloc t,[]=>match o.dst,look t tab with
   | some d,some ti=>some ([],{sv:=.box (d+1) 0,nbox:=some (Xml ti.ty)})
   | _,_=>none
 | .box t _,[x]=>match o.dst,x.sv with
   | some d,.box k off=>some ([],{sv:=.pp k off})
   | some d,.ptr cs=>some ([],{sv:=.pptr cs})
   | some d,_=>match XaY tab t x.sv with
     | some cs=>some ([],{sv:=.box (d+1) 0,nbox:=some cs})
     | none=>none
   | none,_=>none
 | .build t parts,xs=>match look t tab with
   | some ti=>if ti.agg then
      match (parts.toList.map (·.1)).zip xs |>.mapM λp=>(ti.fields[p.1]?).bind λf=>(XaY tab f.2 p.2.sv).bind λcs=>some (p.1,cs) with
      | some ps=>match Xko (λi=>(ti.fields[i]?).bind λf=>(look f.2 tab).bind λtf=>some (f.1,size tf.ty)) (Xml ti.ty) ps with
        | some cs=>some ([],{sv:=.val true cs})
        | none=>none
      | none=>none
     else none
   | none=>none
 | .buildSlice t n parts,xs=>match o.dst,look t tab with
   | some d,some ⟨.list τ,false,_,e,_⟩=>match look e tab with
     | some te=>if te.ty=τ/\0<size τ/\n*size τ<=16777216 then
        match (parts.toList.map (·.1)).zip xs |>.mapM λp=>(XaY tab e p.2.sv).bind λcs=>some (p.1,cs) with
        | some ps=>match Xko (λi=>some (i*size τ,size τ)) (XkQ τ n) ps with
          | some cs=>match XcN (xs.flatMap (·.rows)) cs with
            | some (vs,ks)=>match X60 ks,XbX τ n vs with
              | true,some (l,[])=>some ([],{sv:=.val false [.own τ (X0J d 0)],nrow:=[(X0J d 0,.hot e τ l 0 none true)],krow:=ks})
              | _,_=>none
            | none=>match XbX τ n cs with
              | some (l,[])=>some ([],{sv:=.val false [.lst τ l (some (X0J d 0))],nrow:=[(X0J d 0,.cold e)]})
              | _=>none
          | none=>none
        | none=>none
       else none
     | none=>none
   | _,_=>none
 | .makeSlice t _ _,[x,y]=>match o.dst,look t tab,intOf? x,intOf? y with
   | some d,some ⟨.list τ,false,_,e,_⟩,some n,some m=>match look e tab with
     | some te=>if te.ty=τ/\0<size τ then
        some ([0<=n,n<=m,m<=9223372036854775807,(te.bytes:Int)*m<=140737488355328],{sv:=.val false [.own τ (X0J d 0)],nrow:=[(X0J d 0,.hot e τ (List.replicate n.toNat (dfl τ)) 0 none true)]})
       else none
     | none=>none
   | _,_,_,_=>none
 | .makeFunc (.func f) _ _,[]=>some ([],{sv:=.fn f [] []})
 | .makeFunc (.func f) first caught,xs=>
   let cap (x:In):Option Cap:=match x.sv with
    | .box k off=>some (.box k off)
    | .ptr cs=>some (.ptr cs)
    | .pp k off=>some (.pp k off)
    | .pptr cs=>some (.pptr cs)
    | _=>none
   match (xs.take first.size).mapM cap,(xs.drop first.size).mapM cap with
   | some a,some b=>some ([],{sv:=.fn f a b})
   | _,_=>none
 | .load t _,[x]=>match look t tab with
   | some ti=>match x.sv with
     | .box _ off=>match x.box with
       | some cs=>if off+size ti.ty<=cs.length/\(ti.agg=true\/size ti.ty=1) then some ([],{sv:=.val ti.agg ((cs.drop off).take (size ti.ty))}) else none
       | none=>none
     | .ptr cs=>if size ti.ty<=cs.length/\(ti.agg=true\/size ti.ty=1) then some ([],{sv:=.val ti.agg (cs.take (size ti.ty))}) else none
     | .bptr cs r ver=>match look r x.rows with
       | some (.hot _ _ _ ver' _ _)=>if ver'=ver/\size ti.ty<=cs.length/\(ti.agg=true\/size ti.ty=1) then some ([],{sv:=.val ti.agg (cs.take (size ti.ty))}) else none
       | _=>none
     | .hp τ r i off=>match look r x.rows with
       | some (.hot _ τ' l ver none _)=>if h:τ'=τ then if off+size ti.ty<=size τ/\(ti.agg=true\/size ti.ty=1) then
          some ([],{sv:=.val ti.agg (((XmX r ver (λj=>some (i,j)) 0 (flat τ ((X97 h l).getD i (dfl τ)))).drop off).take (size ti.ty))})
         else none else none
       | _=>none
     | _=>none
   | none=>match look t Γ.eqs,x.sv with
     | some .unit,.pp k off=>some ([],{sv:=.box k off})
     | some .unit,.pptr cs=>some ([],{sv:=.ptr cs})
     | _,_=>none
 | .store t _ _,[x,y]=>match look t tab,XaY tab t y.sv,o.dst with
   | some ti,some ds,none=>match x.sv,x.box with
     | .box k off,some cs=>
       if ds.length=size ti.ty/\off+ds.length<=cs.length then some ([],{sv:=.und,sbox:=some (k,cs.take off++(ds++cs.drop (off+ds.length)))}) else none
     | .hp τ r i off,_=>Xod tab ti τ r i off x ds (x.rows++y.rows)
     | _,_=>none
   | _,_,_=>none
 | .nilCheck _,[x]=>match x.sv with
   | .box k off=>some ([],{sv:=.box k off})
   | .ptr cs=>some ([],{sv:=.ptr cs})
   | .hp t r i off=>match look r x.rows with
     | some (.hot ..)=>some ([],{sv:=.hp t r i off})
     | _=>none
   | .bptr cs r ver=>match look r x.rows with
     | some (.hot _ _ _ ver' _ _)=>if ver'=ver then some ([],{sv:=.bptr cs r ver}) else none
     | _=>none
   | _=>none
 | .binOp op t _ _ _,[x,y]=>match x.sv,y.sv with
   | .val false [a],.val false [b]=>match (match a with
      | .bool _=>(match look t tab with
        | some ⟨.bool,false,_,_,_⟩=>true
        | _=>false)
      | _=>true),Xot op a b with
     | true,some (ps,c)=>some (ps,{sv:=.val false [c]})
     | _,_=>none
   | .val true cs,.val true ds=>match look t Γ.eqs,op with
     | some τ,.eql=>match XqB τ cs ds with
       | some b=>some ([],{sv:=.val false [.bool b]})
       | none=>none
     | some τ,.neq=>match XqB τ cs ds with
       | some b=>some ([],{sv:=.val false [.bool (!b)]})
       | none=>none
     | _,_=>none
   | _,_=>none
 | .unOp op _ _,[x]=>match x.sv with
   | .val false [a]=>match unV op a with
     | some c=>some ([],{sv:=.val false [c]})
     | none=>none
   | _=>none
 | .convert s t _,[x]=>match look t tab,x.sv with
   | some ⟨.int k,false,_,_,_⟩,.val false [.int _ n]=>if (look s tab).isSome then some ([],{sv:=.val false [.int k (k.wrap n)]}) else none
   | some ⟨.str,false,_,_,_⟩,_=>match look s tab with
     | some ⟨.list (.int .u8),false,_,e,_⟩=>match look e tab,listOf? x with
       | some ⟨.int .u8,false,_,_,_⟩,some ⟨τ,l⟩=>if h:τ=.int .u8 then some ([],{sv:=.val false [.str ((show List Int from X97 h l).map λn=>UInt8.ofNat n.toNat)]}) else none
       | _,_=>none
     | _=>none
   | _,_=>none
 | .slice t _ lo hi none,x::ys=>XlJ tab Γ o t lo hi x ys
 | .slice t _ none (some _) (some _),[x,y,z]=>match look t tab,listOf? x,y.sv,z.sv with
   | some ⟨.list τ,false,_,e,_⟩,some ⟨τ',l⟩,.val false [.int k 0],.val false [.int k' 0]=>match look e tab with
     | some te=>some ([],{sv:=.val false [.emp τ]})
     | none=>none
   | _,_,_,_=>none
 | .fieldAddr t _ f,[x]=>match look t tab with
   | some ti=>if ti.agg then match ti.fields[f]? with
     | some (off,tf)=>match look tf tab with
       | some ⟨τf,_,_,_,_⟩=>if 0<size τf then match x.sv with
         | .box k o=>some ([],{sv:=.box k (o+off)})
         | .ptr cs=>if off<=cs.length then some ([],{sv:=.ptr (cs.drop off)}) else none
         | .hp t r i o=>match look r x.rows with
           | some (.hot ..)=>some ([],{sv:=.hp t r i (o+off)})
           | _=>none
         | .bptr cs r ver=>match look r x.rows with
           | some (.hot _ _ _ ver' _ _)=>if ver'=ver/\off<=cs.length then some ([],{sv:=.bptr (cs.drop off) r ver}) else none
           | _=>none
         | _=>none
         else none
       | none=>none
     | none=>none
     else none
   | none=>none
 | .field t _ f,[x]=>match look t tab with
   | some ti=>if ti.agg then match ti.fields[f]? with
     | some (off,tf)=>match look tf tab with
       | some tif=>match x.sv with
         | .val true cs=>if off+size tif.ty<=cs.length/\(tif.agg=true\/size tif.ty=1) then some ([],{sv:=.val tif.agg ((cs.drop off).take (size tif.ty))}) else none
         | _=>none
       | none=>none
     | none=>none
     else none
   | none=>none
 | .indexAddr t _ _,[x,y]=>match look t tab,x.sv,intOf? y with
   | some ⟨.list _,false,_,e,_⟩,.val false [c],some i=>match look e tab with
     | some te=>match c with
       | .lst τ l _=>if size te.ty=size τ then some ([0<=i,i<l.length],{sv:=.ptr (flat τ (l.getD i.toNat (dfl τ)))}) else none
       | .own τ r=>match look r x.rows with
         | some (.hot _ τ' l ver hole _)=>if h:τ'=τ then if size te.ty=size τ then some ([0<=i,i<(X97 h l).length],{sv:=.hp τ r i.toNat 0}) else none else none
         | _=>none
       | .sub τ r lo hi=>match look r x.rows with
         | some (.hot _ τ' l ver none _)=>if h:τ'=τ then if size te.ty=size τ then some ([0<=i,i<(((X97 h l).take hi).drop lo).length],{sv:=.hp τ r (lo+i.toNat) 0}) else none else none
         | _=>none
       | .bor τ l r ver _=>match look r x.rows with
         | some (.hot _ _ _ ver' _ _)=>if ver'=ver then if size te.ty=size τ then some ([0<=i,i<l.length],{sv:=.bptr (XmX r ver (λ_=>none) 0 (flat τ (l.getD i.toNat (dfl τ)))) r ver}) else none else none
         | _=>none
       | .emp τ=>some ([False],{sv:=.und})
       | _=>none
     | none=>none
   | _,_,_=>none
 | .index t _ _,[x,y]=>match look t tab,x.sv,y.sv with
   | some ⟨.str,false,_,_,_⟩,.val false [.str s],.val false [.int _ i]=>some ([0<=i,i<s.length],{sv:=.val false [.int .u8 (s.getD i.toNat 0).toNat]})
   | _,_,_=>none
 | .extract _ i,[x]=>match x.sv with
   | .tup l=>match l[i]? with
     | some (ag,cs)=>some ([],{sv:=.val ag cs})
     | none=>none
   | _=>none
 | .call c,xs=>XnI tab Γ o c xs
 | _,_=>none
def X68(rows:List (Nat×X0L)):List Nat->List Nat
 | []=>[]
 | k::l=>match look k rows with
   | some (.hot _ _ _ _ none _)=>if X51 k (X68 rows l) then k::X68 rows l else X68 rows l
   | _=>X68 rows l
def X7i(rows:List (Nat×X0L)):List Nat->List (Nat×X0L)
 | []=>[]
 | k::l=>match look k rows with
   | some (.hot e t x ver none z)=>(k,.frz e t x ver z)::X7i rows l
   | _=>X7i rows l
def XyN(x:In):Option Nat:=match x.sv with
 | .box k _=>some k
 | _=>none
def X8I(tab:Tab)(Γ:Gam)(o:Oper)(ins:List In):List Nat:=
 let rows:=ins.flatMap (·.rows)
 match X55 Γ o ins with
 | some (con,ts,xs)=>match con.leans with
   | true=>match con.io with
     | true=>match xs,ts with
       | x0::xs',_::ts'=>match x0.box,X2a tab (XyN x0) con.shA ts' xs' with
         | some bc,some p=>X68 rows (X21 (Xai con.ownI 0 bc)++X21 (Xai (con.ownA++con.backA) 0 p.1))
         | _,_=>[]
       | _,_=>[]
     | false=>match X2a tab none con.shA ts xs with
       | some p=>X68 rows (X21 (Xai (con.ownA++con.backA) 0 p.1))
       | none=>[]
   | false=>match con.io with
     | true=>match xs with
       | x0::_=>match x0.box with
         | some bc=>X68 rows (X21 (Xai con.ownI 0 bc))
         | none=>[]
       | []=>[]
     | false=>[]
 | none=>match o.op,ins with
   | .call c,[x,y]=>match c.callee,c.argTypes.toList with
     | .builtin .append,[t,_]=>match look t tab,x.sv,y.sv with
       | some ⟨.list τ,_,_,_,_⟩,.val false [xc],.val false [yc]=>match Xdc τ with
         | true=>match xc with
           | .lst _ _ (some (r+1))=>X68 rows (X21 [yc])
           | _=>[]
         | false=>match xc,yc with
           | .own _ r,.lst _ _ (some 0)=>[]
           | .own _ r,.lst ..=>X68 rows [r]
           | .own _ r,.sub _ r' _ _=>X68 rows [r,r']
           | .own _ r,.bor _ _ r' _ _=>X68 rows [r,r']
           | .lst _ _ (some (r+1)),yc=>X68 rows (X21 [yc])
           | .lst _ _ (some 0),.sub _ r' _ _=>X68 rows [r']
           | .lst _ _ (some 0),.bor _ _ r' _ _=>X68 rows [r']
           | .emp _,_=>[]
           | _,_=>[]
       | _,_,_=>[]
     | _,_=>[]
   | .buildSlice t n parts,xs=>match look t tab with
     | some ⟨.list τ,false,_,e,_⟩=>match (parts.toList.map (·.1)).zip xs |>.mapM λp=>(XaY tab e p.2.sv).bind λcs=>some (p.1,cs) with
       | some ps=>match XcN rows (ps.flatMap (·.2)) with
         | some _=>[]
         | none=>X68 rows (X21 (ps.flatMap (·.2)))
       | none=>[]
     | _=>[]
   | _,_=>[]
def X6e(fz:List (Nat×X0L))(st:St):St:={st with rows:=fz++st.rows}
def XxA:List Prop->Prop->Prop
 | [],X=>X
 | p::r,X=>p/\XxA r X
def X0A(upd:List (Nat×X0L))(ks:List Nat)(rows:List (Nat×X0L)):List (Nat×X0L):=(upd++rows).filter λp=>X51 p.1 ks
def Eff.rowsOf(e:Eff)(rows:List (Nat×X0L)):List (Nat×X0L):=match e.nrow,e.urow,e.krow with
 | [],[],[]=>rows
 | n,u,k=>n++X0A u k rows
def Eff.apply(e:Eff)(dst:Option Nat)(st:St):St:=
 {st with
  slots:=match dst with | some d=>(d,e.sv)::st.slots | none=>st.slots
  boxes:=match e.sbox with
   | some p=>p::(match dst,e.nbox with | some d,some cs=>(d+1,cs)::st.boxes | _,_=>st.boxes)
   | none=>match dst,e.nbox with | some d,some cs=>(d+1,cs)::st.boxes | _,_=>st.boxes
  rows:=e.rowsOf st.rows
  olds:=match dst with | some d=>st.olds.filter (λj=>!(j==d)) | none=>st.olds}
def X00(b:Bool)(X Y:Prop):Prop:=match b with
 | true=>X
 | false=>Y
theorem XuA{b:Bool}{X Y:Prop}(h1:b=true->X)(h2:b=false->Y):X00 b X Y:=by
 cases b
 . exact h2 rfl
 . exact h1 rfl
theorem Xgy{b:Bool}{X Y:Prop}(h:X00 b X Y):(b=true->X)/\(b=false->Y):=by
 cases b
 . exact⟨λe=>absurd e (by decide),λ_=>h⟩
 . exact⟨λ_=>h,λe=>absurd e (by decide)⟩
def XmW(r:Nat)(cs:List X02):Bool:=X51 r (XcV cs)
def Xqh(r:Nat)(sv:Sv):Bool:=X51 r (X8N sv)
def Xae(r:Nat):List (Nat×Sv)->Bool
 | []=>true
 | p::l=>Xqh r p.2&&Xae r l
def X6z(r:Nat):List (Nat×List X02)->Bool
 | []=>true
 | p::l=>XmW r p.2&&X6z r l
def noTag(r:Nat)(st:St):Bool:=Xae r st.slots&&X6z r st.boxes&&!(look r st.rows).isSome
def XsN(k:Nat)(sv:Sv):Bool:=X51 k (X4I sv)
def Xaf(k:Nat):List (Nat×Sv)->Bool
 | []=>true
 | p::l=>XsN k p.2&&Xaf k l
def noBox(k:Nat)(st:St):Bool:=Xaf k st.slots
def noTags(st:St):List (Nat×X0L)->Bool
 | []=>true
 | p::l=>noTag p.1 st&&noTags st l
def Xa3(r ver:Nat):List X02->Bool
 | []=>true
 | .bor _ _ r' ver' _::l=>!(r'==r&&ver'==ver)&&Xa3 r ver l
 | _::l=>Xa3 r ver l
def XpI(r ver:Nat):List (Bool×List X02)->Bool
 | []=>true
 | p::l=>Xa3 r ver p.2&&XpI r ver l
def XaT(r ver:Nat):List Cap->Bool
 | []=>true
 | .ptr cs::l=>Xa3 r ver cs&&XaT r ver l
 | .pptr cs::l=>Xa3 r ver cs&&XaT r ver l
 | _::l=>XaT r ver l
def XhW(r ver:Nat):Sv->Bool
 | .val _ cs=>Xa3 r ver cs
 | .ptr cs=>Xa3 r ver cs
 | .pptr cs=>Xa3 r ver cs
 | .tup l=>XpI r ver l
 | .fn _ a b=>XaT r ver a&&XaT r ver b
 | .bptr cs r' ver'=>!(r'==r&&ver'==ver)&&Xa3 r ver cs
 | _=>true
def X8Y(r ver:Nat):List (Nat×Sv)->Bool
 | []=>true
 | p::l=>XhW r ver p.2&&X8Y r ver l
def X90(r ver:Nat):List (Nat×List X02)->Bool
 | []=>true
 | p::l=>Xa3 r ver p.2&&X90 r ver l
def noVers(st:St):List (Nat×X0L)->Bool
 | []=>true
 | (r,.hot _ _ _ ver _ _)::l=>X8Y r ver st.slots&&X90 r ver st.boxes&&noVers st l
 | _::l=>noVers st l
def X3y(e:Eff)(dst:Option Nat)(st:St):Bool:=
 (match e.nbox,dst with | some _,some d=>noBox (d+1) st | _,_=>true)&&noTags st e.nrow&&noVers st e.urow&&X60 (e.nrow.map (·.1))
def Xgf(tab:Tab)(con:Con)(o:Oper)(ts:List TypeId)(xs:List In)(st:St)(K:Eff->Prop):Prop:=
 match o.dst,Xix tab con ts xs,con.newR&&con.io with
 | some d,some x,false=>con.pre x.i x.a/\∀y,con.Post x.i x.a y->match X8r x.rows x.cs con.backA (flat con.B y.2.2) with
   | some br=>match X3y (X3z con d x y br) (some d) st with
     | true=>K (X3z con d x y br)
     | false=>False
   | none=>False
 | _,_,_=>False
def Eff.frz(fz:List (Nat×X0L))(e:Eff):Eff:={e with urow:=e.urow++fz}
def Xic(fz:List (Nat×X0L))(o:Oper)(st:St)(ins0:List In):List In:=match fz with
 | []=>ins0
 | _=>o.op.operands.toList.map (X3x (X6e fz st))
def XkV(tab:Tab)(o:Oper)(ins:List In):Option (Bool×Prop):=match o.op,ins with
 | .binOp op t _ _ _,[x,y]=>match look t tab,listOf? x,y.sv with
   | some ⟨.list _,false,_,_,_⟩,some ⟨τ,l⟩,.nil=>match op with
     | .eql=>some (false,l=[])
     | .neq=>some (true,l=[])
     | _=>none
   | _,_,_=>none
 | _,_=>none
def XmV(tab:Tab)(Γ:Gam)(o:Oper)(st:St)(K:Eff->Prop):Prop:=
 match (match o.dst with | some d=>decide (d<st.nt) | none=>true) with
 | true=>
   let ins0:=o.op.operands.toList.map (X3x st)
   let fz:=X7i (ins0.flatMap (·.rows)) (X8I tab Γ o ins0)
   let ins:=Xic fz o st ins0
   match X60 (fz.map (·.1)) with
   | true=>
     match X55 Γ o ins with
     | some (con,ts,xs)=>Xgf tab con o ts xs st λe=>K (e.frz fz)
     | none=>match XkV tab o ins with
       | some (neg,em)=>∀b:Bool,(b=true->em)->K (({sv:=.val false [.bool (cond neg (!b) b)]}:Eff).frz fz)
       | none=>match XfA tab Γ o ins with
         | some (ps,e)=>match X3y e o.dst st with
           | true=>XxA ps (K (e.frz fz))
           | false=>False
         | none=>False
   | false=>False
 | false=>False
def Xy3(tab:Tab)(Γ:Gam)(o:Oper)(st:St)(K:St->Prop):Prop:=XmV tab Γ o st λe=>K (e.apply o.dst st)
def X6i(all:List Oper)(j:Nat):Option Nat:=match all[j]? with
 | some o=>o.dst
 | none=>none
def X7S(o:Oper)(st:St):St:=match o.dst with
 | some d=>st.put d (.tup [])
 | none=>st
def Xk3(tab:Tab)(Γ:Gam)(all:List Oper):List Oper->St->(St->Prop)->Prop
 | [],st,K=>K st
 | o::rest,st,K=>match o.guard with
   | none=>Xy3 tab Γ o st λst'=>Xk3 tab Γ all rest st' K
   | some (j,Xep)=>match X6i all j with
     | some dj=>match st.get dj with
       | .val false [.bool b]=>X00 b
          (cond Xep (Xy3 tab Γ o (st.lit dj true) λst'=>Xk3 tab Γ all rest st' K) (Xk3 tab Γ all rest (X7S o (st.lit dj true)) K))
          (cond Xep (Xk3 tab Γ all rest (X7S o (st.lit dj false)) K) (Xy3 tab Γ o (st.lit dj false) λst'=>Xk3 tab Γ all rest st' K))
       | .tup []=>Xk3 tab Γ all rest (X7S o st) K
       | _=>False
     | none=>False
def zeros:Ty->List Value
 | .int k=>[.int k 0]
 | .bool=>[.bool false]
 | .str=>[.string ⟨#[]⟩]
 | .list _=>[.slice none 0 0]
 | .unit=>[]
 | .pair a b=>zeros a++zeros b
structure TIok (P:Program) (tab:Tab) (t:TypeId) (ti:TI):Prop where
 info:∃i z,P.info? t=some i/\i.size=size ti.ty/\i.bytes=ti.bytes/\i.zero=some z/\z.cells.toList=zeros ti.ty
 und:if ti.agg then ∃fs,P.underlying t=some (.struct fs)/\fs.toList.map (λf=>(f.offset,f.type))=ti.fields/\(∀p∈ti.fields,(look p.2 tab).isSome=true)
  else match ti.ty with
   | .int k=>P.underlying t=some (.int k)
   | .bool=>P.underlying t=some .bool
   | .str=>P.underlying t=some .string
   | .list _=>P.underlying t=some (.slice ti.elem)
   | _=>False
def X1E(P:Program)(tab:Tab):Prop:=∀t ti,look t tab=some ti->TIok P tab t ti
structure Sg where
 box:Nat->Nat
 row:Nat->Value
 foot:Nat->List Nat
 mem:Nat->Mem
def Xkt(τ:Ty)(v:Value)(lo hi:Nat)(u:Value):Prop:=
 ∃ad n cap ad',v=.slice ad n cap/\lo<=hi/\hi<=n/\u=.slice ad' (hi - lo) (cap - lo)/\(lo<cap->ad'=ad.map (·.add (lo*size τ)))
def atOf(τ:Ty)(v:Value)(i off:Nat)(a:Addr):Prop:=∃ad n cap,v=.slice (some ad) n cap/\i<n/\a=ad.add (i*size τ+off)
def X0L.ver? :X0L->Option Nat
 | .hot _ _ _ ver _ _=>some ver
 | .frz _ _ _ ver _=>some ver
 | _=>none
def XtJ(σ:Sg)(t:Ty)(l0:List (El t))(r:Nat)(rv:X0L)(i off:Nat)(v:Value):Prop:=match rv with
 | .hot _ τ l _ _ _=>(flat τ (l.getD i (dfl τ)))[off]?=some (.lst t l0 none)/\∃a,atOf τ (σ.row r) i off a/\σ.mem r a=some v
 | _=>True
def Xc8(σ:Sg)(rows:List (Nat×X0L))(v:Value):X02->Prop
 | .lst _ _ (some r)=>if r=0 then v=.slice none 0 0 else(look r rows).isSome=true->v=σ.row r
 | .own _ r=>(look r rows).isSome=true->v=σ.row r
 | .sub t r lo hi=>(look r rows).isSome=true->Xkt t (σ.row r) lo hi v
 | .bor t l r ver p=>∀rv,look r rows=some rv->rv.ver?=some ver->RdC (σ.mem r) (.list t) [v] l/\∀i off,p=some (i,off)->XtJ σ t l r rv i off v
 | .emp _=>∃ad,v=.slice ad 0 0
 | _=>True
def RdT(σ:Sg)(rows:List (Nat×X0L))(M:Mem)(v:Value)(c:X02):Prop:=RdV M v c/\Xc8 σ rows v c
def Xb2:Value->Bool
 | .agg _=>true
 | _=>false
def X0Y(σ:Sg)(rows:List (Nat×X0L))(M:Mem)(v:Value)(p:Bool×List X02):Prop:=
 X27 (RdT σ rows M) v.cells.toList p.2/\Xb2 v=p.1
def Xdk(σ:Sg)(rows:List (Nat×X0L))(M:Mem)(v:Value)(cs:List X02):Prop:=
 ∃a,v=.pointer (some a)/\∀i c,cs[i]?=some c->∃u,M (a.add i)=some u/\RdT σ rows M u c
def Xn3(σ:Sg)(boxes:List (Nat×List X02))(M:Mem)(v:Value)(k off:Nat):Prop:=
 ∃a,v=.pointer (some a)/\M a=some (.pointer (some ((⟨σ.box k,0,none⟩:Addr).add off)))/\(look k boxes).isSome=true
def XeL(σ:Sg)(rows:List (Nat×X0L))(M:Mem)(v:Value)(cs:List X02):Prop:=
 ∃a u,v=.pointer (some a)/\M a=some u/\Xdk σ rows M u cs
def Xdq(σ:Sg)(rows:List (Nat×X0L))(boxes:List (Nat×List X02))(M:Mem)(v:Value):Cap->Prop
 | .box k off=>v=.pointer (some ((⟨σ.box k,0,none⟩:Addr).add off))/\(look k boxes).isSome=true
 | .ptr cs=>Xdk σ rows M v cs
 | .pp k off=>Xn3 σ boxes M v k off
 | .pptr cs=>XeL σ rows M v cs
def RepB(σ:Sg)(rows:List (Nat×X0L))(M:Mem)(v:Value)(cs:List X02)(r:Nat):Prop:=
 ∃a,v=.pointer (some a)/\∀i c,cs[i]?=some c->∃u,σ.mem r (a.add i)=some u/\RdT σ rows M u c
def X44(σ:Sg)(rows:List (Nat×X0L))(boxes:List (Nat×List X02))(M:Mem)(v:Value):Sv->Prop
 | .und=>True
 | .nil=>v=.slice none 0 0
 | .val ag cs=>X0Y σ rows M v (ag,cs)
 | .box k off=>v=.pointer (some ((⟨σ.box k,0,none⟩:Addr).add off))/\(look k boxes).isSome=true
 | .ptr cs=>Xdk σ rows M v cs
 | .tup l=>∃vs,v=.tuple vs/\X27 (X0Y σ rows M) vs.toList l
 | .fn f a b=>∃va vb,v=.func (.func f) va vb/\X27 (Xdq σ rows boxes M) va.toList a/\X27 (Xdq σ rows boxes M) vb.toList b
 | .hp t r i off=>(look r rows).isSome=true->∃a,atOf t (σ.row r) i off a/\v=.pointer (some a)
 | .bptr cs r ver=>∀rv,look r rows=some rv->rv.ver?=some ver->RepB σ rows M v cs r
 | .pp k off=>Xn3 σ boxes M v k off
 | .pptr cs=>XeL σ rows M v cs
structure Fr (ios:List Nat) (w0 w:World):Prop where
 os:w.os=w0.os
 tape:w.tape=w0.tape
 output:w.output=w0.output
 size:w0.heap.size<=w.heap.size
 block:∀k,k<w0.heap.size->k∉ios->w.heap[k]?=w0.heap[k]?
theorem Fr.refl(ios:List Nat)(w:World):Fr ios w w:=⟨rfl,rfl,rfl,YaC _,λ_ _ _=>rfl⟩
theorem Fr.trans{ios:List Nat}{a b c:World}(h:Fr ios a b)(k:Fr ios b c):Fr ios a c:=
 ⟨k.os.trans h.os,k.tape.trans h.tape,k.output.trans h.output,YaW h.size k.size,
   λi hi hn=>(k.block i (Ybe hi h.size) hn).trans (h.block i hi hn)⟩
theorem Fr.of_grown{ios:List Nat}{w0 w w':World}{row:Option Nat}(h:Fr ios w0 w)(hg:w.grownBy w' row)(hr:∀k,row=some k->w0.heap.size<=k\/k∈ios):Fr ios w0 w':=
 ⟨hg.os.trans h.os,hg.tape.trans h.tape,hg.output.trans h.output,YaW h.size hg.size,
   fun i hi hn=>(hg.block i (Ybe hi h.size) (λe=>by
    rcases hr i e.symm with h0 | h0
    . omega
    . exact hn h0)).trans (h.block i hi hn)⟩
def X74(w:World)(B:Nat->Prop)(size:Nat)(v:Value)(n:Nat)(xs:List Value):Prop:=
 xs.length=n*size/\((v=.slice none 0 0/\n=0)\/
  ∃g o cap cur E,v=.slice (some ⟨g,o,none⟩) n cap/\B g/\w.heap[g]?=some (.cells cur E (0,0))/\n<=cap/\cap<=maxLen/\o+cap*size<=cur.size/\(cur.toList.drop o).take (n*size)=xs)
def Xo7:Value->Nat
 | .slice (some a) _ _=>a.off
 | _=>0
structure XyG (P:Program) (B:Nat->Prop) (M:Mem) (w:World) (v:Value) (e:TypeId):Prop where
 own:∃n xs i,P.info? e=some i/\X74 w B i.size v n xs/\∀g,v.ownBlock=some g->∀ad,ad.block=g->Xo7 v+n*i.size<=ad.off->M ad=none
theorem X74.nil(w:World)(B:Nat->Prop)(size:Nat):X74 w B size (.slice none 0 0) 0 []:=⟨by simp,.inl ⟨rfl,rfl⟩⟩
theorem X74.of{w:World}{base:Nat}{B:Nat->Prop}{e:TypeId}{size:Nat}{v:Value}{n:Nat}{xs:List Value}(h:w.ownsRow base e size v n xs)(hB:∀g,base<=g->B g):X74 w B size v n xs:=by
 refine⟨h.1,?_⟩;rcases h.2 with h0 | ⟨g,cap,cur,h1,h2,h3,h4,h5,h6,h7⟩
 . exact .inl h0
 . exact .inr ⟨g,0,cap,cur,e,h1,hB g h2,h3,h4,h5,by omega,by rw[YbK];exact h7⟩
theorem X74.lt{w:World}{B:Nat->Prop}{size:Nat}{v:Value}{n:Nat}{xs:List Value}(h:X74 w B size v n xs):∀k,v.ownBlock=some k->B k/\k<w.heap.size:=by
 intro k hk;rcases h.2 with⟨rfl,_⟩ | ⟨g,o,cap,cur,E,rfl,hb,hg,_⟩
 . cases hk
 . have:g=k:=Ybv hk;subst this;exact⟨hb,(YaO.1 hg).1⟩
theorem X74.at{w w':World}{B:Nat->Prop}{s:Nat}{v:Value}{n:Nat}{xs:List Value}(ho:X74 w B s v n xs)(h:∀g,v.ownBlock=some g->w'.heap[g]?=w.heap[g]?):X74 w' B s v n xs:=by
 refine⟨ho.1,?_⟩;rcases ho.2 with h0 | ⟨g,o,cap,cur,E,rfl,h1,h2,h3⟩
 . exact .inl h0
 . exact .inr ⟨g,o,cap,cur,E,rfl,h1,by rw[h g rfl];exact h2,h3⟩
theorem X74.kept{w w':World}{B:Nat->Prop}{s:Nat}{v:Value}{n:Nat}{xs:List Value}{row:Option Nat}(h:X74 w B s v n xs)(hg:w.grownBy w' row)(hne:v.ownBlock=none\/v.ownBlock≠row):X74 w' B s v n xs:=
 h.at λg hgv=>hg.block g (h.lt g hgv).2 (by
  rcases hne with h0 | h0
  . rw[h0]at hgv;cases hgv
  . rw[hgv]at h0;exact h0)
theorem X74.alloc{w:World}{B:Nat->Prop}{s:Nat}{v:Value}{n:Nat}{xs:List Value}(h:X74 w B s v n xs)(o:Obj):X74 (w.alloc o) B s v n xs:=
 h.kept (World.grownBy_alloc w o none) (by cases hv:v.ownBlock<;>simp)
theorem X74.cells{w:World}{B:Nat->Prop}{s:Nat}{v:Value}{n:Nat}{xs:List Value}(h:X74 w B s v n xs){g:Nat}(hg:v.ownBlock=some g):∀j u,xs[j]?=some u->w.cell? ((⟨g,Xo7 v,none⟩:Addr).add j)=some u:=by
 intro j u hu;rcases h.2 with⟨rfl,_⟩ | ⟨g',o,cap,cur,E,rfl,_,hgg,_,_,_,htake⟩
 . cases hg
 . have:g'=g:=Ybv hg;subst this;have hadd:(⟨g',o,none⟩:Addr).add j=⟨g',o+j,none⟩:=by unfold Addr.add;split<;>simp_all
   show w.cell? ((⟨g',o,none⟩:Addr).add j)=some u;rw[hadd,cell_of_row w g' (o+j) cur E (0,0) hgg];rw[<-htake,YaE]at hu;split at hu
   . rw[Ybz]at hu;simpa using hu
   . cases hu
def XxZ(w:World)(t:Ty)(v:Value)(l:List (El t))(hole:Option (Nat×Nat))(bs:List Nat):Prop:=match hole with
 | none=>X4Q w t v l bs
 | some (i,off)=>∃g o cap arr e,v=.slice (some ⟨g,o,none⟩) (List.length l) cap/\w.heap[g]?=some (.cells arr e (0,0))/\i<List.length l/\off<size t/\o+i*size t+off<arr.size/\(∃t',(flat t (l.getD i (dfl t)))[off]?=some (.lst t' [] none))/\
    X4Q (w.setRow g (arr.setIfInBounds (o+i*size t+off) (.slice none 0 0))) t v l bs
def Xql(t:Ty)(v:Value)(ad:Addr):Prop:=∀a n cap,v=.slice (some a) n cap->ad.block=a.block->ad.off<a.off+n*size t
structure Xd3 (P:Program) (base:World) (σ:Sg) (w:World) (r:Nat) (e:TypeId) (t:Ty) (l:List (El t)) (hole:Option (Nat×Nat)) (z:Bool):Prop where
 info:∃i,P.info? e=some i/\i.size=size t
 pos:0<size t
 own:XxZ w t (σ.row r) l hole (σ.foot r)
 nodup:(σ.foot r).Nodup
 mem:∀ad u,σ.mem r ad=some u->w.cell? ad=some u/\ad.block∈σ.foot r/\Xql t (σ.row r) ad
 full:hole=none->∀ad u,ad.block∈σ.foot r->Xql t (σ.row r) ad->w.cell? ad=some u->σ.mem r ad=some u
 z:z=true->(∃n xs,w.ownsRow base.heap.size e (size t) (σ.row r) n xs)/\∀g,(σ.row r).ownBlock=some g->g∈σ.foot r
structure Ios where
 blk:List Nat
 box:Option Nat:=none
 rows:List (Nat×Value):=[]
 even:∀p∈rows,p.1 % 2=0
def XvJ(M0:Mem)(v:Value):Sv->Prop
 | .val _ cs=>X27 (RdV M0) v.cells.toList cs
 | _=>False
abbrev Xrd(base:World)(ios:Ios):Nat->Prop:=λg=>base.heap.size<=g\/g∈ios.blk
def X1G(r:Nat)(rows:List (Nat×X0L)):Prop:=∃e t l ver hole z,look r rows=some (.hot e t l ver hole z)
structure XwP (P:Program) (base:World) (ios:Ios) (σ:Sg) (M:Mem) (w:World) (st:St):Prop where
 ok:∀r e t l ver hole z,look r st.rows=some (.hot e t l ver hole z)->Xd3 P base σ w r e t l hole z
 base:∀r,X1G r st.rows->∀g∈σ.foot r,base.heap.size<=g\/g∈ios.blk
 noM:∀r,X1G r st.rows->∀g∈σ.foot r,∀ad,ad.block=g->M ad=none
 noBox:∀r,X1G r st.rows->∀k,(st.box k).isSome=true->σ.box k∉σ.foot r
 noRow:∀r,X1G r st.rows->∀r',(st.row r').isSome=true->∀g,(σ.row r').ownBlock=some g->g∉σ.foot r
 apart:∀r r',X1G r st.rows->X1G r' st.rows->r≠r'->∀g∈σ.foot r,g∉σ.foot r'
 lt:∀r,X1G r st.rows->∀g∈σ.foot r,g<w.heap.size
 frz:∀r e t l ver z,look r st.rows=some (.frz e t l ver z)->RdC M (.list t) [σ.row r] l/\(σ.mem r).le M
structure Sim (P:Program) (base:World) (M0:Mem) (ios:Ios) (σ:Sg) (M:Mem) (w:World) (a:Act) (st:St):Prop where
 mem:∀ad v,M ad=some v->w.cell? ad=some v
 nt:a.tmps.size=st.nt
 slots:∀i,X44 σ st.rows st.boxes M (a.tmps.getD i undef) (st.get i)
 boxes:∀k cs,st.box k=some cs->∃arr E,w.heap[σ.box k]?=some (.cells arr E (0,0))/\X27 (RdT σ st.rows M) arr.toList cs
 boxM:∀k,(st.box k).isSome=true->∀ad,ad.block=σ.box k->M ad=none
 boxInj:∀k k',(st.box k).isSome=true->(st.box k').isSome=true->σ.box k=σ.box k'->k=k'
 boxBase:∀k,(st.box k).isSome=true->base.heap.size<=σ.box k\/σ.box k∈ios.blk
 rows:∀r e,st.row r=some e->XyG P (Xrd base ios) M w (σ.row r) e
 rowBox:∀r k,(st.row r).isSome=true->(st.box k).isSome=true->(σ.row r).ownBlock≠some (σ.box k)
 rowInj:∀r r',(st.row r).isSome=true->(st.row r').isSome=true->r≠r'->(σ.row r).ownBlock=none\/(σ.row r).ownBlock≠(σ.row r').ownBlock
 hot:XwP P base ios σ M w st
 fr:Fr ios.blk base w
 defers:a.defers=[]
 old:∀ad,ad.block<base.heap.size->ad.block∉ios.blk->M0 ad=none->M ad=none
 le:M0.le M
 pin:∀b,ios.box=some b->σ.box 0=b
 pins:∀p∈ios.rows,(look p.1 st.rows).isSome=true->σ.row p.1=p.2
 olds:∀i,i∈st.olds->XvJ M0 (a.tmps.getD i undef) (st.get i)
structure Carry (σ:Sg) (rows:List (Nat×X0L)) (M:Mem) (σ':Sg) (rows':List (Nat×X0L)) (M':Mem) (ok:Nat->Prop) (okv:Nat->Nat->Prop):Prop where
 mem:M.le M'
 row:∀r,ok r->(look r rows').isSome=true->(look r rows).isSome=true/\σ'.row r=σ.row r
 ver:∀r ver rv',ok r->okv r ver->look r rows'=some rv'->rv'.ver?=some ver->∃rv,look r rows=some rv/\rv.ver?=some ver/\(σ.mem r).le (σ'.mem r)/\(rv'=rv\/∃e t l v z,rv'=.frz e t l v z)
def okC(ok:Nat->Prop)(okv:Nat->Nat->Prop)(c:X02):Prop:=(∀r,Xyc c=some r->ok r)/\∀t l r ver p,c=.bor t l r ver p->okv r ver
theorem XtJ.carry{σ σ':Sg}{t:Ty}{l0:List (El t)}{r i off:Nat}{rv rv':X0L}{v:Value}(h:XtJ σ t l0 r rv i off v)(hr:σ'.row r=σ.row r)(hm:(σ.mem r).le (σ'.mem r))(he:rv'=rv\/∃e t l v z,rv'=.frz e t l v z):XtJ σ' t l0 r rv' i off v:=by
 rcases he with rfl | ⟨_,_,_,_,_,rfl⟩
 . cases rv' with
   | hot e τ l ver hole z=>
     obtain⟨h1,a,h2,h3⟩:=h;exact⟨h1,a,by rw[hr];exact h2,hm _ _ h3⟩
   | _=>trivial
 . trivial
theorem Xc8.carry{σ σ':Sg}{rows rows':List (Nat×X0L)}{M M':Mem}{ok:Nat->Prop}{okv:Nat->Nat->Prop}(hc:Carry σ rows M σ' rows' M' ok okv){v:Value}{c:X02}(h:Xc8 σ rows v c)(hok:okC ok okv c):Xc8 σ' rows' v c:=by
 cases c with
 | lst t l tag=>
   cases tag with
   | none=>trivial
   | some r=>
     simp only[Xc8]at h ⊢;split at h
     . rename_i h0;rw[Yah h0];exact h
     . rename_i h0;rw[Yae h0];intro hs;obtain⟨h1,h2⟩:=hc.row r (hok.1 r rfl) hs;rw[h2];exact h h1
 | own t r=>
   intro hs;obtain⟨h1,h2⟩:=hc.row r (hok.1 r rfl) hs;rw[h2];exact h h1
 | sub t r lo hi=>
   intro hs;obtain⟨h1,h2⟩:=hc.row r (hok.1 r rfl) hs;rw[h2];exact h h1
 | bor t l r ver p=>
   intro rv' hl hv;obtain⟨rv,h1,h2,h3,h4⟩:=hc.ver r ver rv' (hok.1 r rfl) (hok.2 _ _ _ _ _ rfl) hl hv;obtain⟨h5,h6⟩:=h rv h1 h2;refine⟨h5.mono h3,λi off e=>(h6 i off e).carry (hc.row r (hok.1 r rfl) (by rw[hl];rfl)).2 h3 h4⟩
 | emp t=>exact h
 | _=>trivial
theorem X3O{α:Type}{k:Nat}{l:List (Nat×α)}{x:α}(h:look k l=some x):(k,x)∈l:=by
 induction l with
 | nil=>simp[look]at h
 | cons p r ih=>
   obtain⟨j,y⟩:=p;simp only[look]at h;split at h
   . rename_i e;subst e;cases h;simp
   . exact Yan _ (ih h)
theorem X27.imp_mem{α β:Type}{R S:α->β->Prop}{as:List α}{bs:List β}(h:X27 R as bs)(hi:∀a b,b∈bs->R a b->S a b):X27 S as bs:=by
 induction h with
 | nil=>exact .nil
 | cons x _ ih=>exact .cons (hi _ _ (by simp) x) (ih λa b hb=>hi a b (Yan _ hb))
theorem X59{k:Nat}{l:List Nat}:X51 k l=true↔k∉l:=by
 induction l with
 | nil=>simp[X51]
 | cons j l ih=>
   simp only[X51,Yac,ih,Yak,YcD,YaS,YbG,ne_eq];exact⟨λh=>⟨λe=>h.1 e.symm,h.2⟩,λh=>⟨λe=>h.1 e.symm,h.2⟩⟩
theorem XjM{cs:List X02}{c:X02}{r:Nat}(hm:c∈cs)(h:Xyc c=some r):r∈XcV cs:=by
 induction cs with
 | nil=>cases hm
 | cons d cs ih=>
   simp only[XcV];rcases Yak.1 hm with rfl | hm
   . rw[h];simp
   . split
     . exact Yan _ (ih hm)
     . exact ih hm
theorem Xtn{l:List (Bool×List X02)}{p:Bool×List X02}{r:Nat}(hm:p∈l)(h:r∈XcV p.2):r∈Xp2 l:=by
 induction l with
 | nil=>cases hm
 | cons q l ih=>
   simp only[Xp2,Yaf];rcases Yak.1 hm with rfl | hm
   . exact .inl h
   . exact .inr (ih hm)
theorem Xjf{l:List Cap}{cs:List X02}{r:Nat}(hm:Cap.ptr cs∈l\/Cap.pptr cs∈l)(h:r∈XcV cs):r∈Xaq l:=by
 induction l with
 | nil=>rcases hm with hm | hm<;>cases hm
 | cons q l ih=>
   have hm:(q=.ptr cs\/q=.pptr cs)\/(Cap.ptr cs∈l\/Cap.pptr cs∈l):=by
    rcases hm with hm | hm
    . rcases Yak.1 hm with e | hm
      . exact .inl (.inl e.symm)
      . exact .inr (.inl hm)
    . rcases Yak.1 hm with e | hm
      . exact .inl (.inr e.symm)
      . exact .inr (.inr hm)
   rcases hm with(e | e) | hm2
   . subst e;simp only[Xaq,Yaf];exact .inl h
   . subst e;simp only[Xaq,Yaf];exact .inl h
   . cases q with
     | ptr ds=>simp only[Xaq,Yaf];exact .inr (ih hm2)
     | pptr ds=>simp only[Xaq,Yaf];exact .inr (ih hm2)
     | box k off=>simp only[Xaq];exact ih hm2
     | pp k off=>simp only[Xaq];exact ih hm2
theorem RdT.carry{σ σ':Sg}{rows rows':List (Nat×X0L)}{M M':Mem}{ok:Nat->Prop}{okv:Nat->Nat->Prop}(hc:Carry σ rows M σ' rows' M' ok okv){v:Value}{c:X02}(h:RdT σ rows M v c)(hok:okC ok okv c):RdT σ' rows' M' v c:=⟨h.1.mono hc.mem,h.2.carry hc hok⟩
theorem Xcm{σ σ':Sg}{rows rows':List (Nat×X0L)}{M M':Mem}{ok:Nat->Prop}{okv:Nat->Nat->Prop}(hc:Carry σ rows M σ' rows' M' ok okv){vs:List Value}{cs:List X02}(h:X27 (RdT σ rows M) vs cs)(hok:∀c∈cs,okC ok okv c):X27 (RdT σ' rows' M') vs cs:=
 h.imp_mem λa b hb hab=>hab.carry hc (hok b hb)
def XqX(ok:Nat->Prop)(okv:Nat->Nat->Prop):Cap->Prop
 | .ptr cs=>∀c∈cs,okC ok okv c
 | .pptr cs=>∀c∈cs,okC ok okv c
 | _=>True
def okS(ok:Nat->Prop)(okv:Nat->Nat->Prop):Sv->Prop
 | .val _ cs=>∀c∈cs,okC ok okv c
 | .ptr cs=>∀c∈cs,okC ok okv c
 | .pptr cs=>∀c∈cs,okC ok okv c
 | .tup l=>∀p∈l,∀c∈p.2,okC ok okv c
 | .fn _ a b=>(∀c∈a,XqX ok okv c)/\∀c∈b,XqX ok okv c
 | .hp _ r _ _=>ok r
 | .bptr cs r ver=>ok r/\okv r ver/\∀c∈cs,okC ok okv c
 | _=>True
theorem Xdk.carry{σ σ':Sg}{rows rows':List (Nat×X0L)}{M M':Mem}{ok:Nat->Prop}{okv:Nat->Nat->Prop}(hc:Carry σ rows M σ' rows' M' ok okv){v:Value}{cs:List X02}(h:Xdk σ rows M v cs)(hok:∀c∈cs,okC ok okv c):Xdk σ' rows' M' v cs:=by
 obtain⟨a,ha,h⟩:=h;refine⟨a,ha,λi c hi=>?_⟩;obtain⟨u,hu,hr⟩:=h i c hi;exact⟨u,hc.mem _ _ hu,hr.carry hc (hok c (YbB hi))⟩
theorem Xn3.carry{σ σ':Sg}{boxes boxes':List (Nat×List X02)}{M M':Mem}{v:Value}{k off:Nat}(hm:M.le M')(h:Xn3 σ boxes M v k off)(h1:σ'.box k=σ.box k)(h2:(look k boxes).isSome=true->(look k boxes').isSome=true):Xn3 σ' boxes' M' v k off:=by
 obtain⟨a,e,h3,h4⟩:=h;exact⟨a,e,by rw[h1];exact hm _ _ h3,h2 h4⟩
theorem XeL.carry{σ σ':Sg}{rows rows':List (Nat×X0L)}{M M':Mem}{ok:Nat->Prop}{okv:Nat->Nat->Prop}(hc:Carry σ rows M σ' rows' M' ok okv){v:Value}{cs:List X02}(h:XeL σ rows M v cs)(hok:∀c∈cs,okC ok okv c):XeL σ' rows' M' v cs:=by
 obtain⟨a,u,e,h1,h2⟩:=h;exact⟨a,u,e,hc.mem _ _ h1,h2.carry hc hok⟩
theorem Xdq.carry{σ σ':Sg}{rows rows':List (Nat×X0L)}{boxes boxes':List (Nat×List X02)}{M M':Mem}{ok:Nat->Prop}{okv:Nat->Nat->Prop}(hc:Carry σ rows M σ' rows' M' ok okv){v:Value}{c:Cap}(h:Xdq σ rows boxes M v c)(hok:XqX ok okv c)(hb:∀k off,(c=.box k off\/c=.pp k off)->σ'.box k=σ.box k/\((look k boxes).isSome=true->(look k boxes').isSome=true)):Xdq σ' rows' boxes' M' v c:=by
 cases c with
 | box k off=>obtain⟨h1,h2⟩:=h;obtain⟨h3,h4⟩:=hb k off (.inl rfl);exact⟨by rw[h3];exact h1,h4 h2⟩
 | ptr cs=>exact Xdk.carry hc h hok
 | pp k off=>obtain⟨h3,h4⟩:=hb k off (.inr rfl);exact Xn3.carry hc.mem h h3 h4
 | pptr cs=>exact XeL.carry hc h hok
theorem X8Z{l:List Cap}{k off:Nat}(hm:Cap.box k off∈l\/Cap.pp k off∈l):k∈X8h l:=by
 induction l with
 | nil=>rcases hm with hm | hm<;>cases hm
 | cons q l ih=>
   have hm:(q=.box k off\/q=.pp k off)\/(Cap.box k off∈l\/Cap.pp k off∈l):=by
    rcases hm with hm | hm
    . rcases Yak.1 hm with e | hm
      . exact .inl (.inl e.symm)
      . exact .inr (.inl hm)
    . rcases Yak.1 hm with e | hm
      . exact .inl (.inr e.symm)
      . exact .inr (.inr hm)
   rcases hm with(e | e) | hm2
   . subst e;simp[X8h]
   . subst e;simp[X8h]
   . cases q with
     | ptr ds=>simp only[X8h];exact ih hm2
     | pptr ds=>simp only[X8h];exact ih hm2
     | box k' off=>simp only[X8h,Yak];exact .inr (ih hm2)
     | pp k' off=>simp only[X8h,Yak];exact .inr (ih hm2)
theorem X44.carry{σ σ':Sg}{rows rows':List (Nat×X0L)}{boxes boxes':List (Nat×List X02)}{M M':Mem}{ok:Nat->Prop}{okv:Nat->Nat->Prop}(hc:Carry σ rows M σ' rows' M' ok okv){v:Value}{sv:Sv}(h:X44 σ rows boxes M v sv)(hok:okS ok okv sv)(hb:∀k∈X4I sv,σ'.box k=σ.box k/\((look k boxes).isSome=true->(look k boxes').isSome=true)):
 X44 σ' rows' boxes' M' v sv:=by
 cases sv with
 | und=>trivial
 | nil=>exact h
 | val ag cs=>exact⟨Xcm hc h.1 hok,h.2⟩
 | box k off=>obtain⟨h1,h2⟩:=h;obtain⟨h3,h4⟩:=hb k (by simp[X4I]);exact⟨by rw[h3];exact h1,h4 h2⟩
 | ptr cs=>exact Xdk.carry hc h hok
 | tup l=>
   obtain⟨vs,hv,h⟩:=h;exact⟨vs,hv,h.imp_mem λa b hb hab=>⟨Xcm hc hab.1 (hok b hb),hab.2⟩⟩
 | fn f a b=>
   obtain⟨va,vb,hv,h1,h2⟩:=h;refine⟨va,vb,hv,h1.imp_mem λu c hcm hu=>hu.carry hc (hok.1 c hcm) λk off e=>hb k ?_,h2.imp_mem λu c hcm hu=>hu.carry hc (hok.2 c hcm) λk off e=>hb k ?_⟩
   . simp only[X4I,Yaf];exact .inl (X8Z (off:=off) (by rcases e with e | e<;>subst e;exact .inl hcm;exact .inr hcm))
   . simp only[X4I,Yaf];exact .inr (X8Z (off:=off) (by rcases e with e | e<;>subst e;exact .inl hcm;exact .inr hcm))
 | hp t r i off=>
   intro hs;obtain⟨h1,h2⟩:=hc.row r hok hs;rw[h2];exact h h1
 | bptr cs r ver=>
   intro rv' hl hv;obtain⟨rv,h1,h2,h3,h4⟩:=hc.ver r ver rv' hok.1 hok.2.1 hl hv;obtain⟨a,ha,h⟩:=h rv h1 h2;refine⟨a,ha,λi c hi=>?_⟩;obtain⟨u,hu,hr⟩:=h i c hi;exact⟨u,h3 _ _ hu,hr.carry hc (hok.2.2 c (YbB hi))⟩
 | pp k off=>obtain⟨h3,h4⟩:=hb k (by simp[X4I]);exact Xn3.carry hc.mem h h3 h4
 | pptr cs=>exact XeL.carry hc h hok
theorem Carry.same(σ:Sg)(rows:List (Nat×X0L)){M M':Mem}(h:M.le M'):Carry σ rows M σ rows M' (λ_=>True) (λ_ _=>True):=
 ⟨h,λr _ hs=>⟨hs,rfl⟩,λr ver rv' _ _ hl hv=>⟨rv',hl,hv,Mem.le_refl _,.inl rfl⟩⟩
theorem X65(c:X02):okC (λ_=>True) (λ_ _=>True) c:=⟨λ_ _=>trivial,λ_ _ _ _ _ _=>trivial⟩
theorem Xld(c:Cap):XqX (λ_=>True) (λ_ _=>True) c:=by
 cases c with
 | ptr cs=>exact λc _=>X65 c
 | pptr cs=>exact λc _=>X65 c
 | _=>trivial
theorem Xed(sv:Sv):okS (λ_=>True) (λ_ _=>True) sv:=by
 cases sv with
 | val ag cs=>exact λc _=>X65 c
 | ptr cs=>exact λc _=>X65 c
 | pptr cs=>exact λc _=>X65 c
 | tup l=>exact λp _ c _=>X65 c
 | fn f a b=>exact⟨λc _=>Xld c,λc _=>Xld c⟩
 | bptr cs r ver=>exact⟨trivial,trivial,λc _=>X65 c⟩
 | _=>trivial
theorem Xv1{ok:Nat->Prop}{sv:Sv}(h:∀r∈X8N sv,ok r):okS ok (λ_ _=>True) sv:=by
 have one:∀{cs:List X02} {c},c∈cs->(∀r∈XcV cs,ok r)->okC ok (λ_ _=>True) c:=λhc h=>⟨λr hr=>h r (XjM hc hr),λ_ _ _ _ _ _=>trivial⟩
 have cap:∀{l:List Cap} {c},c∈l->(∀r∈Xaq l,ok r)->XqX ok (λ_ _=>True) c:=λ{l c} hc h=>by
  cases c with
  | ptr cs=>exact λd hd=>one hd λr hr=>h r (Xjf (.inl hc) hr)
  | pptr cs=>exact λd hd=>one hd λr hr=>h r (Xjf (.inr hc) hr)
  | _=>trivial
 cases sv with
 | val ag cs=>exact λc hc=>one hc h
 | ptr cs=>exact λc hc=>one hc h
 | pptr cs=>exact λc hc=>one hc h
 | tup l=>exact λp hp c hc=>one hc λr hr=>h r (Xtn hp hr)
 | fn f a b=>exact⟨λc hc=>cap hc λr hr=>h r (by simp only[X8N,Yaf];exact .inl hr),λc hc=>cap hc λr hr=>h r (by simp only[X8N,Yaf];exact .inr hr)⟩
 | hp t r i off=>exact h r (by simp[X8N])
 | bptr cs r ver=>exact⟨h r (by simp[X8N]),trivial,λc hc=>one hc λr' hr=>h r' (by simp only[X8N,Yak];exact .inr hr)⟩
 | _=>trivial
theorem Xor{st:St}{i:Nat}:st.get i=.und\/(i,st.get i)∈st.slots:=by
 unfold St.get;cases h:look i st.slots with
 | none=>exact .inl rfl
 | some sv=>exact .inr (X3O h)
theorem Xks{r:Nat}{l:List (Nat×Sv)}(h:Xae r l=true){p:Nat×Sv}(hp:p∈l):Xqh r p.2=true:=by
 induction l with
 | nil=>cases hp
 | cons q l ih=>
   simp only[Xae,Yac]at h;simp only[Yak]at hp;rcases hp with rfl | hp
   . exact h.1
   . exact ih h.2 hp
theorem XkA{r:Nat}{l:List (Nat×List X02)}(h:X6z r l=true){p:Nat×List X02}(hp:p∈l):XmW r p.2=true:=by
 induction l with
 | nil=>cases hp
 | cons q l ih=>
   simp only[X6z,Yac]at h;simp only[Yak]at hp;rcases hp with rfl | hp
   . exact h.1
   . exact ih h.2 hp
theorem Xkp{k:Nat}{l:List (Nat×Sv)}(h:Xaf k l=true){p:Nat×Sv}(hp:p∈l):XsN k p.2=true:=by
 induction l with
 | nil=>cases hp
 | cons q l ih=>
   simp only[Xaf,Yac]at h;simp only[Yak]at hp;rcases hp with rfl | hp
   . exact h.1
   . exact ih h.2 hp
theorem XqR{st:St}{l:List (Nat×X0L)}(h:noTags st l=true){p:Nat×X0L}(hp:p∈l):noTag p.1 st=true:=by
 induction l with
 | nil=>cases hp
 | cons q l ih=>
   simp only[noTags,Yac]at h;simp only[Yak]at hp;rcases hp with rfl | hp
   . exact h.1
   . exact ih h.2 hp
theorem XrH{r:Nat}{sv:Sv}(h:Xqh r sv=true):okS (λr'=>r'≠r) (λ_ _=>True) sv:=
 Xv1 λr' hr' e=>by subst e;exact X59.1 h hr'
def XhX:(t:Ty)->El t->List Value
 | .int k,n=>[.int k n]
 | .bool,b=>[.bool b]
 | .str,s=>[.string ⟨s.toArray⟩]
 | .list _,_=>[]
 | .unit,_=>[]
 | .pair a b,x=>XhX a x.1++XhX b x.2
def eqEl(τ:Ty)(x y:El τ):Bool:=match XhG (flat τ x) (flat τ y) with
 | some b=>b
 | none=>false
def Xq8(P:Program)(t:TypeId):Bool:=match P.underlying t with
 | some (.pointer _)=>true
 | _=>false
def EqOk(P:Program)(t:TypeId)(τ:Ty):Prop:=(τ=.unit->Xq8 P t=true)/\(τ≠.unit->P.eqGuardType P.depth t=false/\
 ∀(w:World) (x y:El τ),(Op.equalIn 10000 t (.agg (XhX τ x).toArray) (.agg (XhX τ y).toArray)).run P w=.ok (eqEl τ x y) w)
def Xv6(P:Program)(eqs:List (TypeId×Ty)):Prop:=∀t τ,look t eqs=some τ->EqOk P t τ
theorem RdC.vals{M:Mem}:∀{τ:Ty} {vs:List Value} {x:El τ},Xe8 τ=true->RdC M τ vs x->vs=XhX τ x
 | .int _,_,_,_,h=>h
 | .bool,_,_,_,h=>h
 | .str,_,_,_,h=>h
 | .unit,_,_,hp,_=>by simp[Xe8]at hp
 | .list _,_,_,hp,_=>by simp[Xe8]at hp
 | .pair a b,_,_,hp,⟨c1,c2,e,h1,h2⟩=>by
   simp only[Xe8,Yac]at hp;rw[e,RdC.vals hp.1 h1,RdC.vals hp.2 h2];rfl
section
variable {P:Program} {base:World} {M0:Mem} {ios:Ios} {σ:Sg} {M:Mem} {w:World} {a:Act} {st:St}
theorem X08{α:Type}(k j:Nat)(x:α)(r:List (Nat×α)):look k ((j,x)::r)=if j=k then some x else look k r:=rfl
theorem X5v{α:Type}(k:Nat):∀(l r:List (Nat×α)),look k (l++r)=match look k l with | some x=>some x | none=>look k r
 | [],r=>rfl
 | (j,x)::l,r=>by
   simp only[Ybc,X08];split
   . rfl
   . exact X5v k l r
theorem XiW{α:Type}(r:Nat)(ks:List Nat):∀(l:List (Nat×α)),look r (l.filter λp=>X51 p.1 ks)=if X51 r ks=true then look r l else none
 | []=>by simp[look]
 | (j,x)::l=>by
   simp only[Yc1];by_cases hj:X51 j ks=true
   . rw[Yah hj,X08,X08,XiW r ks l];by_cases e:j=r
     . subst e;simp[hj]
     . simp only[Yae e]
   . rw[Yae hj,X08,XiW r ks l];by_cases e:j=r
     . subst e;simp[hj]
     . simp only[Yae e]
theorem X6w{r:Nat}{rows:List (Nat×X0L)}{e:TypeId}(h:X8M r rows=some e):∃rv,look r rows=some rv/\rv.cold?=some e:=by
 unfold X8M at h;split at h
 . rename_i rv hr;exact⟨rv,hr,h⟩
 . cases h
theorem X9T{r:Nat}{rows:List (Nat×X0L)}{e:TypeId}{rv:X0L}(h:look r rows=some rv)(hc:rv.cold?=some e):X8M r rows=some e:=by simp[X8M,h,hc]
theorem Xui{r:Nat}(h:(st.row r).isSome=true):(look r st.rows).isSome=true:=by
 obtain⟨e,he⟩:=Yao.1 h;obtain⟨rv,h1,_⟩:=X6w he;rw[h1];rfl
theorem Xkl{w w':World}{ad:Addr}(h:w'.heap[ad.block]?=w.heap[ad.block]?):w'.cell? ad=w.cell? ad:=World.cell?_of_block h
theorem XxZ.frame{t:Ty}{v:Value}{l:List (El t)}{hole:Option (Nat×Nat)}{bs:List Nat}(h:XxZ w t v l hole bs){w':World}(hw:∀g∈bs,w'.heap[g]?=w.heap[g]?):XxZ w' t v l hole bs:=by
 cases hole with
 | none=>exact X4Q.frame h hw
 | some p=>
   obtain⟨i,off⟩:=p;obtain⟨g,o,cap,arr,e,h1,h2,h3,h4,h5,h6,h7⟩:=h;have hgb:g∈bs:=by
    rcases h7.cases with⟨ad,k1,k2,_⟩ | ⟨g',o',cap',arr',e',b1,k1,k2,_⟩
    . subst k2;simp at h3
    . rw[h1]at k1;injection k1 with k3;injection k3 with k4;injection k4 with k5;subst k5;rw[k2];simp
   refine⟨g,o,cap,arr,e,h1,by rw[hw g hgb];exact h2,h3,h4,h5,h6,h7.frame λb hb=>?_⟩;by_cases hbg:b=g
   . subst hbg;rw[setRow_heap _ _ arr _ e _ (by rw[hw _ hgb];exact h2),setRow_heap _ _ arr _ e _ h2]
   . rw[setRow_other _ _ _ _ hbg,setRow_other _ _ _ _ hbg];exact hw b hb
theorem Xqr{w w':World}{b:Nat}{e:TypeId}{s:Nat}{v:Value}{n:Nat}{xs:List Value}(ho:w.ownsRow b e s v n xs)(h:∀g,v.ownBlock=some g->w'.heap[g]?=w.heap[g]?):w'.ownsRow b e s v n xs:=by
 refine⟨ho.1,?_⟩;rcases ho.2 with h0 | ⟨g,cap,cur,rfl,h1,h2,h3⟩
 . exact .inl h0
 . exact .inr ⟨g,cap,cur,rfl,h1,by rw[h g rfl];exact h2,h3⟩
theorem Xd3.frame{r:Nat}{e:TypeId}{t:Ty}{l:List (El t)}{hole:Option (Nat×Nat)}{z:Bool}(h:Xd3 P base σ w r e t l hole z){σ':Sg}{w':World}(h1:σ'.row r=σ.row r)(h2:σ'.foot r=σ.foot r)(h3:σ'.mem r=σ.mem r)(hw:∀g∈σ.foot r,w'.heap[g]?=w.heap[g]?):Xd3 P base σ' w' r e t l hole z where
 info:=h.info
 pos:=h.pos
 own:=by rw[h1,h2];exact h.own.frame hw
 nodup:=by rw[h2];exact h.nodup
 mem:=λad u hu=>by
  rw[h3]at hu;obtain⟨k1,k2,k3⟩:=h.mem ad u hu;exact⟨by rw[Xkl (hw _ k2)];exact k1,by rw[h2];exact k2,by rw[h1];exact k3⟩
 full:=λhh ad u hb ht hu=>by
  rw[h2]at hb;rw[h1]at ht;rw[h3];exact h.full hh ad u hb ht (by rw[<-Xkl (hw _ hb)];exact hu)
 z:=λhz=>by
  obtain⟨⟨n,xs,ho⟩,hb⟩:=h.z hz;rw[h1,h2];exact⟨⟨n,xs,Xqr ho λg hg=>hw g (hb g hg)⟩,hb⟩
theorem XwP.keep(h:XwP P base ios σ M w st){σ':Sg}{M':Mem}{w':World}{st':St}(hsz:w.heap.size<=w'.heap.size)(hM:M.le M')(hr:∀r rv v,look r st'.rows=some rv->rv.ver?=some v->look r st.rows=some rv/\σ'.row r=σ.row r/\σ'.foot r=σ.foot r/\σ'.mem r=σ.mem r)(hw:∀r,X1G r st'.rows->∀g∈σ.foot r,w'.heap[g]?=w.heap[g]?)(hN:∀r,X1G r st'.rows->∀g∈σ.foot r,∀ad,ad.block=g->M' ad=none)(hb:∀r,X1G r st'.rows->∀k,(st'.box k).isSome=true->σ'.box k∉σ.foot r)(hc:∀r,X1G r st'.rows->∀r',(st'.row r').isSome=true->∀g,(σ'.row r').ownBlock=some g->g∉σ.foot r):XwP P base ios σ' M' w' st':=by
 have hh:∀r,X1G r st'.rows->X1G r st.rows/\σ'.row r=σ.row r/\σ'.foot r=σ.foot r/\σ'.mem r=σ.mem r:=λr ⟨e,t,l,ver,hole,z,hl⟩=>by
  obtain⟨k1,k2⟩:=hr r _ ver hl rfl;exact⟨⟨e,t,l,ver,hole,z,k1⟩,k2⟩
 exact {
  ok:=λr e t l ver hole z hl=>by
   obtain⟨k1,k2,k3,k4⟩:=hr r _ ver hl rfl;exact(h.ok r e t l ver hole z k1).frame k2 k3 k4 (hw r ⟨e,t,l,ver,hole,z,hl⟩)
  base:=λr hr' g hg=>by obtain⟨k1,_,k3,_⟩:=hh r hr';rw[k3]at hg;exact h.base r k1 g hg
  noM:=λr hr' g hg=>by obtain⟨k1,_,k3,_⟩:=hh r hr';rw[k3]at hg;exact hN r hr' g hg
  noBox:=λr hr' k hk=>by obtain⟨k1,_,k3,_⟩:=hh r hr';rw[k3];exact hb r hr' k hk
  noRow:=λr hr' r' hr2 g hg=>by obtain⟨k1,_,k3,_⟩:=hh r hr';rw[k3];exact hc r hr' r' hr2 g hg
  apart:=λr r' h1 h2 hne g hg=>by
   obtain⟨k1,_,k3,_⟩:=hh r h1;obtain⟨m1,_,m3,_⟩:=hh r' h2;rw[k3]at hg;rw[m3];exact h.apart r r' k1 m1 hne g hg
  lt:=λr hr' g hg=>by obtain⟨k1,_,k3,_⟩:=hh r hr';rw[k3]at hg;exact Ybe (h.lt r k1 g hg) hsz
  frz:=λr e t l ver z hl=>by
   obtain⟨k1,k2,_,k4⟩:=hr r _ ver hl rfl;obtain⟨m1,m2⟩:=h.frz r e t l ver z k1;exact⟨by rw[k2];exact m1.mono hM,by rw[k4];exact Mem.le_trans m2 hM⟩}
theorem XwP.still(h:XwP P base ios σ M w st){st':St}(h1:st'.rows=st.rows)(h2:∀k,(st'.box k).isSome=true->(st.box k).isSome=true):XwP P base ios σ M w st':=by
 refine h.keep (YaC _) (Mem.le_refl M) (λr rv v hl _=>⟨by rw[<-h1];exact hl,rfl,rfl,rfl⟩) (λ_ _ _ _=>rfl) (λr hr=>h.noM r (h1▸hr)) (λr hr k hk=>h.noBox r (h1▸hr) k (h2 k hk))
  (λr hr r' hr' g hg=>h.noRow r (h1▸hr) r' (by unfold St.row at hr' ⊢;rw[<-h1];exact hr') g hg)
theorem XpF(a:Act)(d:Nat)(v:Value)(i:Nat)(hd:d<a.tmps.size):(a.put (some d) v).tmps.getD i undef=if i=d then v else a.tmps.getD i undef:=by
 simp only[Act.put,Ybf,Array.getElem?_setIfInBounds];by_cases h:d=i
 . subst h;simp[hd]
 . simp[h,YaK h]
theorem Xoj(st:St)(d:Nat)(sv:Sv)(i:Nat):(st.put d sv).get i=if i=d then sv else st.get i:=by
 simp only[St.get,St.put,X08];by_cases h:d=i
 . subst h;simp
 . simp only[Yae h,Yae (YaK h)]
theorem Sim.put(h:Sim P base M0 ios σ M w a st){d:Nat}{v:Value}{sv:Sv}(hd:d<st.nt)(hv:X44 σ st.rows st.boxes M v sv):
 Sim P base M0 ios σ M w (a.put (some d) v) (st.put d sv) where
 mem:=h.mem
 nt:=by simp[Act.put,St.put];exact h.nt
 slots:=λi=>by
  rw[XpF a d v i (by rw[h.nt];exact hd),Xoj];split
  . exact hv
  . exact h.slots i
 boxes:=h.boxes
 boxM:=h.boxM
 boxInj:=h.boxInj
 boxBase:=h.boxBase
 rows:=h.rows
 rowBox:=h.rowBox
 rowInj:=h.rowInj
 hot:=h.hot.still rfl λ_ hk=>hk
 fr:=h.fr
 defers:=by simp[Act.put];exact h.defers
 old:=h.old
 le:=h.le
 pin:=h.pin
 pins:=h.pins
 olds:=λi hi=>by
  have hm:=YbA.1 hi;have hne:i≠d:=by simpa using hm.2
  have h0:=h.olds i hm.1;rw[XpF a d v i (by rw[h.nt];exact hd),Xoj];split
  . rename_i e;first | exact absurd e hne | exact absurd e.symm hne
  . exact h0
theorem XtG{w w':World}(h:w'.heap=w.heap)(ad:Addr):w'.cell? ad=w.cell? ad:=by simp[World.cell?,h]
theorem Sim.sameHeap(h:Sim P base M0 ios σ M w a st){w':World}(hh:w'.heap=w.heap)(ho:w'.os=w.os)(ht:w'.tape=w.tape)(hu:w'.output=w.output):Sim P base M0 ios σ M w' a st where
 mem:=λad v hv=>by rw[XtG hh];exact h.mem ad v hv
 nt:=h.nt
 slots:=h.slots
 boxes:=λk cs hk=>by rw[hh];exact h.boxes k cs hk
 boxM:=h.boxM
 boxInj:=h.boxInj
 boxBase:=h.boxBase
 rows:=λr e hr=>by
  obtain⟨n,xs,i,hi,ho',hm⟩:=(h.rows r e hr).own;exact⟨⟨n,xs,i,hi,ho'.at λg _=>by rw[hh],hm⟩⟩
 rowBox:=h.rowBox
 rowInj:=h.rowInj
 hot:=h.hot.keep (by rw[hh];exact YaC _) (Mem.le_refl M) (λr rv v hl _=>⟨hl,rfl,rfl,rfl⟩) (λ_ _ _ _=>by rw[hh]) h.hot.noM h.hot.noBox h.hot.noRow
 fr:=h.fr.trans ⟨ho,ht,hu,by rw[hh];exact YaC _,λk _ _=>by rw[hh]⟩
 defers:=h.defers
 old:=h.old
 le:=h.le
 pin:=h.pin
 pins:=h.pins
 olds:=h.olds
theorem Sim.drew(h:Sim P base M0 ios σ M w a st):Sim P base M0 ios σ M {w with drawn:=w.drawn+1} a st:=h.sameHeap rfl rfl rfl rfl
theorem Sim.mem_lt(h:Sim P base M0 ios σ M w a st){ad:Addr}{v:Value}(hv:M ad=some v):ad.block<w.heap.size:=
 World.block_lt_of_cell? w ad (h.mem ad v hv)
theorem Sim.box_lt(h:Sim P base M0 ios σ M w a st){k:Nat}(hk:(st.box k).isSome=true):σ.box k<w.heap.size:=by
 obtain⟨cs,hcs⟩:=Yao.1 hk;obtain⟨arr,E,he,_⟩:=h.boxes k cs hcs;exact(YaO.1 he).1
theorem Sim.row_lt(h:Sim P base M0 ios σ M w a st){r:Nat}(hr:(st.row r).isSome=true){g:Nat}(hg:(σ.row r).ownBlock=some g):Xrd base ios g/\g<w.heap.size:=by
 obtain⟨e,he⟩:=Yao.1 hr;obtain⟨n,xs,i,_,ho,_⟩:=(h.rows r e he).own;exact ho.lt g hg
theorem XdY{w:World}{o:Obj}{ad:Addr}(h:ad.block<w.heap.size):(w.alloc o).cell? ad=w.cell? ad:=World.cell?_alloc_lt w o ad h
theorem Xq1{k:Nat}(hnb:noBox k st=true){i k':Nat}(hs:k'∈X4I (st.get i)):k'≠k:=by
 rcases Xor (st:=st) (i:=i) with h | h
 . rw[h]at hs;cases hs
 . intro e;subst e;exact X59.1 (Xkp hnb h) hs
theorem Sim.allocBox(h:Sim P base M0 ios σ M w a st){d:Nat}(hd0:d≠0)(hnb:noBox d st=true){arr:Array Value}{E:TypeId}{cs:List X02}(hcs:X27 (RdT σ st.rows M) arr.toList cs):
 Sim P base M0 ios {σ with box:=λk=>if k=d then w.heap.size else σ.box k} M (w.alloc (.cells arr E)) a {st with boxes:=(d,cs)::st.boxes}:=by
 have hca:Carry σ st.rows M {σ with box:=λk=>if k=d then w.heap.size else σ.box k} st.rows M (λ_=>True) (λ_ _=>True):=⟨Mem.le_refl M,λr _ hr=>⟨hr,rfl⟩,λr ver rv' _ _ hl hv=>⟨rv',hl,hv,Mem.le_refl _,.inl rfl⟩⟩
 exact {
 mem:=λad v hv=>by rw[XdY (h.mem_lt hv)];exact h.mem ad v hv
 nt:=h.nt
 slots:=λi=>by
  have hs:=h.slots i;show X44 _ st.rows ((d,cs)::st.boxes) M _ (st.get i);refine X44.carry (boxes:=st.boxes) hca hs (Xed _) ?_;intro k hk;have hne:=Xq1 hnb hk;refine⟨by simp[hne],λhk=>?_⟩;rw[X08,Yae (YaK hne)];exact hk
 boxes:=λk cs' hk=>by
  simp only[St.box,X08]at hk;by_cases he:d=k
  . subst he;rw[Yah rfl]at hk;cases hk;refine⟨arr,E,?_,?_⟩
    . simp only[Yah];exact heap_alloc_new w _
    . exact Xcm hca hcs (λc _=>X65 c)
  . rw[Yae he]at hk;obtain⟨arr',E',h1,h2⟩:=h.boxes k cs' hk;refine⟨arr',E',?_,Xcm hca h2 (λc _=>X65 c)⟩;simp only[Yae (YaK he)];rw[heap_alloc_old w _ (YaO.1 h1).1];exact h1
 boxM:=λk hk ad had=>by
  simp only[St.box,X08]at hk;by_cases he:d=k
  . subst he;simp only[Yah]at had;cases hM:M ad with
    | none=>rfl
    | some v=>have:=h.mem_lt hM;omega
  . rw[Yae he]at hk;simp only[Yae (YaK he)]at had;exact h.boxM k hk ad had
 boxInj:=λk k' hk hk' he=>by
  simp only[St.box,X08]at hk hk';by_cases e1:d=k<;>by_cases e2:d=k'
  . omega
  . subst e1;rw[Yae e2]at hk';simp only[Yah,Yae (YaK e2)]at he;have:=h.box_lt hk';omega
  . subst e2;rw[Yae e1]at hk;simp only[Yah,Yae (YaK e1)]at he;have:=h.box_lt hk;omega
  . rw[Yae e1]at hk;rw[Yae e2]at hk';simp only[Yae (YaK e1),Yae (YaK e2)]at he;exact h.boxInj k k' hk hk' he
 boxBase:=λk hk=>by
  simp only[St.box,X08]at hk;by_cases he:d=k
  . subst he;left;simp only[Yah];exact h.fr.size
  . rw[Yae he]at hk;simp only[Yae (YaK he)];exact h.boxBase k hk
 rows:=λr e hr=>by
  obtain⟨n,xs,i,hi,ho,hm⟩:=(h.rows r e hr).own;exact⟨⟨n,xs,i,hi,ho.alloc _,hm⟩⟩
 rowBox:=λr k hr hk=>by
  simp only[St.box,X08]at hk;by_cases he:d=k
  . subst he;simp only[Yah];intro hg;have:=(h.row_lt hr hg).2;omega
  . rw[Yae he]at hk;simp only[Yae (YaK he)];exact h.rowBox r k hr hk
 rowInj:=h.rowInj
 hot:=by
  refine h.hot.keep (by simp) (Mem.le_refl M) (λr rv v hl _=>⟨hl,rfl,rfl,rfl⟩) (λr hr g hg=>heap_alloc_old w _ (h.hot.lt r hr g hg)) h.hot.noM (λr hr k hk=>?_) h.hot.noRow;simp only[St.box,X08]at hk;by_cases he:d=k
  . subst he;simp only[Yah];intro hg;have:=h.hot.lt r hr _ hg;omega
  . rw[Yae he]at hk;simp only[Yae (YaK he)];exact h.hot.noBox r hr k hk
 fr:=h.fr.of_grown (World.grownBy_alloc w _ none) (λ_ e=>by cases e)
 defers:=h.defers
 old:=h.old
 le:=h.le
 pin:=λb hb=>by show(if 0=d then _ else σ.box 0)=b;rw[Yae (YaK hd0)];exact h.pin b hb
 pins:=h.pins
 olds:=h.olds}
theorem Sim.moreMem(h:Sim P base M0 ios σ M w a st){M':Mem}(hle:M.le M')(hm:∀ad v,M' ad=some v->w.cell? ad=some v)(hb:∀k,(st.box k).isSome=true->∀ad,ad.block=σ.box k->M' ad=none)(ho:∀ad,ad.block<base.heap.size->ad.block∉ios.blk->M0 ad=none->M' ad=none)(hr:∀r e,st.row r=some e->∀n xs i,P.info? e=some i->X74 w (Xrd base ios) i.size (σ.row r) n xs->(∀g,(σ.row r).ownBlock=some g->∀ad,ad.block=g->Xo7 (σ.row r)+n*i.size<=ad.off->M ad=none)->∀g,(σ.row r).ownBlock=some g->∀ad,ad.block=g->Xo7 (σ.row r)+n*i.size<=ad.off->M' ad=none)(hh:∀r,X1G r st.rows->∀g∈σ.foot r,∀ad,ad.block=g->M' ad=none):
 Sim P base M0 ios σ M' w a st where
 mem:=hm
 nt:=h.nt
 slots:=λi=>(h.slots i).carry (Carry.same σ st.rows hle) (Xed _) (λk _=>⟨rfl,id⟩)
 boxes:=λk cs hk=>by
  obtain⟨arr,E,h1,h2⟩:=h.boxes k cs hk;exact⟨arr,E,h1,Xcm (Carry.same σ st.rows hle) h2 (λc _=>X65 c)⟩
 boxM:=hb
 boxInj:=h.boxInj
 boxBase:=h.boxBase
 rows:=λr e he=>by
  obtain⟨n,xs,i,hi,ho,hm'⟩:=(h.rows r e he).own;exact⟨⟨n,xs,i,hi,ho,hr r e he n xs i hi ho hm'⟩⟩
 rowBox:=h.rowBox
 rowInj:=h.rowInj
 hot:=h.hot.keep (YaC _) hle (λr rv v hl _=>⟨hl,rfl,rfl,rfl⟩) (λ_ _ _ _=>rfl) hh h.hot.noBox h.hot.noRow
 fr:=h.fr
 defers:=h.defers
 old:=ho
 le:=Mem.le_trans h.le hle
 pin:=h.pin
 pins:=h.pins
 olds:=h.olds
theorem Xli{r:Nat}(hn:noTag r st=true)(i:Nat):okS (λr'=>r'≠r) (λ_ _=>True) (st.get i):=by
 unfold noTag at hn;rw[Yac,Yac]at hn;rcases Xor (st:=st) (i:=i) with h | h
 . rw[h];trivial
 . exact XrH (Xks hn.1.1 h)
theorem XnZ{r:Nat}(hn:noTag r st=true){k:Nat}{cs:List X02}(hk:st.box k=some cs):∀c∈cs,okC (λr'=>r'≠r) (λ_ _=>True) c:=by
 unfold noTag at hn;rw[Yac,Yac]at hn;exact λc hc=>⟨λr' hr' e=>by subst e;exact X59.1 (XkA hn.1.2 (X3O hk)) (XjM hc hr'),λ_ _ _ _ _ _=>trivial⟩
theorem XdA{r:Nat}(hn:noTag r st=true):look r st.rows=none:=by
 unfold noTag at hn;rw[Yac,Yac]at hn;have:=hn.2;cases h:look r st.rows with
 | none=>rfl
 | some e=>rw[h]at this;simp at this
theorem X5V{r r':Nat}{rv:X0L}(h:X1G r' ((r,rv)::st.rows)):(r'=r/\∃e t l ver hole z,rv=.hot e t l ver hole z)\/(r'≠r/\X1G r' st.rows):=by
 obtain⟨e,t,l,ver,hole,z,h⟩:=h;rw[X08]at h;split at h
 . rename_i e1;cases h;exact .inl ⟨e1.symm,_,_,_,_,_,_,rfl⟩
 . rename_i e1;exact .inr ⟨λe=>e1 e.symm,e,t,l,ver,hole,z,h⟩
theorem Sim.newRow(h:Sim P base M0 ios σ M w a st){r:Nat}{e:TypeId}{v:Value}(hn:noTag r st=true)(hp:r % 2=1)(hv:XyG P (Xrd base ios) M w v e)(hb:∀k,(st.box k).isSome=true->v.ownBlock≠some (σ.box k))(hr:∀r',(st.row r').isSome=true->(σ.row r').ownBlock=none\/(σ.row r').ownBlock≠v.ownBlock)(hh:∀r',X1G r' st.rows->∀g,v.ownBlock=some g->g∉σ.foot r'):
 Sim P base M0 ios {σ with row:=λk=>if k=r then v else σ.row k} M w a {st with rows:=(r,.cold e)::st.rows}:=by
 have hc:Carry σ st.rows M {σ with row:=λk=>if k=r then v else σ.row k} ((r,.cold e)::st.rows) M (λr'=>r'≠r) (λ_ _=>True):=
  ⟨Mem.le_refl M,λr' hne hs=>by
    rw[X08,Yae (YaK hne)]at hs;exact⟨hs,by simp[hne]⟩,λr' ver rv' hne _ hl hv=>by
    rw[X08,Yae (YaK hne)]at hl;exact⟨rv',hl,hv,Mem.le_refl _,.inl rfl⟩⟩
 have hrow:∀r',({st with rows:=(r,.cold e)::st.rows}:St).row r'=if r=r' then some e else st.row r':=λr'=>by
  simp only[St.row,X8M,X08];by_cases he:r=r'
  . simp[he,X0L.cold?]
  . simp only[Yae he]
 exact {
  mem:=h.mem
  nt:=h.nt
  slots:=λi=>(h.slots i).carry hc (Xli hn i) (λk _=>⟨rfl,id⟩)
  boxes:=λk cs hk=>by
   obtain⟨arr,E,h1,h2⟩:=h.boxes k cs hk;exact⟨arr,E,h1,Xcm hc h2 (XnZ hn hk)⟩
  boxM:=h.boxM
  boxInj:=h.boxInj
  boxBase:=h.boxBase
  rows:=λr' e' hr'=>by
   rw[hrow]at hr';by_cases he:r=r'
   . subst he;rw[Yah rfl]at hr';cases hr';simp only[Yah];exact hv
   . rw[Yae he]at hr';simp only[Yae (YaK he)];exact h.rows r' e' hr'
  rowBox:=λr' k hr' hk=>by
   rw[hrow]at hr';by_cases he:r=r'
   . subst he;simp only[Yah];exact hb k hk
   . rw[Yae he]at hr';simp only[Yae (YaK he)];exact h.rowBox r' k hr' hk
  rowInj:=λr1 r2 h1 h2 hne=>by
   rw[hrow]at h1 h2;by_cases e1:r=r1<;>by_cases e2:r=r2
   . omega
   . subst e1;rw[Yae e2]at h2;simp only[Yah,Yae (YaK e2)];rcases hr r2 h2 with hx | hx
     . by_cases hvn:v.ownBlock=none
       . exact .inl hvn
       . exact .inr (by rw[hx];exact hvn)
     . exact .inr (YaK hx)
   . subst e2;rw[Yae e1]at h1;simp only[Yah,Yae (YaK e1)];exact hr r1 h1
   . rw[Yae e1]at h1;rw[Yae e2]at h2;simp only[Yae (YaK e1),Yae (YaK e2)];exact h.rowInj r1 r2 h1 h2 hne
  hot:=by
   refine h.hot.keep (YaC _) (Mem.le_refl M) (λr' rv v' hl hv'=>?_) (λ_ _ _ _=>rfl) (λr' hr'=>?_) (λr' hr'=>?_) (λr' hr' r2 hr2 g hg=>?_)
   . rw[X08]at hl;split at hl
     . cases hl;cases hv'
     . rename_i he;exact⟨hl,by simp only[Yae (YaK he)],rfl,rfl⟩
   . rcases X5V hr' with⟨_,_,_,_,_,_,_,e1⟩ | ⟨_,h1⟩
     . cases e1
     . exact h.hot.noM r' h1
   . rcases X5V hr' with⟨_,_,_,_,_,_,_,e1⟩ | ⟨_,h1⟩
     . cases e1
     . exact h.hot.noBox r' h1
   . rcases X5V hr' with⟨_,_,_,_,_,_,_,e1⟩ | ⟨_,h1⟩
     . cases e1
     . rw[hrow]at hr2;by_cases he:r=r2
       . subst he;simp only[Yah]at hg;exact hh r' h1 g hg
       . rw[Yae he]at hr2;simp only[Yae (YaK he)]at hg;exact h.hot.noRow r' h1 r2 hr2 g hg
  fr:=h.fr
  defers:=h.defers
  old:=h.old
  le:=h.le
  pin:=h.pin
  pins:=λp hp' hs=>by
   have:p.1≠r:=λe=>by have:=ios.even p hp';rw[e]at this;omega
   rw[X08,Yae (YaK this)]at hs;simp only[Yae this];exact h.pins p hp' hs
  olds:=h.olds}
end
section
variable {P:Program} {base:World} {M0:Mem} {ios:Ios} {σ:Sg} {M:Mem} {w:World} {a:Act} {st:St}
theorem add_lit(g o n:Nat):(⟨g,o,none⟩:Addr).add n=⟨g,o+n,none⟩:=by unfold Addr.add;split<;>simp_all
def Xrf(upd:List (Nat×X0L))(r ver:Nat):Prop:=∀rv,look r upd=some rv->rv.ver?≠some ver
theorem Xqo{r ver:Nat}{cs:List X02}(h:Xa3 r ver cs=true){t:Ty}{l:List (El t)}{ver':Nat}{p:Option (Nat×Nat)}(hm:X02.bor t l r ver' p∈cs):ver'≠ver:=by
 induction cs with
 | nil=>cases hm
 | cons c cs ih=>
   rcases Yak.1 hm with e | hm2
   . subst e;simp only[Xa3,Yac]at h;intro e;subst e;simp at h
   . refine ih ?_ hm2;cases c<;>simp only[Xa3,Yac]at h<;>first | exact h | exact h.2
theorem Xqz{r ver:Nat}{l:List (Bool×List X02)}(h:XpI r ver l=true){p:Bool×List X02}(hp:p∈l):Xa3 r ver p.2=true:=by
 induction l with
 | nil=>cases hp
 | cons q l ih=>
   simp only[XpI,Yac]at h;rcases Yak.1 hp with rfl | hp
   . exact h.1
   . exact ih h.2 hp
theorem XhN{r ver:Nat}{l:List Cap}(h:XaT r ver l=true){cs:List X02}(hp:Cap.ptr cs∈l\/Cap.pptr cs∈l):Xa3 r ver cs=true:=by
 induction l with
 | nil=>rcases hp with hp | hp<;>cases hp
 | cons q l ih=>
   have hm:(q=.ptr cs\/q=.pptr cs)\/(Cap.ptr cs∈l\/Cap.pptr cs∈l):=by
    rcases hp with hm | hm
    . rcases Yak.1 hm with e | hm
      . exact .inl (.inl e.symm)
      . exact .inr (.inl hm)
    . rcases Yak.1 hm with e | hm
      . exact .inl (.inr e.symm)
      . exact .inr (.inr hm)
   rcases hm with(e | e) | hp2
   . subst e;simp only[XaT,Yac]at h;exact h.1
   . subst e;simp only[XaT,Yac]at h;exact h.1
   . cases q<;>simp only[XaT,Yac]at h<;>first | exact ih h.2 hp2 | exact ih h hp2
theorem Xkw{r ver:Nat}{l:List (Nat×Sv)}(h:X8Y r ver l=true){p:Nat×Sv}(hp:p∈l):XhW r ver p.2=true:=by
 induction l with
 | nil=>cases hp
 | cons q l ih=>
   simp only[X8Y,Yac]at h;rcases Yak.1 hp with rfl | hp
   . exact h.1
   . exact ih h.2 hp
theorem XkB{r ver:Nat}{l:List (Nat×List X02)}(h:X90 r ver l=true){p:Nat×List X02}(hp:p∈l):Xa3 r ver p.2=true:=by
 induction l with
 | nil=>cases hp
 | cons q l ih=>
   simp only[X90,Yac]at h;rcases Yak.1 hp with rfl | hp
   . exact h.1
   . exact ih h.2 hp
theorem Xlf{upd:List (Nat×X0L)}(h:noVers st upd=true){r:Nat}{rv:X0L}{ver:Nat}(hm:(r,rv)∈upd)(hv:∃e t l hole z,rv=.hot e t l ver hole z):X8Y r ver st.slots=true/\X90 r ver st.boxes=true:=by
 obtain⟨e,t,l,hole,z,rfl⟩:=hv
 induction upd with
 | nil=>cases hm
 | cons q upd ih=>
   obtain⟨r0,rv0⟩:=q;rcases Yak.1 hm with e1 | hm2
   . cases e1;simp only[noVers,Yac]at h;exact h.1
   . cases rv0<;>simp only[noVers,Yac]at h<;>first | exact ih h.2 hm2 | exact ih h hm2
theorem XeC{upd:List (Nat×X0L)}{cs:List X02}(hot:∀r rv,look r upd=some rv->∃e t l ver hole z,rv=.hot e t l ver hole z)(h:∀r rv ver,look r upd=some rv->rv.ver?=some ver->Xa3 r ver cs=true){c:X02}(hc:c∈cs):okC (λ_=>True) (Xrf upd) c:=by
 refine⟨λ_ _=>trivial,λt l r ver p e rv hr hv=>?_⟩;subst e;exact Xqo (h r rv ver hr hv) hc rfl
theorem Xtz{upd:List (Nat×X0L)}(hot:∀r rv,look r upd=some rv->∃e t l ver hole z,rv=.hot e t l ver hole z)(h:noVers st upd=true)(i:Nat):okS (λ_=>True) (Xrf upd) (st.get i):=by
 rcases Xor (st:=st) (i:=i) with h0 | h0
 . rw[h0];trivial
 . have key:∀r rv ver,look r upd=some rv->rv.ver?=some ver->XhW r ver (st.get i)=true:=λr rv ver hr hv=>by
    obtain⟨e,t,l,ver',hole,z,rfl⟩:=hot r rv hr;cases hv;exact Xkw (Xlf h (X3O hr) ⟨e,t,l,hole,z,rfl⟩).1 h0
   cases hsv:st.get i<;>rw[hsv]at key
   case val ag cs=>exact λc hc=>XeC hot (λr rv ver hr hv=>key r rv ver hr hv) hc
   case ptr cs=>exact λc hc=>XeC hot (λr rv ver hr hv=>key r rv ver hr hv) hc
   case pptr cs=>exact λc hc=>XeC hot (λr rv ver hr hv=>key r rv ver hr hv) hc
   case tup l=>exact λp hp c hc=>XeC hot (λr rv ver hr hv=>Xqz (key r rv ver hr hv) hp) hc
   case fn f x y=>
    have cap:∀{l:List Cap},(∀r rv ver,look r upd=some rv->rv.ver?=some ver->XaT r ver l=true)->∀c∈l,XqX (λ_=>True) (Xrf upd) c:=λ{l} hl c hc=>by
     cases c with
     | ptr cs=>exact λd hd=>XeC hot (λr rv ver hr hv=>XhN (hl r rv ver hr hv) (.inl hc)) hd
     | pptr cs=>exact λd hd=>XeC hot (λr rv ver hr hv=>XhN (hl r rv ver hr hv) (.inr hc)) hd
     | _=>trivial
    refine⟨cap λr rv ver hr hv=>?_,cap λr rv ver hr hv=>?_⟩
    . have:=key r rv ver hr hv;simp only[XhW,Yac]at this;exact this.1
    . have:=key r rv ver hr hv;simp only[XhW,Yac]at this;exact this.2
   case bptr cs r ver=>
    refine⟨trivial,λrv hr hv=>?_,λc hc=>XeC hot (λr' rv ver' hr hv=>?_) hc⟩
    . have:=key r rv ver hr hv;simp[XhW]at this
    . have:=key r' rv ver' hr hv;simp only[XhW,Yac]at this;exact this.2
   all_goals trivial
theorem Xjs{upd:List (Nat×X0L)}(hot:∀r rv,look r upd=some rv->∃e t l ver hole z,rv=.hot e t l ver hole z)(h:noVers st upd=true){k:Nat}{cs:List X02}(hk:st.box k=some cs):∀c∈cs,okC (λ_=>True) (Xrf upd) c:=λc hc=>
 XeC hot (λr rv ver hr hv=>by
  obtain⟨e,t,l,ver',hole,z,rfl⟩:=hot r rv hr;cases hv;exact XkB (Xlf h (X3O hr) ⟨e,t,l,hole,z,rfl⟩).2 (X3O hk)) hc
theorem X8R(rows:List (Nat×X0L)):X0A [] [] rows=rows:=by
 unfold X0A;rw[YaV,Yb0];intro p _;rfl
theorem X5J(e:Eff)(rows:List (Nat×X0L)):e.rowsOf rows=e.nrow++X0A e.urow e.krow rows:=by
 unfold Eff.rowsOf;split
 . rename_i h1 h2 h3;rw[h1,h2,h3,X8R];rfl
 . rfl
theorem Xc0(upd:List (Nat×X0L))(ks:List Nat)(rows:List (Nat×X0L))(r:Nat):look r (X0A upd ks rows)=if X51 r ks=true then(match look r upd with | some x=>some x | none=>look r rows) else none:=by
 unfold X0A;rw[XiW,X5v];cases look r upd<;>rfl
structure Step (P:Program) (base:World) (σ σ':Sg) (w w':World) (st:St) (upd:List (Nat×X0L)) (ks S:List Nat):Prop where
 sbox:σ'.box=σ.box
 srow:σ'.row=σ.row
 sfoot:∀r,look r upd=none->σ'.foot r=σ.foot r/\σ'.mem r=σ.mem r
 size:w.heap.size<=w'.heap.size
 os:w'.os=w.os
 tape:w'.tape=w.tape
 output:w'.output=w.output
 keep:∀k,k<w.heap.size->k∉S->w'.heap[k]?=w.heap[k]?
 touched:∀g∈S,∃r,X1G r st.rows/\g∈σ.foot r/\(r∈ks\/(look r upd).isSome=true)
 updOk:∀r rv,look r upd=some rv->r∉ks/\X1G r st.rows/\∃e t l ver hole z,rv=.hot e t l ver hole z/\Xd3 P base σ' w' r e t l hole z
 foot:∀r,(look r upd).isSome=true->∀g∈σ'.foot r,g<w'.heap.size/\(w.heap.size<=g\/∃r0,X1G r0 st.rows/\g∈σ.foot r0/\(r0∈ks\/(look r0 upd).isSome=true))
 apart:∀r r',(look r upd).isSome=true->(look r' upd).isSome=true->r≠r'->∀g∈σ'.foot r,g∉σ'.foot r'
theorem Sim.step(h:Sim P base M0 ios σ M w a st){σ':Sg}{w':World}{upd:List (Nat×X0L)}{ks S:List Nat}(hs:Step P base σ σ' w w' st upd ks S)(hv:noVers st upd=true):
 Sim P base M0 ios σ' M w' a {st with rows:=X0A upd ks st.rows}:=by
 have hhot:∀r rv,look r upd=some rv->∃e t l ver hole z,rv=.hot e t l ver hole z:=λr rv hr=>by
  obtain⟨_,_,e,t,l,ver,hole,z,e1,_⟩:=hs.updOk r rv hr;exact⟨e,t,l,ver,hole,z,e1⟩
 have hlook:∀r rv,look r (X0A upd ks st.rows)=some rv->r∉ks/\(look r upd=some rv\/(look r upd=none/\look r st.rows=some rv)):=λr rv hr=>by
  rw[Xc0]at hr;split at hr
  . rename_i hk;refine⟨X59.1 hk,?_⟩;cases hu:look r upd with
    | none=>rw[hu]at hr;exact .inr ⟨rfl,hr⟩
    | some x=>rw[hu]at hr;exact .inl hr
  . cases hr
 have hsome:∀r,(look r (X0A upd ks st.rows)).isSome=true->(look r st.rows).isSome=true:=λr hr=>by
  obtain⟨rv,hrv⟩:=Yao.1 hr;rcases(hlook r rv hrv).2 with h1 | ⟨_,h1⟩
  . obtain⟨_,⟨_,_,_,_,_,_,h2⟩,_⟩:=hs.updOk r rv h1;rw[h2];rfl
  . rw[h1];rfl
 have hcold:∀r e,X8M r (X0A upd ks st.rows)=some e->st.row r=some e:=λr e hr=>by
  obtain⟨rv,h1,h2⟩:=X6w hr;rcases(hlook r rv h1).2 with h3 | ⟨_,h3⟩
  . obtain⟨_,_,_,_,_,_,rfl⟩:=hhot r rv h3;cases h2
  . exact X9T h3 h2
 have hca:Carry σ st.rows M σ' (X0A upd ks st.rows) M (λ_=>True) (Xrf upd):=⟨Mem.le_refl M,λr _ hr=>⟨hsome r hr,by rw[hs.srow]⟩,λr ver rv' _ ho hl hv'=>by
  rcases(hlook r rv' hl).2 with h1 | ⟨h0,h1⟩
  . exact absurd hv' (ho rv' h1)
  . exact⟨rv',h1,hv',by rw[(hs.sfoot r h0).2];exact Mem.le_refl _,.inl rfl⟩⟩
 have hM:∀ad v,M ad=some v->w'.heap[ad.block]?=w.heap[ad.block]?:=λad v hm=>by
  refine hs.keep _ (h.mem_lt hm) λhg=>?_;obtain⟨r,h1,h2,_⟩:=hs.touched _ hg;have:=h.hot.noM r h1 _ h2 ad rfl;rw[this]at hm;cases hm
 exact {
  mem:=λad v hm=>by rw[Xkl (hM ad v hm)];exact h.mem ad v hm
  nt:=h.nt
  slots:=λi=>(h.slots i).carry hca (Xtz hhot hv i) (λk _=>⟨by rw[hs.sbox],id⟩)
  boxes:=λk cs hk=>by
   obtain⟨arr,E,h1,h2⟩:=h.boxes k cs hk;refine⟨arr,E,?_,Xcm hca h2 (Xjs hhot hv hk)⟩;rw[hs.sbox,hs.keep _ (YaO.1 h1).1 λhg=>?_]
   . exact h1
   . obtain⟨r,k1,k2,_⟩:=hs.touched _ hg;exact h.hot.noBox r k1 k (by have hk':st.box k=some cs:=hk;rw[hk'];rfl) k2
  boxM:=λk hk ad had=>h.boxM k hk ad (by rw[had,hs.sbox])
  boxInj:=λk k' h1 h2 he=>h.boxInj k k' h1 h2 (by rw[hs.sbox]at he;exact he)
  boxBase:=λk hk=>by rw[hs.sbox];exact h.boxBase k hk
  rows:=λr e hr=>by
   have hr':=hcold r e hr;obtain⟨n,xs,i,hi,ho,hm⟩:=(h.rows r e hr').own;rw[hs.srow];refine⟨⟨n,xs,i,hi,ho.at λg hg=>?_,hm⟩⟩;refine hs.keep g (ho.lt g hg).2 λhgs=>?_;obtain⟨r0,k1,k2,_⟩:=hs.touched _ hgs;exact h.hot.noRow r0 k1 r (by rw[hr'];rfl) g hg k2
  rowBox:=λr k hr hk=>by
   obtain⟨e,he⟩:=Yao.1 hr;rw[hs.srow,hs.sbox];exact h.rowBox r k (by rw[hcold r e he];rfl) hk
  rowInj:=λr r' h1 h2 hne=>by
   obtain⟨e,he⟩:=Yao.1 h1;obtain⟨e',he'⟩:=Yao.1 h2;rw[hs.srow];exact h.rowInj r r' (by rw[hcold r e he];rfl) (by rw[hcold r' e' he'];rfl) hne
  hot:=by
   have cases':∀r,X1G r (X0A upd ks st.rows)->r∉ks/\((look r upd).isSome=true\/(look r upd=none/\X1G r st.rows/\σ'.foot r=σ.foot r/\σ'.mem r=σ.mem r)):=λr ⟨e,t,l,ver,hole,z,hl⟩=>by
    obtain⟨h0,h1⟩:=hlook r _ hl;refine⟨h0,?_⟩;rcases h1 with h1 | ⟨h1,h2⟩
    . exact .inl (by rw[h1];rfl)
    . exact .inr ⟨h1,⟨e,t,l,ver,hole,z,h2⟩,hs.sfoot r h1⟩
   have from':∀r,X1G r (X0A upd ks st.rows)->∀g∈σ'.foot r,g<w'.heap.size/\(w.heap.size<=g\/∃r0,X1G r0 st.rows/\g∈σ.foot r0/\(r0=r\/r0∈ks\/(look r0 upd).isSome=true)):=λr hr g hg=>by
    rcases(cases' r hr).2 with h1 | ⟨_,h1,h2,_⟩
    . obtain⟨k1,k2⟩:=hs.foot r h1 g hg;refine⟨k1,k2.imp id λ⟨r0,m1,m2,m3⟩=>⟨r0,m1,m2,.inr m3⟩⟩
    . rw[h2]at hg;exact⟨Ybe (h.hot.lt r h1 g hg) hs.size,.inr ⟨r,h1,hg,.inl rfl⟩⟩
   exact {
    ok:=λr e t l ver hole z hl=>by
     obtain⟨h0,h1⟩:=hlook r _ hl;rcases h1 with h1 | ⟨h1,h2⟩
     . obtain⟨_,_,e',t',l',ver',hole',z',he,hok⟩:=hs.updOk r _ h1;cases he;exact hok
     . obtain⟨k1,k2⟩:=hs.sfoot r h1;refine(h.hot.ok r e t l ver hole z h2).frame (by rw[hs.srow]) k1 k2 λg hg=>?_;refine hs.keep g (h.hot.lt r ⟨e,t,l,ver,hole,z,h2⟩ g hg) λhgs=>?_;obtain⟨r0,m1,m2,m3⟩:=hs.touched g hgs;refine h.hot.apart r r0 ⟨e,t,l,ver,hole,z,h2⟩ m1 (λe2=>?_) g hg m2;subst e2;rcases m3 with m3 | m3
       . exact h0 m3
       . rw[h1]at m3;cases m3
    base:=λr hr g hg=>by
     obtain⟨_,h1⟩:=from' r hr g hg;rcases h1 with h1 | ⟨r0,m1,m2,_⟩
     . exact .inl (YaW h.fr.size h1)
     . exact h.hot.base r0 m1 g m2
    noM:=λr hr g hg ad had=>by
     obtain⟨_,h1⟩:=from' r hr g hg;rcases h1 with h1 | ⟨r0,m1,m2,_⟩
     . cases hm:M ad with
       | none=>rfl
       | some v=>have:=h.mem_lt hm;omega
     . exact h.hot.noM r0 m1 g m2 ad had
    noBox:=λr hr k hk hg=>by
     rw[hs.sbox]at hg;obtain⟨_,h1⟩:=from' r hr _ hg;rcases h1 with h1 | ⟨r0,m1,m2,_⟩
     . have:=h.box_lt hk;omega
     . exact h.hot.noBox r0 m1 k hk m2
    noRow:=λr hr r' hr' g hg hgr=>by
     obtain⟨e,he⟩:=Yao.1 hr';have hr2:=hcold r' e he;rw[hs.srow]at hg;obtain⟨_,h1⟩:=from' r hr g hgr;rcases h1 with h1 | ⟨r0,m1,m2,_⟩
     . have:=(h.row_lt (by rw[hr2];rfl) hg).2;omega
     . exact h.hot.noRow r0 m1 r' (by rw[hr2];rfl) g hg m2
    apart:=λr r' h1 h2 hne g hg hg'=>by
     obtain⟨n1,c1⟩:=cases' r h1;obtain⟨n2,c2⟩:=cases' r' h2;rcases c1 with c1 | ⟨u1,c1,f1,_⟩<;>rcases c2 with c2 | ⟨u2,c2,f2,_⟩
     . exact hs.apart r r' c1 c2 hne g hg hg'
     . rw[f2]at hg';rcases(hs.foot r c1 g hg).2 with h3 | ⟨r0,m1,m2,m3⟩
       . have:=h.hot.lt r' c2 g hg';omega
       . refine h.hot.apart r0 r' m1 c2 (λe=>?_) g m2 hg';subst e;rcases m3 with m3 | m3
         . exact n2 m3
         . rw[u2]at m3;cases m3
     . rw[f1]at hg;rcases(hs.foot r' c2 g hg').2 with h3 | ⟨r0,m1,m2,m3⟩
       . have:=h.hot.lt r c1 g hg;omega
       . refine h.hot.apart r0 r m1 c1 (λe=>?_) g m2 hg;subst e;rcases m3 with m3 | m3
         . exact n1 m3
         . rw[u1]at m3;cases m3
     . rw[f1]at hg;rw[f2]at hg';exact h.hot.apart r r' c1 c2 hne g hg hg'
    lt:=λr hr g hg=>(from' r hr g hg).1
    frz:=λr e t l ver z hl=>by
     rcases(hlook r _ hl).2 with h1 | ⟨h0,h1⟩
     . obtain⟨_,_,_,_,_,_,e1⟩:=hhot r _ h1;cases e1
     . rw[hs.srow,(hs.sfoot r h0).2];exact h.hot.frz r e t l ver z h1}
  fr:=by
   refine⟨hs.os.trans h.fr.os,hs.tape.trans h.fr.tape,hs.output.trans h.fr.output,YaW h.fr.size hs.size,λk hk hn=>?_⟩;rw[hs.keep k (Ybe hk h.fr.size) λhg=>?_]
   . exact h.fr.block k hk hn
   . obtain⟨r,k1,k2,_⟩:=hs.touched k hg;rcases h.hot.base r k1 k k2 with h2 | h2
     . omega
     . exact hn h2
  defers:=h.defers
  old:=h.old
  le:=h.le
  pin:=λb hb=>by rw[hs.sbox];exact h.pin b hb
  pins:=λp hp hsm=>by rw[hs.srow];exact h.pins p hp (hsome _ hsm)
  olds:=h.olds}
theorem Sim.kill(h:Sim P base M0 ios σ M w a st)(ks:List Nat):Sim P base M0 ios σ M w a {st with rows:=X0A [] ks st.rows}:=
 h.step (upd:=[]) (S:=[]) {sbox:=rfl,srow:=rfl,sfoot:=λ_ _=>⟨rfl,rfl⟩,size:=YaC _,os:=rfl,tape:=rfl,output:=rfl,keep:=λ_ _ _=>rfl,touched:=λg hg=>(by cases hg),updOk:=λr rv hr=>(by cases hr),foot:=λr hr=>(by cases hr),apart:=λr r' hr=>(by cases hr)} rfl
structure XmA (base:World) (ios:Ios) (σ:Sg) (M:Mem) (w:World) (st:St) (g:Nat):Prop where
 base:base.heap.size<=g\/g∈ios.blk
 noM:∀ad,ad.block=g->M ad=none
 noBox:∀k,(st.box k).isSome=true->σ.box k≠g
 noRow:∀r,(st.row r).isSome=true->(σ.row r).ownBlock≠some g
 noHot:∀r,X1G r st.rows->g∉σ.foot r
 lt:g<w.heap.size
theorem Sim.newHotP(h:Sim P base M0 ios σ M w a st){r:Nat}{e:TypeId}{t:Ty}{l:List (El t)}{hole:Option (Nat×Nat)}{z:Bool}{v:Value}{fo:List Nat}{m:Mem}(hn:noTag r st=true)(hp:∀q∈ios.rows,q.1=r->v=q.2)(hf:∀g∈fo,XmA base ios σ M w st g)(hok:Xd3 P base {σ with row:=λk=>if k=r then v else σ.row k,foot:=λk=>if k=r then fo else σ.foot k,mem:=λk=>if k=r then m else σ.mem k} w r e t l hole z):
 Sim P base M0 ios {σ with row:=λk=>if k=r then v else σ.row k,foot:=λk=>if k=r then fo else σ.foot k,mem:=λk=>if k=r then m else σ.mem k} M w a {st with rows:=(r,.hot e t l 0 hole z)::st.rows}:=by
 have hc:Carry σ st.rows M {σ with row:=λk=>if k=r then v else σ.row k,foot:=λk=>if k=r then fo else σ.foot k,mem:=λk=>if k=r then m else σ.mem k} ((r,.hot e t l 0 hole z)::st.rows) M (λr'=>r'≠r) (λ_ _=>True):=
  ⟨Mem.le_refl M,λr' hne hs=>by
    rw[X08,Yae (YaK hne)]at hs;exact⟨hs,by simp[hne]⟩,λr' ver rv' hne _ hl hv=>by
    rw[X08,Yae (YaK hne)]at hl;exact⟨rv',hl,hv,by simp only[Yae hne];exact Mem.le_refl _,.inl rfl⟩⟩
 have hrow:∀r',({st with rows:=(r,.hot e t l 0 hole z)::st.rows}:St).row r'=if r=r' then none else st.row r':=λr'=>by
  simp only[St.row,X8M,X08];by_cases he:r=r'
  . simp[he,X0L.cold?]
  . simp only[Yae he]
 have hcold:∀r',(({st with rows:=(r,.hot e t l 0 hole z)::st.rows}:St).row r').isSome=true->r'≠r/\(st.row r').isSome=true:=λr' hr'=>by
  rw[hrow]at hr';by_cases he:r=r'
  . simp[he]at hr'
  . rw[Yae he]at hr';exact⟨YaK he,hr'⟩
 exact {
  mem:=h.mem
  nt:=h.nt
  slots:=λi=>(h.slots i).carry hc (Xli hn i) (λk _=>⟨rfl,id⟩)
  boxes:=λk cs hk=>by
   obtain⟨arr,E,h1,h2⟩:=h.boxes k cs hk;exact⟨arr,E,h1,Xcm hc h2 (XnZ hn hk)⟩
  boxM:=h.boxM
  boxInj:=h.boxInj
  boxBase:=h.boxBase
  rows:=λr' e' hr'=>by
   obtain⟨h1,h2⟩:=hcold r' (by rw[hr'];rfl);rw[hrow,Yae (YaK h1)]at hr';simp only[Yae h1];exact h.rows r' e' hr'
  rowBox:=λr' k hr' hk=>by
   obtain⟨h1,h2⟩:=hcold r' hr';simp only[Yae h1];exact h.rowBox r' k h2 hk
  rowInj:=λr1 r2 h1 h2 hne=>by
   obtain⟨k1,k2⟩:=hcold r1 h1;obtain⟨m1,m2⟩:=hcold r2 h2;simp only[Yae k1,Yae m1];exact h.rowInj r1 r2 k2 m2 hne
  hot:=by
   exact {
    ok:=λr' e' t' l' ver' hole' z' hl=>by
     rw[X08]at hl;split at hl
     . rename_i he;subst he;cases hl;exact hok
     . rename_i he;refine(h.hot.ok r' _ _ _ _ _ _ hl).frame ?_ ?_ ?_ (λ_ _=>rfl)<;>simp[YaK he]
    base:=λr' hr' g hg=>by
     rcases X5V hr' with⟨rfl,_⟩ | ⟨h1,h2⟩
     . simp only[Yah]at hg;exact(hf g hg).base
     . simp only[Yae h1]at hg;exact h.hot.base r' h2 g hg
    noM:=λr' hr' g hg=>by
     rcases X5V hr' with⟨rfl,_⟩ | ⟨h1,h2⟩
     . simp only[Yah]at hg;exact(hf g hg).noM
     . simp only[Yae h1]at hg;exact h.hot.noM r' h2 g hg
    noBox:=λr' hr' k hk hg=>by
     rcases X5V hr' with⟨rfl,_⟩ | ⟨h1,h2⟩
     . simp only[Yah]at hg;exact(hf _ hg).noBox k hk rfl
     . simp only[Yae h1]at hg;exact h.hot.noBox r' h2 k hk hg
    noRow:=λr' hr' r2 hr2 g hg hgf=>by
     obtain⟨k1,k2⟩:=hcold r2 hr2;simp only[Yae k1]at hg;rcases X5V hr' with⟨rfl,_⟩ | ⟨h1,h2⟩
     . simp only[Yah]at hgf;exact(hf g hgf).noRow r2 k2 hg
     . simp only[Yae h1]at hgf;exact h.hot.noRow r' h2 r2 k2 g hg hgf
    apart:=λr1 r2 h1 h2 hne g hg hg'=>by
     rcases X5V h1 with⟨rfl,_⟩ | ⟨k1,k2⟩<;>rcases X5V h2 with⟨rfl,_⟩ | ⟨m1,m2⟩
     . exact hne rfl
     . simp only[Yah]at hg;simp only[Yae m1]at hg';exact(hf g hg).noHot r2 m2 hg'
     . simp only[Yah]at hg';simp only[Yae k1]at hg;exact(hf g hg').noHot r1 k2 hg
     . simp only[Yae k1]at hg;simp only[Yae m1]at hg';exact h.hot.apart r1 r2 k2 m2 hne g hg hg'
    lt:=λr' hr' g hg=>by
     rcases X5V hr' with⟨rfl,_⟩ | ⟨h1,h2⟩
     . simp only[Yah]at hg;exact(hf g hg).lt
     . simp only[Yae h1]at hg;exact h.hot.lt r' h2 g hg
    frz:=λr' e' t' l' ver' z' hl=>by
     rw[X08]at hl;split at hl
     . cases hl
     . rename_i he;simp only[Yae (YaK he)];exact h.hot.frz r' _ _ _ _ _ hl}
  fr:=h.fr
  defers:=h.defers
  old:=h.old
  le:=h.le
  pin:=h.pin
  pins:=λp hp' hs=>by
   by_cases this:p.1=r
   . simp only[Yah this];exact hp p hp' this
   . rw[X08,Yae (YaK this)]at hs;simp only[Yae this];exact h.pins p hp' hs
  olds:=h.olds}
theorem Sim.newHot(h:Sim P base M0 ios σ M w a st){r:Nat}{e:TypeId}{t:Ty}{l:List (El t)}{hole:Option (Nat×Nat)}{z:Bool}{v:Value}{fo:List Nat}{m:Mem}(hn:noTag r st=true)(hp:r % 2=1)(hf:∀g∈fo,XmA base ios σ M w st g)(hok:Xd3 P base {σ with row:=λk=>if k=r then v else σ.row k,foot:=λk=>if k=r then fo else σ.foot k,mem:=λk=>if k=r then m else σ.mem k} w r e t l hole z):
 Sim P base M0 ios {σ with row:=λk=>if k=r then v else σ.row k,foot:=λk=>if k=r then fo else σ.foot k,mem:=λk=>if k=r then m else σ.mem k} M w a {st with rows:=(r,.hot e t l 0 hole z)::st.rows}:=h.newHotP hn (λq hq e=>absurd (ios.even q hq) (by rw[e];omega)) hf hok
end
section
variable {P:Program} {base:World} {M0:Mem} {ios:Ios} {σ:Sg} {M:Mem} {w:World} {a:Act} {st:St}
theorem RdC.cells{τ:Ty}{l:List (El τ)}{v:Value}(h:RdC M (.list τ) [v] l):
 ∃ad cap css,v=.slice ad l.length cap/\l.length<=cap/\cap<=maxLen/\X27 (RdC M τ) css l/\(l=[]\/∃a,ad=some a/\∀j u,css.flatten[j]?=some u->M (a.add j)=some u):=by
 obtain⟨ad,cap,e,hl,hm,hc⟩:=h;cases e;have key:∀(n:Nat) (hn:n<=l.length),∃css,X27 (RdC M τ) css (l.take n)/\(n=0\/∃a,ad=some a/\∀j u,css.flatten[j]?=some u->M (a.add j)=some u)/\css.flatten.length=n*size τ:=by
  intro n
  induction n with
  | zero=>intro _;exact⟨[],by simp;exact .nil,.inl rfl,by simp⟩
  | succ n ih=>
    intro hn;obtain⟨css,h1,h2,h3⟩:=ih (by omega);obtain⟨a,vs,ea,ev,em,er⟩:=hc n (by omega);refine⟨css++[vs],?_,.inr ⟨a,ea,?_⟩,?_⟩
    . rw[Yb6 (by omega)];exact h1.append (.cons er .nil)
    . intro j u hu;rw[Yde]at hu;by_cases hj:j<css.flatten.length
      . rw[YbR hj]at hu;rcases h2 with h0 | ⟨a',ea',h2⟩
        . subst h0;rw[h3]at hj;omega
        . rw[ea]at ea';cases ea';exact h2 j u hu
      . rw[Ybb (by omega)]at hu;simp only[Ybs,List.flatten_nil,Ybd]at hu;have:=em (j - css.flatten.length) u hu;rw[h3]at this hj;rw[show n*size τ+(j - n*size τ)=j by omega]at this;exact this
    . rw[Yde,Yab,h3];simp[ev,Ya0]
 obtain⟨css,h1,h2,_⟩:=key l.length (YaC _);rw[Yat]at h1;refine⟨ad,cap,css,rfl,hl,hm,h1,?_⟩;rcases h2 with h0 | h2
 . exact .inl (Ybt h0)
 . exact .inr h2
theorem X27.flatLen{τ:Ty}:∀{css:List (List Value)} {l:List (El τ)},X27 (RdC M τ) css l->css.flatten.length=l.length*size τ
 | _,_,.nil=>by simp
 | _,_,.cons (a:=c) (b:=x) h hr=>by
   have:=X27.flatLen hr;simp only[Ybs,Yab,Yad,this,RdC.length τ _ _ h,Ya0];omega
theorem X27.flatOne{τ:Ty}:∀{css:List (List Value)} {l:List (El τ)},X27 (RdC M τ) css l->∀u∈css.flatten,u.oneCell'=true
 | _,_,.nil=>by simp
 | _,_,.cons (a:=c) (b:=x) h hr=>by
   intro u hu;rw[Ybs,Yaf]at hu;rcases hu with hu | hu
   . exact RdC.oneCell τ _ _ h u hu
   . exact X27.flatOne hr u hu
theorem RdC.ofCells{τ:Ty}{css:List (List Value)}{l:List (El τ)}(h:X27 (RdC M τ) css l){a:Addr}{cap:Nat}(hl:l.length<=cap)(hm:cap<=maxLen)(hc:∀j u,css.flatten[j]?=some u->M (a.add j)=some u):RdC M (.list τ) [.slice (some a) l.length cap] l:=by
 refine⟨some a,cap,rfl,hl,hm,?_⟩;have key:∀(css:List (List Value)) (l:List (El τ)),X27 (RdC M τ) css l->∀i (hi:i<l.length),∃vs,css[i]?=some vs/\vs.length=size τ/\RdC M τ vs (l[i]'hi)/\∀j u,vs[j]?=some u->css.flatten[i*size τ+j]?=some u:=by
  intro css l h
  induction h with
  | nil=>intro i hi;simp at hi
  | @cons c x cs ls hx hr ih=>
    intro i hi;have hcl:=RdC.length τ _ _ hx;cases i with
    | zero=>
      refine⟨c,by simp,hcl,by simpa using hx,?_⟩;intro j u hu;rw[Ybs,Nat.zero_mul,YaU,YbR (Ya3.1 hu).1];exact hu
    | succ i=>
      obtain⟨vs,h1,h2,h3,h4⟩:=ih i (by simp at hi;omega);refine⟨vs,by simpa using h1,h2,by simpa using h3,?_⟩;intro j u hu;rw[Ybs,Ybb (by rw[hcl,Ya0];omega),hcl];rw[show(i+1)*size τ+j - size τ=i*size τ+j by rw[Ya0];omega];exact h4 j u hu
 intro i hi;obtain⟨vs,_,h2,h3,h4⟩:=key css l h i hi;exact⟨a,vs,rfl,h2,λj u hu=>hc _ u (h4 j u hu),h3⟩
theorem RdC.nilSlice(M:Mem)(τ:Ty):RdC M (.list τ) [.slice none 0 0] []:=⟨none,0,rfl,by simp,by simp,λi hi=>by simp at hi⟩
theorem XjQ(B:Nat->Prop)(t ty e:TypeId)(i:TypeInfo)(z:Value)(ht:P.underlying t=some (.slice e))(hi:P.info? e=some i)(hz:i.zero=some z)(hzs:z.cells.size=i.size)(hsz:0<i.size)(v:Value)(n:Nat)(xs:List Value)(hown:X74 w B i.size v n xs)(a:Addr)(m c:Nat)(news:List Value)(hl:news.length=m*i.size)(hnews:∀j u,news[j]?=some u->w.cell? (a.add j)=some u)(h1:∀u∈news,u.oneCell'=true)(h63:n+m<=maxLen)(hbytes:(n+m)*i.bytes<=140737488355328)(hbase:∀g,w.heap.size<=g->B g):
 ∃v' w',(Builtin.append_ #[t,t] ty #[v,.slice (some a) m c]).run P w=.ok v' w'/\X74 w' B i.size v' (n+m) (xs++news)/\w.grownBy w' v.ownBlock/\
  (∀ad u,w.cell? ad=some u->(v.ownBlock=some ad.block->ad.off<Xo7 v+n*i.size)->w'.cell? ad=some u)/\
  ((v'.ownBlock=v.ownBlock/\Xo7 v'=Xo7 v)\/∃g,v'.ownBlock=some g/\w.heap.size<=g):=by
 have hsmall:n+m<=9223372036854775807:=by simp only[maxLen]at h63;omega
 have hlen:(xs++news).length=(n+m)*i.size:=by rw[Yab,hown.1,hl,Ya0]
 have grown:∀(old:Nat),old<n+m->∀(row:Option Nat),
  X74 (w.drew.alloc (.cells (xs.toArray++news.toArray++Builtin.zeroCells z.cells (grownCap w (n+m) old e - (n+m))) e)) B i.size
   (.slice (some ⟨w.heap.size,0,none⟩) (n+m) (grownCap w (n+m) old e)) (n+m) (xs++news)/\
  w.grownBy (w.drew.alloc (.cells (xs.toArray++news.toArray++Builtin.zeroCells z.cells (grownCap w (n+m) old e - (n+m))) e)) row/\
  (∀ad u,w.cell? ad=some u->(w.drew.alloc (.cells (xs.toArray++news.toArray++Builtin.zeroCells z.cells (grownCap w (n+m) old e - (n+m))) e)).cell? ad=some u):=by
  intro old ho row;have hge:=grownCap_ge w (n+m) old e;have hcm:grownCap w (n+m) old e<=maxLen:=grownCap_le_maxLen w (n+m) old e h63;refine⟨⟨hlen,.inr ⟨w.heap.size,0,_,_,e,rfl,hbase _ (YaC _),heap_alloc_new w.drew _,hge,hcm,?_,?_⟩⟩,⟨rfl,rfl,rfl,by simp,λk hk _=>heap_alloc_old w.drew _ hk⟩,?_⟩
  . rw[YaU];refine Nat.le_of_eq ?_;simp only[YcP,YbI,size_zeroCells,hzs,hown.1,hl,<-Ya0]
    congr 1
    omega
  . simp only[YbZ,Yam,YbK];rw[<-Yam,<-hlen];exact Ybl
  . intro ad u hu;have hlt:=World.block_lt_of_cell? w ad hu;rw[XdY (w:=w.drew) hlt];exact hu
 rcases hown.2 with⟨rfl,rfl⟩ | ⟨g,o,cap,cur,E,rfl,hbg,hg,hnc,hcm,hcs,htake⟩
 . have hx:xs=[]:=Ybt (by simpa using hown.1);subst hx;by_cases hm:m=0
   . subst hm;have hn:news=[]:=Ybt (by simpa using hl);subst hn;refine⟨.slice none 0 0,w,?_,X74.nil w B i.size,⟨rfl,rfl,rfl,YaC _,λ_ _ _=>rfl⟩,λad u hu _=>hu,.inl ⟨rfl,rfl⟩⟩;simp[Builtin.append_,run_underlying ht,sizeOf,typeInfo,hi,Builtin.lenOf,Builtin.firstCells,loadCells,loadCellsFrom]
   . have hr:=run_append_nil (P:=P) w t ty e i z ht hi hz a m c news hl hnews (by omega) (by omega) (by have hb:=hbytes;simp only[YaU]at hb;omega);have hgr:=grown 0 (by omega) (Value.ownBlock (.slice none 0 0));simp only[YaU,YaV,Array.empty_append]at hgr ⊢;exact⟨_,_,hr,hgr.1,hgr.2.1,λad u hu _=>hgr.2.2 ad u hu,.inr ⟨_,rfl,YaC _⟩⟩
 . have hnm:n*i.size<=cap*i.size:=YaY _ hnc;by_cases hroom:n+m<=cap
   . have hfit:o+n*i.size+news.length<=cur.size:=by
      have:(n+m)*i.size<=cap*i.size:=YaY _ hroom;rw[Ya0]at this;rw[hl];omega
     have hr:=Xdy (P:=P) (w:=w) t ty e E i ht hi g o n cap cur hg a m c news hl hnews h1 hroom hfit;have hdl:(cur.toList.take (o+n*i.size)).length=o+n*i.size:=by rw[Yal,Yaq];omega
     refine⟨_,_,hr,⟨hlen,.inr ⟨g,o,cap,_,E,rfl,hbg,setRow_heap w g cur _ E _ hg,hroom,hcm,?_,?_⟩⟩,⟨rfl,rfl,rfl,by simp,λk _ hk=>setRow_other w g k _ (λe=>hk (by simp[Value.ownBlock,e]))⟩,?_,.inl ⟨rfl,rfl⟩⟩
     . simp only[YbI,Yab,Yal,Yap,Yaq];omega
     . have e1:(cur.toList.take (o+n*i.size)).drop o=xs:=by
        rw[<-htake,YbQ];congr 1;omega
       show List.take ((n+m)*i.size) (List.drop o (cur.toList.take (o+n*i.size)++news++cur.toList.drop (o+n*i.size+news.length)))=xs++news;rw[Yam,YbT (by rw[hdl];omega),e1,<-Yam,<-hlen];exact Ybl
     . intro ad u hu hoff;by_cases hb:ad.block=g
       . have ho:=hoff (by simp[Value.ownBlock,hb]);obtain⟨bl,off,spot⟩:=ad;simp only at hb ho;subst hb;simp only[World.cell?,hg]at hu;simp only[World.cell?,setRow_heap w bl cur _ E _ hg];split at hu
         . cases hu
         . rename_i hsp;rw[Yae hsp];have ho':off<o+n*i.size:=ho;rw[Ycw,Yam,YbR (by rw[hdl];exact ho'),YaE,Yah ho'];simpa using hu
       . rw[World.cell?_of_block (setRow_other w g ad.block _ hb)];exact hu
   . have holds:∀j u,xs[j]?=some u->w.cell? ((⟨g,o,none⟩:Addr).add j)=some u:=hown.cells (g:=g) rfl;have hr:=run_append_grow (P:=P) w t ty e i z ht hi hz ⟨g,o,none⟩ n cap xs hown.1 holds a m c news hl hnews (by omega) (by omega) (growslice_fits (by omega) hbytes);have hgr:=grown cap (by omega) (Value.ownBlock (.slice (some ⟨g,o,none⟩) n cap));exact⟨_,_,hr,hgr.1,hgr.2.1,λad u hu _=>hgr.2.2 ad u hu,.inr ⟨_,rfl,YaC _⟩⟩
theorem XbW(t ty e:TypeId)(i:TypeInfo)(ht:P.underlying t=some (.slice e))(hi:P.info? e=some i)(ad:Option Addr)(n cap c:Nat)(hn:n<=cap)(ady:Option Addr):(Builtin.append_ #[t,t] ty #[.slice ad n cap,.slice ady 0 c]).run P w=.ok (.slice ad n cap) w:=by
 have hf:(Builtin.firstCells i.size 0 (.slice ady 0 c)).run P w=.ok #[] w:=by
  cases ady<;>simp[Builtin.firstCells,loadCells,loadCellsFrom]
 cases ad<;>simp[Builtin.append_,run_underlying ht,sizeOf,typeInfo,hi,Builtin.lenOf,hn,hf,storeCells]
theorem Sim.grown(h:Sim P base M0 ios σ M w a st){w':World}{row:Option Nat}(hg:w.grownBy w' row)(hM:∀ad v,M ad=some v->w'.cell? ad=some v)(hb:∀k,(st.box k).isSome=true->row≠some (σ.box k))(hr:∀r,(st.row r).isSome=true->(σ.row r).ownBlock=none\/(σ.row r).ownBlock≠row)(hbase:∀k,row=some k->Xrd base ios k)(hh:∀r,X1G r st.rows->∀g,row=some g->g∉σ.foot r):Sim P base M0 ios σ M w' a st where
 mem:=hM
 nt:=h.nt
 slots:=h.slots
 boxes:=λk cs hk=>by
  obtain⟨arr,E,h1,h2⟩:=h.boxes k cs hk;refine⟨arr,E,?_,h2⟩;rw[hg.block (σ.box k) (YaO.1 h1).1 (λe=>hb k (by rw[hk];rfl) e.symm)];exact h1
 boxM:=h.boxM
 boxInj:=h.boxInj
 boxBase:=h.boxBase
 rows:=λr e he=>by
  obtain⟨n,xs,i,hi,ho,hm'⟩:=(h.rows r e he).own;exact⟨⟨n,xs,i,hi,ho.kept hg (hr r (by rw[he];rfl)),hm'⟩⟩
 rowBox:=h.rowBox
 rowInj:=h.rowInj
 hot:=h.hot.keep hg.size (Mem.le_refl M) (λr rv v hl _=>⟨hl,rfl,rfl,rfl⟩) (λr hr g hgf=>hg.block g (h.hot.lt r hr g hgf) (λe=>hh r hr g e.symm hgf)) h.hot.noM h.hot.noBox h.hot.noRow
 fr:=h.fr.of_grown hg hbase
 defers:=h.defers
 old:=h.old
 le:=h.le
 pin:=h.pin
 pins:=h.pins
 olds:=h.olds
theorem Sim.storeBox(h:Sim P base M0 ios σ M w a st){k:Nat}{cs ds:List X02}{arr arr':Array Value}{E:TypeId}(hk:st.box k=some cs)(ha:w.heap[σ.box k]?=some (.cells arr E (0,0)))(hd:X27 (RdT σ st.rows M) arr'.toList ds):
 Sim P base M0 ios σ M (w.setRow (σ.box k) arr') a {st with boxes:=(k,ds)::st.boxes} where
 mem:=λad v hv=>by
  have hne:ad.block≠σ.box k:=λe=>by have:=h.boxM k (by rw[hk];rfl) ad e;rw[this]at hv;cases hv
  rw[World.cell?_of_block (setRow_other w (σ.box k) ad.block _ hne)];exact h.mem ad v hv
 nt:=h.nt
 slots:=λi=>by
  show X44 σ st.rows ((k,ds)::st.boxes) M _ (st.get i);refine X44.carry (boxes:=st.boxes) (Carry.same σ st.rows (Mem.le_refl M)) (h.slots i) (Xed _) ?_
  . intro k' _;refine⟨rfl,λhs=>?_⟩;rw[X08];split
    . rfl
    . exact hs
 boxes:=λk' cs' hk'=>by
  simp only[St.box,X08]at hk';by_cases he:k=k'
  . subst he;rw[Yah rfl]at hk';cases hk';exact⟨arr',E,setRow_heap w _ arr arr' E _ ha,hd⟩
  . rw[Yae he]at hk';obtain⟨arr2,E2,h1,h2⟩:=h.boxes k' cs' hk';refine⟨arr2,E2,?_,h2⟩;rw[setRow_other]
    . exact h1
    . intro e;exact he (h.boxInj k k' (by rw[hk];rfl) (by show(look k' st.boxes).isSome=true;rw[hk'];rfl) e.symm)
 boxM:=λk' hs=>h.boxM k' (by
  simp only[St.box,X08]at hs;by_cases he:k=k'
  . subst he;rw[hk];rfl
  . rw[Yae he]at hs;exact hs)
 boxInj:=λk1 k2 h1 h2=>h.boxInj k1 k2 (by
  simp only[St.box,X08]at h1;by_cases he:k=k1
  . subst he;rw[hk];rfl
  . rw[Yae he]at h1;exact h1) (by
  simp only[St.box,X08]at h2;by_cases he:k=k2
  . subst he;rw[hk];rfl
  . rw[Yae he]at h2;exact h2)
 boxBase:=λk1 h1=>h.boxBase k1 (by
  simp only[St.box,X08]at h1;by_cases he:k=k1
  . subst he;rw[hk];rfl
  . rw[Yae he]at h1;exact h1)
 rows:=λr e he=>by
  obtain⟨n,xs,i,hi,ho,hm'⟩:=(h.rows r e he).own;refine⟨⟨n,xs,i,hi,?_,hm'⟩⟩;have hg:w.grownBy (w.setRow (σ.box k) arr') (some (σ.box k)):=⟨rfl,rfl,rfl,by simp,λj _ hj=>setRow_other w _ j _ (λe=>hj (by rw[e]))⟩
  exact ho.kept hg (.inr (h.rowBox r k (by show(st.row r).isSome=true;have h0:st.row r=some e:=he;rw[h0];rfl) (by rw[hk];rfl)))
 rowBox:=λr k1 hr h1=>h.rowBox r k1 hr (by
  simp only[St.box,X08]at h1;by_cases he:k=k1
  . subst he;rw[hk];rfl
  . rw[Yae he]at h1;exact h1)
 rowInj:=h.rowInj
 hot:=by
  refine h.hot.keep (by simp) (Mem.le_refl M) (λr rv v hl _=>⟨hl,rfl,rfl,rfl⟩) (λr hr g hg=>setRow_other w _ g _ (λe=>by subst e;exact h.hot.noBox r hr k (by rw[hk];rfl) hg)) h.hot.noM (λr hr k1 h1=>h.hot.noBox r hr k1 (by
   simp only[St.box,X08]at h1;by_cases he:k=k1
   . subst he;rw[hk];rfl
   . rw[Yae he]at h1;exact h1)) h.hot.noRow
 fr:=by
  have h2:Fr ios.blk w (w.setRow (σ.box k) arr')\/True:=.inr trivial;refine⟨h.fr.os,h.fr.tape,h.fr.output,?_,?_⟩
  . simpa using h.fr.size
  . intro j hj hn;have hb:=h.boxBase k (by rw[hk];rfl)
    rw [setRow_other w _ j _ (fun e=>by subst e;rcases hb with hb | hb;· omega
                                        . exact hn hb)]
    exact h.fr.block j hj hn
 defers:=h.defers
 old:=h.old
 le:=h.le
 pin:=h.pin
 pins:=h.pins
 olds:=h.olds
def Mem.plus(M N:Mem):Mem:=λad=>match M ad with
 | some v=>some v
 | none=>N ad
theorem Mem.le_plus(M N:Mem):M.le (M.plus N):=λad v h=>by simp[Mem.plus,h]
theorem Mem.plus_right{M N:Mem}(h:∀ad v u,M ad=some v->N ad=some u->v=u):N.le (M.plus N):=λad v hv=>by
 unfold Mem.plus;cases hm:M ad with
 | none=>exact hv
 | some u=>rw[h ad u v hm hv]
theorem Mem.plus_none{M N:Mem}{ad:Addr}(h1:M ad=none)(h2:N ad=none):M.plus N ad=none:=by simp[Mem.plus,h1,h2]
theorem Mem.plus_cases{M N:Mem}{ad:Addr}{v:Value}(h:M.plus N ad=some v):M ad=some v\/N ad=some v:=by
 unfold Mem.plus at h;cases hm:M ad with
 | none=>rw[hm]at h;exact .inr h
 | some u=>rw[hm]at h;exact .inl h
theorem X4Q.rdTop{t:Ty}{v:Value}{l:List (El t)}{bs:List Nat}(h:X4Q w t v l bs)(hnd:bs.Nodup){N:Mem}(hN:∀ad u,ad.block∈bs->Xql t v ad->w.cell? ad=some u->N ad=some u):RdC N (.list t) [v] l:=by
 rcases h.cases with⟨ad,rfl,rfl,rfl⟩ | ⟨g,o,cap,arr,e,b1,rfl,rfl,hg,h2,h3,h4,h5⟩
 . exact⟨ad,0,rfl,by simp,by simp,λi hi=>by simp at hi⟩
 . have hgb:=(YaB.1 hnd).1;have hc:=h5.rd (N:=N) λad u hb hu=>hN ad u (by simp[hb]) (λa n c e he=>by
    injection e with e1 e2 e3;injection e1 with e1;subst e1;exact absurd (by rw[<-show ad.block=g from he];exact hb) hgb) hu
   refine⟨some ⟨g,o,none⟩,cap,rfl,h2,h3,λi hi=>?_⟩;have hci:=(hc.drop (i*size t)).take (size t);rw[<-XeO]at hci;have hx:(X0o t (List.drop i l)).take (size t)=flat t (List.get l ⟨i,hi⟩):=by
    rw[YbD hi,X3r,YaZ (by rw[X3k];exact YaC _),Ya1 (by rw[X3k];exact YaC _)];rfl
   rw[hx]at hci;refine⟨_,_,rfl,?_,?_,XiQ t _ _ hci⟩
   . have:=hci.length;rw[this,X3k]
   . intro j u hu;rw[Xdp]at hu;split at hu
     . rename_i hjs;rw[YaE]at hu;split at hu
       . rename_i hlt;rw[X8S];refine hN _ u (by simp) (λa n c e he=>?_) (X5z hg hu);injection e with e1 e2 e3;injection e1 with e1;subst e1;subst e2;show o+(i*size t+j)<o+List.length l*size t;omega
       . cases hu
     . cases hu
theorem Xd3.ownsP{r:Nat}{e:TypeId}{t:Ty}{l:List (El t)}{z:Bool}(h:Xd3 P base σ w r e t l none z){B:Nat->Prop}(hB:∀g,base.heap.size<=g->B g)(hB2:∀g∈σ.foot r,B g)(hz:z=true\/l≠[]):
 ∃n xs,X74 w B (size t) (σ.row r) n xs/\∀g,(σ.row r).ownBlock=some g->g∈σ.foot r:=by
 rcases hz with hz | hl
 . obtain⟨⟨n,xs,ho⟩,hb⟩:=h.z hz;exact⟨n,xs,X74.of ho hB,hb⟩
 . have ho:X4Q w t (σ.row r) l (σ.foot r):=h.own;rcases ho.cases with⟨ad,_,e2,_⟩ | ⟨g,o,cap,arr,E,b1,e1,e2,k1,k2,k3,k4,k5⟩
   . exact absurd e2 hl
   . have hg:∀g',(σ.row r).ownBlock=some g'->g'∈σ.foot r:=λg' hg'=>by
      rw[e1]at hg';have:g=g':=Ybv hg';rw[e2,this];simp
     have hlc:List.length l*size t<=cap*size t:=YaY _ k2;refine⟨List.length l,(arr.toList.drop o).take (List.length l*size t),⟨?_,.inr ⟨g,o,cap,arr,E,e1,hB2 g (by rw[e2];simp),k1,k2,k3,k4,rfl⟩⟩,hg⟩;have ha:arr.toList.length=arr.size:=Yaq;simp only[Yal,Yap];omega
theorem Sim.freezeZ(h:Sim P base M0 ios σ M w a st){r:Nat}{e:TypeId}{t:Ty}{l:List (El t)}{ver:Nat}{z z2:Bool}(hr:look r st.rows=some (.hot e t l ver none z))(hz:z2=true->z=true\/l≠[]):
 Sim P base M0 ios σ (M.plus (σ.mem r)) w a {st with rows:=(r,.frz e t l ver z2)::st.rows}:=by
 have hh:X1G r st.rows:=⟨e,t,l,ver,none,z,hr⟩
 have hok:=h.hot.ok r e t l ver none z hr;have hNone:∀ad,ad.block∉σ.foot r->M ad=none->M.plus (σ.mem r) ad=none:=λad hb hm=>Mem.plus_none hm (by
  cases hx:σ.mem r ad with
  | none=>rfl
  | some u=>exact absurd (hok.mem ad u hx).2.1 hb)
 have hle:M.le (M.plus (σ.mem r)):=Mem.le_plus _ _;have hmem:(σ.mem r).le (M.plus (σ.mem r)):=Mem.plus_right λad v u h1 h2=>by
  have:=h.hot.noM r hh _ (hok.mem ad u h2).2.1 ad rfl;rw[this]at h1;cases h1
 have hrd:RdC (M.plus (σ.mem r)) (.list t) [σ.row r] l:=(X4Q.rdTop (N:=σ.mem r) hok.own hok.nodup λad u hb ht hu=>hok.full rfl ad u hb ht hu).mono hmem;have hin:∀ad v,M.plus (σ.mem r) ad=some v->w.cell? ad=some v:=λad v hv=>by
  rcases Mem.plus_cases hv with h1 | h1
  . exact h.mem ad v h1
  . exact(hok.mem ad v h1).1
 have hsome:∀r',(look r' ((r,X0L.frz e t l ver z2)::st.rows)).isSome=true->(look r' st.rows).isSome=true:=λr' hs=>by
  rw[X08]at hs;by_cases he:r=r'
  . subst he;rw[hr];rfl
  . rw[Yae he]at hs;exact hs
 have hca:Carry σ st.rows M σ ((r,.frz e t l ver z2)::st.rows) (M.plus (σ.mem r)) (λ_=>True) (λ_ _=>True):=⟨hle,λr' _ hs=>⟨hsome r' hs,rfl⟩,λr' ver' rv' _ _ hl hv=>by
  rw[X08]at hl;by_cases he:r=r'
  . subst he;rw[Yah rfl]at hl;cases hl;cases hv;exact⟨_,hr,rfl,Mem.le_refl _,.inr ⟨e,t,l,ver,z2,rfl⟩⟩
  . rw[Yae he]at hl;exact⟨rv',hl,hv,Mem.le_refl _,.inl rfl⟩⟩
 have hotOld:∀r',X1G r' ((r,X0L.frz e t l ver z2)::st.rows)->r'≠r/\X1G r' st.rows:=λr' h1=>by
  rcases X5V h1 with⟨_,_,_,_,_,_,_,e1⟩ | h2
  . cases e1
  . exact h2
 have hrow:∀r' e',({st with rows:=(r,X0L.frz e t l ver z2)::st.rows}:St).row r'=some e'->(r'=r/\z2=true/\e'=e)\/(r'≠r/\st.row r'=some e'):=λr' e' h1=>by
  simp only[St.row,X8M,X08]at h1;by_cases he:r=r'
  . subst he;simp only[Yci]at h1;cases z2<;>simp[X0L.cold?]at h1;exact .inl ⟨rfl,rfl,h1.symm⟩
  . rw[Yae he]at h1;exact .inr ⟨YaK he,h1⟩
 have hP:z2=true->_:=λhz2=>hok.ownsP (B:=Xrd base ios) (λg hg=>.inl hg) (λg hg=>h.hot.base r hh g hg) (hz hz2);have blockIn:z2=true->∀g,(σ.row r).ownBlock=some g->g∈σ.foot r:=λhz2=>by obtain⟨_,_,_,k⟩:=hP hz2;exact k
 exact {
  mem:=hin
  nt:=h.nt
  slots:=λi=>(h.slots i).carry hca (Xed _) (λk _=>⟨rfl,id⟩)
  boxes:=λk cs hk=>by
   obtain⟨arr,E,h1,h2⟩:=h.boxes k cs hk;exact⟨arr,E,h1,Xcm hca h2 (λc _=>X65 c)⟩
  boxM:=λk hk ad had=>hNone ad (by rw[had];exact h.hot.noBox r hh k hk) (h.boxM k hk ad had)
  boxInj:=h.boxInj
  boxBase:=h.boxBase
  rows:=λr' e' h1=>by
   rcases hrow r' e' h1 with⟨rfl,hz,rfl⟩ | ⟨hne,h2⟩
   . obtain⟨n,xs,ho,hb⟩:=hP hz;obtain⟨i,hi,his⟩:=hok.info;refine⟨⟨n,xs,i,hi,by rw[his];exact ho,λg hg ad had hoff=>?_⟩⟩;refine Mem.plus_none (h.hot.noM r' hh g (hb g hg) ad had) ?_;cases hx:σ.mem r' ad with
     | none=>rfl
     | some u=>
       have ht:=(hok.mem ad u hx).2.2;rcases ho.2 with⟨e1,_⟩ | ⟨g',o,cap,cur,E,e1,_⟩
       . rw[e1]at hg;cases hg
       . have e2:g'=g:=by rw[e1]at hg;exact Ybv hg
         have:=ht _ _ _ e1 (by rw[had,e2]);rw[his,e1]at hoff;simp only[Xo7]at hoff this;omega
   . obtain⟨n,xs,i,hi,ho,hm⟩:=(h.rows r' e' h2).own;exact⟨⟨n,xs,i,hi,ho,λg hg ad had hoff=>hNone ad (by rw[had];exact h.hot.noRow r hh r' (by rw[h2];rfl) g hg) (hm g hg ad had hoff)⟩⟩
  rowBox:=λr' k h1 hk=>by
   obtain⟨e',he'⟩:=Yao.1 h1;rcases hrow r' e' he' with⟨rfl,hz,rfl⟩ | ⟨hne,h2⟩
   . intro hg;exact h.hot.noBox r' hh k hk (blockIn hz _ hg)
   . exact h.rowBox r' k (by rw[h2];rfl) hk
  rowInj:=λr1 r2 h1 h2 hne=>by
   obtain⟨e1,he1⟩:=Yao.1 h1;obtain⟨e2,he2⟩:=Yao.1 h2;rcases hrow r1 e1 he1 with⟨rfl,hz,rfl⟩ | ⟨n1,k1⟩<;>rcases hrow r2 e2 he2 with⟨rfl,hz2,rfl⟩ | ⟨n2,k2⟩
   . exact absurd rfl hne
   . cases hb:(σ.row r1).ownBlock with
     | none=>exact .inl rfl
     | some g=>
       right;intro e3;exact h.hot.noRow r1 hh r2 (by rw[k2];rfl) g e3.symm (blockIn hz g hb)
   . cases hb:(σ.row r1).ownBlock with
     | none=>exact .inl rfl
     | some g=>
       right;intro e3;exact h.hot.noRow r2 hh r1 (by rw[k1];rfl) g hb (blockIn hz2 g e3.symm)
   . exact h.rowInj r1 r2 (by rw[k1];rfl) (by rw[k2];rfl) hne
  hot:=by
   exact {
    ok:=λr' e' t' l' ver' hole' z' hl=>by
     rw[X08]at hl;split at hl
     . cases hl
     . exact h.hot.ok r' _ _ _ _ _ _ hl
    base:=λr' h1=>h.hot.base r' (hotOld r' h1).2
    noM:=λr' h1 g hg ad had=>hNone ad (by rw[had];exact h.hot.apart r' r (hotOld r' h1).2 hh (hotOld r' h1).1 g hg) (h.hot.noM r' (hotOld r' h1).2 g hg ad had)
    noBox:=λr' h1=>h.hot.noBox r' (hotOld r' h1).2
    noRow:=λr' h1 r2 h2 g hg hgf=>by
     obtain⟨e2,he2⟩:=Yao.1 h2;rcases hrow r2 e2 he2 with⟨rfl,hz,rfl⟩ | ⟨n2,k2⟩
     . exact h.hot.apart r' r2 (hotOld r' h1).2 hh (hotOld r' h1).1 g hgf (blockIn hz g hg)
     . exact h.hot.noRow r' (hotOld r' h1).2 r2 (by rw[k2];rfl) g hg hgf
    apart:=λr1 r2 h1 h2=>h.hot.apart r1 r2 (hotOld r1 h1).2 (hotOld r2 h2).2
    lt:=λr' h1=>h.hot.lt r' (hotOld r' h1).2
    frz:=λr' e' t' l' ver' z' hl=>by
     rw[X08]at hl;split at hl
     . rename_i he;subst he;cases hl;exact⟨hrd,hmem⟩
     . obtain⟨k1,k2⟩:=h.hot.frz r' _ _ _ _ _ hl;exact⟨k1.mono hle,Mem.le_trans k2 hle⟩}
  fr:=h.fr
  defers:=h.defers
  old:=λad h1 h2 h3=>hNone ad (λhg=>by
   rcases h.hot.base r hh _ hg with h4 | h4
   . omega
   . exact h2 h4) (h.old ad h1 h2 h3)
  le:=Mem.le_trans h.le hle
  pin:=h.pin
  pins:=λp hp hs=>h.pins p hp (hsome _ hs)
  olds:=h.olds}
theorem Sim.freeze(h:Sim P base M0 ios σ M w a st){r:Nat}{e:TypeId}{t:Ty}{l:List (El t)}{ver:Nat}{z:Bool}(hr:look r st.rows=some (.hot e t l ver none z)):
 Sim P base M0 ios σ (M.plus (σ.mem r)) w a {st with rows:=(r,.frz e t l ver z)::st.rows}:=h.freezeZ hr λhz=>.inl hz
end
end Go.Proofs.YthpdkligbfbjeaaGreat.Bv
