/- A file in which a byte is changed. -/
import Derived.Test.YtegmokdppbagiaaCRFile
import Derived.Test.YtegmokdppbagiaaCEng0
set_option linter.unusedVariables false
set_option linter.unusedSimpArgs false
namespace Go.Proofs.Ytegmokdppbagiaa.B
open Go Go.Proofs.Ytegmokdppbagiaa.Bv
theorem XiT{x:Nat}(h:x<2147483648):x.testBit 31=false:=Nat.testBit_lt_two_pow (i:=31) h
theorem Xjd:(2197175160:Nat).testBit 31=true:=by decide
theorem XcB{a b c:Nat}(h:a ^^^ c=b ^^^ c):a=b:=by
 have:=congrArg (· ^^^ c) h
 simpa [Nat.xor_assoc] using this
theorem Xez{c d:Nat}(hc:c<4294967296)(hd:d<4294967296)(h:X6V c=X6V d):c=d:=by
 unfold X6V at h
 have c2:=XiT (x:=c / 2) (by omega)
 have d2:=XiT (x:=d / 2) (by omega)
 have p:=Xjd
 split at h<;>split at h
 · have:=XcB h;omega
 · have:=congrArg (Nat.testBit · 31) h
   simp only[Nat.testBit_xor,c2,d2,p]at this
   cases this
 · have:=congrArg (Nat.testBit · 31) h
   simp only[Nat.testBit_xor,c2,d2,p]at this
   cases this
 · omega
theorem X6F{c d:Nat}(hc:c<4294967296)(hd:d<4294967296):∀k,X5l k c=X5l k d→c=d
 | 0,h=>h
 | k+1,h=>X6F hc hd k (Xez (X56 hc k) (X56 hd k) h)
theorem Xgu(b:UInt8):b.toNat<4294967296:=by have:=b.toNat_lt;omega
theorem XcA{c d:Nat}(b:UInt8)(hc:c<4294967296)(hd:d<4294967296)(h:X4J c b=X4J d b):c=d:=
 XcB (X6F (X6l hc (Xgu b)) (X6l hd (Xgu b)) 8 h)
theorem XbG{c:Nat}{b b':UInt8}(hc:c<4294967296)(h:X4J c b=X4J c b'):b=b':=by
 have:=X6F (X6l hc (Xgu b)) (X6l hc (Xgu b')) 8 h
 rw[Nat.xor_comm c,Nat.xor_comm c]at this
 exact UInt8.toNat_inj.1 (XcB this)
theorem Xdi:∀(q:List UInt8) (c d:Nat),c<4294967296→d<4294967296→q.foldl X4J c=q.foldl X4J d→c=d
 | [],_,_,_,_,h=>h
 | b::q,c,d,hc,hd,h=>XcA b hc hd (Xdi q _ _ (X54 b hc) (X54 b hd) h)
theorem Xik{p q:List UInt8}{x y:UInt8}(h:X6G (p++x::q)=X6G (p++y::q)):x=y:=by
 unfold X6G Xfr at h
 simp only[List.foldl_append,List.foldl_cons]at h
 have hp:=Xbb p 4294967295 (by omega)
 exact XbG hp (Xdi q _ _ (X54 x hp) (X54 y hp) (by omega))
theorem Xi7{a b:List UInt8}(h:X0s (X6G a) 4=X0s (X6G b) 4):X6G a=X6G b:=by
 have ca:=X91 a
 have cb:=X91 b
 have ea:X0s (X6G a) 4=X1i (fx 4 (X6G a).toNat):=by
  unfold X0s;rw[if_pos ⟨by decide,by omega,by rw[show(4:Int).toNat=4 from rfl];omega⟩];rfl
 have eb:X0s (X6G b) 4=X1i (fx 4 (X6G b).toNat):=by
  unfold X0s;rw[if_pos ⟨by decide,by omega,by rw[show(4:Int).toNat=4 from rfl];omega⟩];rfl
 rw[ea,eb]at h
 have:=congrArg be h
 rw[XeT 4 _ (by omega),XeT 4 _ (by omega)]at this
 omega
theorem Xdo{l:List Ser}(h:X0L l=true∧l≠[]):X09 l=X73 (XeL l)++X0s (X6G (X73 (XeL l))) 4:=by
 unfold X09;rw[if_pos h]
theorem XcO{l:List Ser}{p q:List UInt8}{x y:UInt8}(h:X09 l=p++x::q)(hne:x≠y)(h0:X0L l=true∧l≠[]):(X02 (p++y::q)).2=false:=by
 cases e:(X02 (p++y::q)).2 with
 | false=>rfl
 | true=>
   exfalso
   obtain⟨k0,k1⟩:=XdU e
   generalize (X02 (p++y::q)).1=l' at k0 k1
   rw[Xdo h0]at h
   rw[Xdo k0]at k1
   generalize X73 (XeL l)=T at h
   generalize X73 (XeL l')=T' at k1
   have c1:=X5h T
   have c2:=X5h T'
   have hl:T.length=T'.length:=by
    have a:=congrArg List.length h
    have b:=congrArg List.length k1
    simp only[List.length_append,List.length_cons]at a b
    omega
   by_cases hk:p.length<T.length
   · have t1:T=p++x::q.take (T.length - p.length - 1):=by
      have:=congrArg (List.take T.length) h
      rw[List.take_left,List.take_append,List.take_of_length_le (by omega),show T.length - p.length=(T.length - p.length - 1)+1 by omega,List.take_succ_cons]at this
      exact this
     have t2:T'=p++y::q.take (T.length - p.length - 1):=by
      have:=congrArg (List.take T'.length) k1
      rw[List.take_left,List.take_append,List.take_of_length_le (by omega),show T'.length - p.length=(T.length - p.length - 1)+1 by omega,List.take_succ_cons]at this
      exact this
     have d1:X0s (X6G T) 4=q.drop (T.length - p.length - 1):=by
      have:=congrArg (List.drop T.length) h
      rw[List.drop_left,List.drop_append,List.drop_of_length_le (by omega),List.nil_append,show T.length - p.length=(T.length - p.length - 1)+1 by omega,List.drop_succ_cons]at this
      exact this
     have d2:X0s (X6G T') 4=q.drop (T.length - p.length - 1):=by
      have:=congrArg (List.drop T'.length) k1
      rw[List.drop_left,List.drop_append,List.drop_of_length_le (by omega),List.nil_append,show T'.length - p.length=(T.length - p.length - 1)+1 by omega,List.drop_succ_cons]at this
      exact this
     have:=Xi7 (d1.trans d2.symm)
     rw[t1,t2]at this
     exact hne (Xik this)
   · have e1:=congrArg (List.take T.length) h
     have e2:=congrArg (List.take T.length) k1
     rw[List.take_left,List.take_append_of_le_length (by omega)]at e1
     rw[hl,List.take_left,←hl,List.take_append_of_le_length (by omega),←e1]at e2
     rw[e2,h]at k1
     have:=List.append_cancel_left k1
     rw[List.cons.injEq]at this
     exact hne this.1
theorem Xg4{l:List Ser}(h0:X0L l=true∧l≠[]){k:Nat}(hk:k<(X09 l).length){y:UInt8}(hy:(X09 l).getD k 0≠y):(X02 ((X09 l).take k++y::(X09 l).drop (k+1))).2=false:=by
 refine XcO (x:=(X09 l).getD k 0) (l:=l) ?_ hy h0
 conv=>lhs;rw[←List.take_append_drop k (X09 l)]
 rw[List.drop_eq_getElem_cons hk,X1V hk]
theorem X6U{l:List Ser}(h0:X0L l=true∧l≠[]):X02 (X09 l)=(l,true):=(Xc0 ⟨h0,rfl⟩).symm
theorem Xdq{l:List Ser}(h0:¬(X0L l=true∧l≠[])):X09 l=[]:=by unfold X09;rw[if_neg h0]
theorem Xdw{l:List Ser}(h0:X0L l=true∧l≠[]):8≤(X09 l).length:=by
 have:=(RF.lay (s:=X09 l) ⟨h0,rfl⟩).len;omega
theorem Xfy:X02 []=([],false):=by
 refine(X3R fun l h=>?_).symm
 have:=Xdw h.1
 rw[h.2]at this;simp at this
theorem Xhh(l:List Ser):∀n i,i<n→loN l n≤((l.getD i ([],[])).2.getD 0 (0,0)).1
 | n+1,i,h=>by
   rw[loN]
   by_cases e:i=n
   · subst e;split<;>omega
   · have:=Xhh l n i (by omega)
     split<;>omega
theorem Xha(l:List Ser):∀n i,i<n→((l.getD i ([],[])).2.getD ((l.getD i ([],[])).2.length - 1) (0,0)).1≤hiN l n
 | n+1,i,h=>by
   rw[hiN]
   by_cases e:i=n
   · subst e;split<;>omega
   · have:=Xha l n i (by omega)
     split<;>omega
theorem Xfj{l:List Ser}(h0:X0L l=true∧l≠[]):X2G (X09 l)=(loN l l.length,(hiN l l.length,true)):=by
 unfold X2G
 rw[X6U h0,if_pos rfl]
theorem XgI{l:List Ser}(h:AscS l){i:Nat}(hi:i<l.length):l.find? (fun x=>decide (x.1=(l.getD i ([],[])).1))=some (l.getD i ([],[])):=by
 rw[List.find?_eq_some_iff_getElem]
 refine⟨decide_eq_true rfl,i,hi,(X1V hi).symm,fun j hj=>?_⟩
 have hp:=List.pairwise_iff_getElem.1 h j i (by omega) hi hj
 rw[X1V hi]
 simp only[Bool.not_eq_true',decide_eq_false_iff_not]
 intro e
 simp only[e]at hp
 have:=Xhk.irr l[i].1
 simp only[this]at hp
 cases hp
theorem XiE{s:List UInt8}(h:X7V s=true)(hs:s=[79,84,72,69,82]):False:=by
 subst hs;exact absurd h (by decide)
end Go.Proofs.Ytegmokdppbagiaa.B
