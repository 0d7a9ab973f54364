/- Reading a number of seven-bit bytes:the plain law. -/
import Derived.Test.YtgmafgmjbaoomaaGreatCNum
set_option linter.unusedVariables false
set_option linter.unusedSimpArgs false
namespace Go.Proofs.YtgmafgmjbaoomaaGreat.B
def dec:List UInt8→Nat
 | []=>0
 | b::l=>b.toNat % 128+128*dec l
theorem Xde(l:List UInt8)(b:UInt8):dec (l++[b])=dec l+(b.toNat % 128)*128 ^ l.length:=by
 induction l with
 | nil=>simp[dec]
 | cons c l ih=>
   simp only[List.cons_append,dec,ih,List.length_cons,Nat.pow_succ]
   rw[Nat.mul_add]
   have:128*(b.toNat % 128*128 ^ l.length)=b.toNat % 128*(128 ^ l.length*128):=by rw[Nat.mul_comm 128,Nat.mul_assoc]
   omega
theorem Xht(l:List UInt8):dec l<128 ^ l.length:=by
 induction l with
 | nil=>simp[dec]
 | cons c l ih=>
   simp only[dec,List.length_cons,Nat.pow_succ]
   omega
theorem X8q(a:Int)(l:List Int):X1Q (a::l)=UInt8.ofNat a.toNat::X1Q l:=rfl
theorem XgO{n:Nat}{b:UInt8}(h:n<256):UInt8.ofNat n=b↔n=b.toNat:=by
 constructor
 · intro e;rw[←e];simp[Nat.mod_eq_of_lt h]
 · intro e;rw[e];simp
def X8a(l:List UInt8):Prop:=X1Q (vb (dec l))=l
theorem Xfn(b:UInt8):X8a [b]↔b.toNat<128:=by
 unfold X8a
 have hb:=b.toNat_lt
 rw[show dec [b]=b.toNat % 128 by simp[dec],X6N (by omega)]
 rw[X8q]
 simp only[X1Q,List.map_nil,List.cons.injEq,and_true,Int.toNat_natCast]
 rw[XgO (by omega)]
 omega
theorem Xd6(b c:UInt8)(r:List UInt8):X8a (b::c::r)↔128≤b.toNat∧dec (c::r)≠0∧X8a (c::r):=by
 have hb:=b.toNat_lt
 unfold X8a
 rw[show dec (b::c::r)=b.toNat % 128+128*dec (c::r) from rfl]
 generalize hd:dec (c::r)=d
 by_cases h0:d=0
 · subst h0
   rw[X6N (by omega)]
   constructor
   · intro h;have:=congrArg List.length h;simp[X1Q]at this
   · intro h;exact absurd rfl h.2.1
 · rw[XdD (by omega),X8q]
   have e1:(b.toNat % 128+128*d) / 128=d:=by omega
   have e2:(b.toNat % 128+128*d) % 128=b.toNat % 128:=by omega
   rw[e1,e2]
   simp only[List.cons.injEq,Int.toNat_natCast]
   rw[XgO (by omega)]
   constructor
   · rintro⟨h1,h2⟩;exact⟨by omega,h0,h2⟩
   · rintro⟨h1,_,h2⟩;exact⟨by omega,h2⟩
theorem X8l(x:UInt8):∀(pre:List UInt8),X8a (pre++[x])↔x.toNat<128∧(∀b∈pre,128≤b.toNat)∧(pre=[]∨x.toNat≠0)
 | []=>by simp[Xfn]
 | [b]=>by
   show X8a [b,x]↔_
   rw[Xd6,Xfn]
   have:dec [x]=x.toNat % 128:=by simp[dec]
   rw[this]
   simp
   omega
 | b::c::r=>by
   show X8a (b::c::(r++[x]))↔_
   rw[Xd6]
   have ih:=X8l x (c::r)
   rw[show c::(r++[x])=(c::r)++[x] from rfl,ih]
   have hd:x.toNat<128→x.toNat≠0→dec ((c::r)++[x])≠0:=by
    intro h1 h2
    rw[Xde]
    have:0<x.toNat % 128*128 ^ (c::r).length:=Nat.mul_pos (by omega) (Nat.pow_pos (by omega))
    omega
   simp
   constructor
   · rintro⟨h1,h2,h3,⟨h4,h5⟩,h6⟩
     exact⟨h3,⟨h1,h4,h5⟩,h6⟩
   · rintro⟨h3,⟨h1,h4,h5⟩,h6⟩
     exact⟨h1,hd h3 h6,h3,⟨h4,h5⟩,h6⟩
instance (l:List UInt8):Decidable (X8a l):=inferInstanceAs (Decidable (X1Q (vb (dec l))=l))
def XcT(s:List UInt8)(k:Nat):Bool:=decide (k≤s.length)&&decide (X8a (s.take k))
def X04(s:List UInt8):Int×Int:=match (List.range 7).find? (fun j=>XcT s (j+1)) with
 | some j=>((dec (s.take (j+1)):Int),(j:Int)+1)
 | none=>(0,0)
theorem X6R{s:List UInt8}{j:Nat}(hj:j<7)(h:XcT s (j+1)=true)(hn:∀i,i<j→XcT s (i+1)=false):X04 s=((dec (s.take (j+1)):Int),(j:Int)+1):=by
 unfold X04
 rw[(List.find?_range_eq_some (p:=fun j=>XcT s (j+1))).2 ⟨h,by simpa using hj,fun i hi=>by simp[hn i hi]⟩]
theorem X5E{s:List UInt8}(hn:∀i,i<7→XcT s (i+1)=false):X04 s=(0,0):=by
 unfold X04
 rw[List.find?_eq_none.2 fun i hi=>by simp[hn i (by simpa using hi)]]
theorem Xh4{l:List UInt8}(h:l.length≤7):X1H (dec l:Int)=X1Q (vb (dec l)):=by
 have:=Xht l
 have h2:128 ^ l.length≤128 ^ 7:=Nat.pow_le_pow_right (by omega) h
 unfold X1H
 rw[if_pos (by simp[fIn];omega)]
 simp
theorem XhY{s:List UInt8}{i k:Nat}(hi:i<s.length)(hb:(s.getD i 0).toNat<128)(hik:i+1<k):XcT s k=false:=by
 unfold XcT
 cases hk:decide (k≤s.length) with
 | false=>rfl
 | true=>
   simp only[Bool.true_and,decide_eq_false_iff_not]
   have hk':k≤s.length:=by simpa using hk
   intro hc
   have e:s.take k=s.take (k - 1)++[s.getD (k - 1) 0]:=by
    rw[show k=(k - 1)+1 by omega,List.take_succ_eq_append_getElem (by omega)]
    simp[List.getD_eq_getElem?_getD,List.getElem?_eq_getElem (show k - 1<s.length by omega)]
   rw[e,X8l]at hc
   have:=hc.2.1 (s.getD i 0) (by
    rw[List.getD_eq_getElem?_getD,List.getElem?_eq_getElem hi]
    simp only[Option.getD_some]
    exact List.mem_take_iff_getElem.2 ⟨i,by omega,rfl⟩)
   omega
theorem XeZ{s:List UInt8}{i:Nat}(hi:i<s.length)(hb:128≤(s.getD i 0).toNat):XcT s (i+1)=false:=by
 unfold XcT
 simp only[Bool.and_eq_false_iff,decide_eq_false_iff_not]
 right
 have e:s.take (i+1)=s.take i++[s.getD i 0]:=by
  rw[List.take_succ_eq_append_getElem hi]
  simp[List.getD_eq_getElem?_getD,List.getElem?_eq_getElem hi]
 rw[e,X8l]
 omega
theorem X7b{s:List UInt8}{i:Nat}(hi:i<s.length):s.take (i+1)=s.take i++[s.getD i 0]:=by
 rw[List.take_succ_eq_append_getElem hi]
 simp[List.getD_eq_getElem?_getD,List.getElem?_eq_getElem hi]
theorem Xfk{s:List UInt8}{k:Nat}(h:s.length<k):XcT s k=false:=by
 unfold XcT
 simp;omega
theorem X1V(s:List UInt8):0≤(X04 s).1∧(X04 s).1≤562949953421311∧0≤(X04 s).2∧(X04 s).2≤s.length∧(X04 s).2≤7:=by
 unfold X04
 split
 · rename_i j hj
   obtain⟨h1,h2,_⟩:=List.find?_range_eq_some.1 hj
   have h3:j<7:=by simpa using h2
   simp only[XcT,Bool.and_eq_true,decide_eq_true_eq]at h1
   have:=Xht (s.take (j+1))
   have h4:128 ^ (s.take (j+1)).length≤128 ^ 7:=Nat.pow_le_pow_right (by omega) (by simp;omega)
   simp only
   omega
 · simp
end Go.Proofs.YtgmafgmjbaoomaaGreat.B
