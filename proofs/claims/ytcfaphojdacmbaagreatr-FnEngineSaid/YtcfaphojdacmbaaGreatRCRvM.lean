/- Reading a number of seven-bit bytes:the plain law. -/
import Derived.Test.YtcfaphojdacmbaaGreatRCNum
set_option linter.unusedVariables false
set_option linter.unusedSimpArgs false
namespace Go.Proofs.YtcfaphojdacmbaaGreatR.B
def dec:List UInt8→Nat
 | []=>0
 | b::l=>b.toNat % 128+128*dec l
theorem XfG(l:List UInt8)(b:UInt8):dec (l++[b])=dec l+(b.toNat % 128)*128 ^ l.length:=by
 induction l with
 | nil=>simp[dec]
 | cons c l ih=>
   simp only[List.cons_append,dec,ih,List.length_cons,Nat.pow_succ]
   rw[Nat.mul_add]
   have:128*(b.toNat % 128*128 ^ l.length)=b.toNat % 128*(128 ^ l.length*128):=by rw[Nat.mul_comm 128,Nat.mul_assoc]
   omega
theorem XjG(l:List UInt8):dec l<128 ^ l.length:=by
 induction l with
 | nil=>simp[dec]
 | cons c l ih=>
   simp only[dec,List.length_cons,Nat.pow_succ]
   omega
theorem Xae(a:Int)(l:List Int):X2w (a::l)=UInt8.ofNat a.toNat::X2w l:=rfl
theorem Xk7{n:Nat}{b:UInt8}(h:n<256):UInt8.ofNat n=b↔n=b.toNat:=by
 constructor
 · intro e;rw[←e];simp[Nat.mod_eq_of_lt h]
 · intro e;rw[e];simp
def Xa2(l:List UInt8):Prop:=X2w (vb (dec l))=l
theorem Xir(b:UInt8):Xa2 [b]↔b.toNat<128:=by
 unfold Xa2
 have hb:=b.toNat_lt
 rw[show dec [b]=b.toNat % 128 by simp[dec],X8t (by omega)]
 rw[Xae]
 simp only[X2w,List.map_nil,List.cons.injEq,and_true,Int.toNat_natCast]
 rw[Xk7 (by omega)]
 omega
theorem Xg7(b c:UInt8)(r:List UInt8):Xa2 (b::c::r)↔128≤b.toNat∧dec (c::r)≠0∧Xa2 (c::r):=by
 have hb:=b.toNat_lt
 unfold Xa2
 rw[show dec (b::c::r)=b.toNat % 128+128*dec (c::r) from rfl]
 generalize hd:dec (c::r)=d
 by_cases h0:d=0
 · subst h0
   rw[X8t (by omega)]
   constructor
   · intro h;have:=congrArg List.length h;simp[X2w]at this
   · intro h;exact absurd rfl h.2.1
 · rw[XfK (by omega),Xae]
   have e1:(b.toNat % 128+128*d) / 128=d:=by omega
   have e2:(b.toNat % 128+128*d) % 128=b.toNat % 128:=by omega
   rw[e1,e2]
   simp only[List.cons.injEq,Int.toNat_natCast]
   rw[Xk7 (by omega)]
   constructor
   · rintro⟨h1,h2⟩;exact⟨by omega,h0,h2⟩
   · rintro⟨h1,_,h2⟩;exact⟨by omega,h2⟩
theorem Xa0(x:UInt8):∀(pre:List UInt8),Xa2 (pre++[x])↔x.toNat<128∧(∀b∈pre,128≤b.toNat)∧(pre=[]∨x.toNat≠0)
 | []=>by simp[Xir]
 | [b]=>by
   show Xa2 [b,x]↔_
   rw[Xg7,Xir]
   have:dec [x]=x.toNat % 128:=by simp[dec]
   rw[this]
   simp
   omega
 | b::c::r=>by
   show Xa2 (b::c::(r++[x]))↔_
   rw[Xg7]
   have ih:=Xa0 x (c::r)
   rw[show c::(r++[x])=(c::r)++[x] from rfl,ih]
   have hd:x.toNat<128→x.toNat≠0→dec ((c::r)++[x])≠0:=by
    intro h1 h2
    rw[XfG]
    have:0<x.toNat % 128*128 ^ (c::r).length:=Nat.mul_pos (by omega) (Nat.pow_pos (by omega))
    omega
   simp
   constructor
   · rintro⟨h1,h2,h3,⟨h4,h5⟩,h6⟩
     exact⟨h3,⟨h1,h4,h5⟩,h6⟩
   · rintro⟨h3,⟨h1,h4,h5⟩,h6⟩
     exact⟨h1,hd h3 h6,h3,⟨h4,h5⟩,h6⟩
instance (l:List UInt8):Decidable (Xa2 l):=inferInstanceAs (Decidable (X2w (vb (dec l))=l))
def Xfo(s:List UInt8)(k:Nat):Bool:=decide (k≤s.length)&&decide (Xa2 (s.take k))
def X0f(s:List UInt8):Int×Int:=match (List.range 7).find? (fun j=>Xfo s (j+1)) with
 | some j=>((dec (s.take (j+1)):Int),(j:Int)+1)
 | none=>(0,0)
theorem X8Q{s:List UInt8}{j:Nat}(hj:j<7)(h:Xfo s (j+1)=true)(hn:∀i,i<j→Xfo s (i+1)=false):X0f s=((dec (s.take (j+1)):Int),(j:Int)+1):=by
 unfold X0f
 rw[(List.find?_range_eq_some (p:=fun j=>Xfo s (j+1))).2 ⟨h,by simpa using hj,fun i hi=>by simp[hn i hi]⟩]
theorem X7g{s:List UInt8}(hn:∀i,i<7→Xfo s (i+1)=false):X0f s=(0,0):=by
 unfold X0f
 rw[List.find?_eq_none.2 fun i hi=>by simp[hn i (by simpa using hi)]]
theorem XjC{l:List UInt8}(h:l.length≤7):X1P (dec l:Int)=X2w (vb (dec l)):=by
 have:=XjG l
 have h2:128 ^ l.length≤128 ^ 7:=Nat.pow_le_pow_right (by omega) h
 unfold X1P
 rw[if_pos (by simp[fIn];omega)]
 simp
theorem Xl1{s:List UInt8}{i k:Nat}(hi:i<s.length)(hb:(s.getD i 0).toNat<128)(hik:i+1<k):Xfo s k=false:=by
 unfold Xfo
 cases hk:decide (k≤s.length) with
 | false=>rfl
 | true=>
   simp only[Bool.true_and,decide_eq_false_iff_not]
   have hk':k≤s.length:=by simpa using hk
   intro hc
   have e:s.take k=s.take (k - 1)++[s.getD (k - 1) 0]:=by
    rw[show k=(k - 1)+1 by omega,List.take_succ_eq_append_getElem (by omega)]
    simp[List.getD_eq_getElem?_getD,List.getElem?_eq_getElem (show k - 1<s.length by omega)]
   rw[e,Xa0]at hc
   have:=hc.2.1 (s.getD i 0) (by
    rw[List.getD_eq_getElem?_getD,List.getElem?_eq_getElem hi]
    simp only[Option.getD_some]
    exact List.mem_take_iff_getElem.2 ⟨i,by omega,rfl⟩)
   omega
theorem Xiz{s:List UInt8}{i:Nat}(hi:i<s.length)(hb:128≤(s.getD i 0).toNat):Xfo s (i+1)=false:=by
 unfold Xfo
 simp only[Bool.and_eq_false_iff,decide_eq_false_iff_not]
 right
 have e:s.take (i+1)=s.take i++[s.getD i 0]:=by
  rw[List.take_succ_eq_append_getElem hi]
  simp[List.getD_eq_getElem?_getD,List.getElem?_eq_getElem hi]
 rw[e,Xa0]
 omega
theorem X8T{s:List UInt8}{i:Nat}(hi:i<s.length):s.take (i+1)=s.take i++[s.getD i 0]:=by
 rw[List.take_succ_eq_append_getElem hi]
 simp[List.getD_eq_getElem?_getD,List.getElem?_eq_getElem hi]
theorem Xho{s:List UInt8}{k:Nat}(h:s.length<k):Xfo s k=false:=by
 unfold Xfo
 simp;omega
theorem X35(s:List UInt8):0≤(X0f s).1∧(X0f s).1≤562949953421311∧0≤(X0f s).2∧(X0f s).2≤s.length∧(X0f s).2≤7:=by
 unfold X0f
 split
 · rename_i j hj
   obtain⟨h1,h2,_⟩:=List.find?_range_eq_some.1 hj
   have h3:j<7:=by simpa using h2
   simp only[Xfo,Bool.and_eq_true,decide_eq_true_eq]at h1
   have:=XjG (s.take (j+1))
   have h4:128 ^ (s.take (j+1)).length≤128 ^ 7:=Nat.pow_le_pow_right (by omega) (by simp;omega)
   simp only
   omega
 · simp
end Go.Proofs.YtcfaphojdacmbaaGreatR.B
