/- Numbers of fixed width,sums,frames. -/
import Derived.Test.YtgfgenbmjbhphaaCNum
namespace Go.Proofs.Ytgfgenbmjbhphaa.B
set_option linter.unusedVariables false
set_option linter.unusedSimpArgs false
open Go Go.Proofs.Ytgfgenbmjbhphaa.Bv
def fx:Nat→Nat→List Int
 | 0,_=>[]
 | w+1,n=>fx w (n / 256)++[((n % 256:Nat):Int)]
theorem fx_length:∀w n,(fx w n).length=w
 | 0,_=>rfl
 | w+1,n=>by simp [fx,fx_length w]
def pFixed (n w:Int):Prop:=n≤9223372036854775807
def fFixed (n w:Int):List UInt8:=if fIn w 1 7=true∧0≤n∧n<256 ^ w.toNat then toBytes (fx w.toNat n.toNat) else []
theorem fFixed_length (n w:Int):(fFixed n w).length≤7:=by
 unfold fFixed
 split
 · rename_i h
   have:=h.1
   simp only [fIn,Bool.and_eq_true,decide_eq_true_eq] at this
   simp only [toBytes,List.length_map,fx_length];omega
 · simp
theorem toBytes_append (a b:List Int):toBytes (a++b)=toBytes a++toBytes b:=by simp [toBytes]
def fxJ (n0 w i:Int) (out:List Int):Prop:=-1≤i∧i<w∧1≤w∧w≤7∧0≤n0∧n0<256 ^ w.toNat∧out=fx (w - 1 - i).toNat (n0 / 256 ^ (i+1).toNat).toNat
def fxN (n0 w i:Int) (out:List Int):Nat:=(i+1).toNat
theorem wrap_u8_mod (x:Int):IntKind.wrap .u8 x=x % 256:=IntKind.wrap_u8 x
theorem pow256 (i:Nat):(2:Int) ^ (8*i)=256 ^ i:=by rw [Int.pow_mul];rfl
theorem pow256_pos (i:Nat):(0:Int)<256 ^ i:=Int.pow_pos (by omega)
theorem div_pow_succ (n:Int) (i:Nat):n / 256 ^ (i+1)=n / 256 ^ i / 256:=by
 rw [Int.pow_succ,Int.ediv_ediv_of_nonneg (Int.le_of_lt (pow256_pos i))]
theorem div_nonneg256 {n:Int} (h:0≤n) (i:Nat):0≤n / 256 ^ i:=Int.ediv_nonneg h (Int.le_of_lt (pow256_pos i))
theorem fx_step (w:Nat) {n:Int} (h:0≤n):fx (w+1) n.toNat=fx w (n / 256).toNat++[n % 256]:=by
 have e1:n.toNat / 256=(n / 256).toNat:=by omega
 have e2:((n.toNat % 256:Nat):Int)=n % 256:=by omega
 simp only [fx,e1,e2]
theorem fFixed_bad {n w:Int} (h:fIn w 1 7=false):[]=fFixed n w:=by simp [fFixed,h]
theorem fFixed_neg {n w:Int} (h:n<0):[]=fFixed n w:=by unfold fFixed;rw [if_neg (by omega)]
def c_impl_Fixed:Con:={A:=(.pair (.int .i64) (.int .i64)),shA:=[.one,.one],R:=.str,shR:=[(false,1)],pre:=fun _ a=>(pFixed a.1 a.2),f:=some fun _ a=>((fFixed a.1 a.2),((),()))}
def impl_Fixed.F (a0:Int) (a1:Int):Prop:=(True∧∀r1,(Eq r1 ((fIn a1 1 7),((),())))→(caseB (!r1.1) (Eq ([],((),())) ((fFixed a0 a1),((),()))) (caseB (decide (a0<(0:Int))) (Eq ([],((),())) ((fFixed a0 a1),((),()))) (0≤(wI ((8:Int)*a1))∧(caseB ((Int.fdiv a0 (2 ^ (min (tN (wI ((8:Int)*a1))) (IntKind.bits .i64))))!=(0:Int)) (Eq ([],((),())) ((fFixed a0 a1),((),()))) (eS [(0,.val false [.int .i64 a0])] [(0,.val false [.int .i64 a0])]∧((fxJ a0 a1 (wI (a1 - (1:Int))) ([]:List Int))∧∀(y2:(Int×(List Int))),(fxJ a0 a1 y2.1 y2.2)→(caseB (decide (y2.1≥(0:Int))) (0≤(wI ((8:Int)*y2.1))∧(List.length y2.2+List.length [(IntKind.wrap .u8 (Int.fdiv a0 (2 ^ (min (tN (wI ((8:Int)*y2.1))) (IntKind.bits .i64)))))]≤9223372036854775807∧((List.length y2.2+List.length [(IntKind.wrap .u8 (Int.fdiv a0 (2 ^ (min (tN (wI ((8:Int)*y2.1))) (IntKind.bits .i64)))))])*1≤140737488355328∧(eS [(0,.val false [.int .i64 a0])] [(0,.val false [.int .i64 a0])]∧(fxJ a0 a1 (wI (y2.1 - (1:Int))) (y2.2++[(IntKind.wrap .u8 (Int.fdiv a0 (2 ^ (min (tN (wI ((8:Int)*y2.1))) (IntKind.bits .i64)))))]))∧(fxN a0 a1 (wI (y2.1 - (1:Int))) (y2.2++[(IntKind.wrap .u8 (Int.fdiv a0 (2 ^ (min (tN (wI ((8:Int)*y2.1))) (IntKind.bits .i64)))))]))<(fxN a0 a1 y2.1 y2.2))))) (Eq ((List.map (fun n=>UInt8.ofNat (Int.toNat n)) y2.2),((),())) ((fFixed a0 a1),((),())))))))))))
def impl_Fixed.L (a0:Int) (a1:Int):Nat→Option LoopAnn:=fun p=>Go.Proofs.Ytgfgenbmjbhphaa.Bv.look p [(122,{kp:={hold:=[0],slots:=[5,6],boxes:=[],rows:=[{bx:=false,s:=5,i:=0,k:=1000643,e:=5,hot:=true}]},T:=(.pair (.int .i64) (.list (.int .u8))),I:=fun st y=>fxJ a0 a1 y.1 y.2,μ:=fun st y=>fxN a0 a1 y.1 y.2})]
theorem impl_Fixed.pure (a0:Int) (a1:Int) (h:(pFixed a0 a1)) (hw:Wf c_impl_Fixed.A (a0,a1)):impl_Fixed.F a0 a1:=by
 delta impl_Fixed.F tN wI eS
 have h0:=h
 have hin:fIn a1 1 7=true→1≤a1∧a1≤7:=fun h=>by simpa [fIn] using h
 simp only [forall_eq,true_and,and_true,caseB_iff,Prod.mk.injEq,decide_eq_true_eq,decide_eq_false_iff_not,Bool.not_eq_true',Bool.not_eq_false',bne_iff_ne,ne_eq,beq_iff_eq,Bool.not_true,Bool.not_false,beq_eq_false_iff_ne,bne_eq_false_iff_eq,List.length_append,List.length_cons,List.length_nil,List.append_nil,Nat.zero_add,decide_true,decide_false,eq_self_iff_true]
 refine⟨fun h=>fFixed_bad h,fun h=>⟨fun h2=>fFixed_neg h2,fun h2=>?_⟩⟩
 obtain⟨h3,h4⟩:=hin h
 have eb:IntKind.bits .i64=64:=rfl
 have e8:∀x:Int,0≤x→x≤7→(2:Int) ^ (min (IntKind.wrap .i64 (8*x)).toNat (IntKind.bits .i64))=256 ^ x.toNat:=fun x q1 q2=>by
  rw [w64 (by omega) (by omega),eb,show min (8*x).toNat 64=8*x.toNat by omega,pow256]
 have ef:∀x:Int,0≤x→x≤7→Int.fdiv a0 (2 ^ (min (IntKind.wrap .i64 (8*x)).toNat (IntKind.bits .i64)))=a0 / 256 ^ x.toNat:=fun x q1 q2=>by
  rw [e8 x q1 q2];exact Int.fdiv_eq_ediv_of_nonneg _ (Int.le_of_lt (pow256_pos _))
 rw [ef a1 (by omega) (by omega)]
 refine⟨by rw [w64 (by omega) (by omega)];omega,fun h5=>?_,fun h5=>?_⟩
 · unfold fFixed
   rw [if_neg]
   rintro⟨_,_,h6⟩
   exact h5 (Int.ediv_eq_zero_of_lt (by omega) h6)
 have h6:a0<256 ^ a1.toNat:=by
  have:=Int.lt_ediv_add_one_mul_self a0 (pow256_pos a1.toNat)
  rw [h5] at this;omega
 refine⟨⟨by rw [w64 (by omega) (by omega)];omega,by rw [w64 (by omega) (by omega)];omega,h3,h4,by omega,h6,by rw [w64 (by omega) (by omega),show (a1 - 1 - (a1 - 1)).toNat=0 by omega];rfl⟩,?_⟩
 rintro⟨i,out⟩ ⟨k1,k2,k3,k4,k5,k6,k7⟩
 simp only at k1 k2 k3 k4 k5 k6 k7 ⊢
 have hl:out.length=(a1 - 1 - i).toNat:=by rw [k7,fx_length]
 refine⟨fun hi=>?_,fun hi=>?_⟩
 · rw [ef i hi (by omega),w64 (x:=8*i) (by omega) (by omega),w64 (x:=i - 1) (by omega) (by omega),wrap_u8_mod]
   have hd:=div_nonneg256 k5 i.toNat
   refine⟨by omega,by omega,by omega,⟨by omega,by omega,k3,k4,k5,k6,?_⟩,by unfold fxN;omega⟩
   have e1:(a1 - 1 - (i - 1)).toNat=(a1 - 1 - i).toNat+1:=by omega
   have e2:(i - 1+1).toNat=i.toNat:=by omega
   rw [e1,e2,fx_step _ hd,k7,tn1 hi,div_pow_succ]
 · have e:i= -1:=by omega
   subst e
   have e1:(a1 - 1 - -1).toNat=a1.toNat:=by omega
   rw [e1] at k7
   unfold fFixed
   rw [if_pos ⟨h,k5,k6⟩,k7]
   show toBytes _=_
   rw [show ((-1:Int)+1).toNat=0 from rfl,Int.pow_zero,Int.ediv_one]
set_option maxRecDepth 100000 in
theorem impl_Fixed.eq:EqS c_impl_Fixed Try.f54 [9] [impl_from.e] [] (fun i x=>impl_Fixed.L x.1 x.2) (fun i x=>impl_Fixed.F x.1 x.2):=by intro i x;kernel_rfl
theorem impl_Fixed.ok:ConOk Try.prog 54 c_impl_Fixed:=okOf impl_Fixed.eq Try.func54 rfl (by kernel_rfl) fun i x h hi hw=>impl_Fixed.pure x.1 x.2 h hw
def impl_Fixed.e:GE:=⟨54,c_impl_Fixed,⟨_,Try.func54,rfl,rfl⟩,impl_Fixed.ok⟩
def crcBit (c:Nat):Nat:=if c % 2=1 then (c / 2) ^^^ 2197175160 else c / 2
def crcBits:Nat→Nat→Nat
 | 0,c=>c
 | k+1,c=>crcBit (crcBits k c)
def crcByte (c:Nat) (b:UInt8):Nat:=crcBits 8 (c ^^^ b.toNat)
def crcF (s:List UInt8):Nat:=s.foldl crcByte 4294967295
def fCrc (s:List UInt8):Int:=4294967295 - (crcF s:Int)
theorem xor_lt {a b:Nat} (h:a<4294967296) (h':b<4294967296):a ^^^ b<4294967296:=Nat.xor_lt_two_pow (n:=32) h h'
theorem crcBit_lt {c:Nat} (h:c<4294967296):crcBit c<4294967296:=by
 unfold crcBit;split
 · exact xor_lt (by omega) (by omega)
 · omega
theorem crcBits_lt {c:Nat} (h:c<4294967296):∀k,crcBits k c<4294967296
 | 0=>h
 | k+1=>crcBit_lt (crcBits_lt h k)
theorem crcByte_lt {c:Nat} (b:UInt8) (h:c<4294967296):crcByte c b<4294967296:=crcBits_lt (xor_lt h (by have:=b.toNat_lt;omega)) 8
theorem crcF_lt':∀(s:List UInt8) (c:Nat),c<4294967296→s.foldl crcByte c<4294967296
 | [],_,h=>h
 | b::s,c,h=>crcF_lt' s _ (crcByte_lt b h)
theorem crcF_lt (s:List UInt8):crcF s<4294967296:=crcF_lt' s _ (by omega)
theorem fCrc_in (s:List UInt8):0≤fCrc s∧fCrc s≤4294967295:=by have:=crcF_lt s;unfold fCrc;omega
theorem crcF_more (s:List UInt8) (i:Nat) (h:i<s.length):crcF (s.take (i+1))=crcByte (crcF (s.take i)) (s.getD i 0):=by
 rw [take_getD 0 h];simp [crcF]
theorem bv32 (x:Nat) (h:x<4294967296):(BitVec.ofInt 32 (x:Int)).toNat=x:=by
 rw [BitVec.toNat_ofInt];omega
theorem xor32 {x y:Nat} (hx:x<4294967296) (hy:y<4294967296):IntKind.wrap .u32 ((BitVec.ofInt (IntKind.bits .u32) (x:Int) ^^^ BitVec.ofInt (IntKind.bits .u32) (y:Int)).toNat:Int)=((x ^^^ y:Nat):Int):=by
 show IntKind.wrap .u32 ((BitVec.ofInt 32 (x:Int) ^^^ BitVec.ofInt 32 (y:Int)).toNat:Int)=_
 have:=xor_lt hx hy
 rw [BitVec.toNat_xor,bv32 x hx,bv32 y hy,Go.IntWalk.u32_in _ (by omega)]
theorem and32 {x:Nat} (hx:x<4294967296):IntKind.wrap .u32 ((BitVec.ofInt (IntKind.bits .u32) (x:Int)&&&BitVec.ofInt (IntKind.bits .u32) 1).toNat:Int)=((x % 2:Nat):Int):=by
 show IntKind.wrap .u32 ((BitVec.ofInt 32 (x:Int)&&&BitVec.ofInt 32 ((1:Nat):Int)).toNat:Int)=_
 rw [BitVec.toNat_and,bv32 x hx,bv32 1 (by omega),Nat.and_one_is_mod,Go.IntWalk.u32_in _ (by omega)]
theorem not32 {x:Nat} (hx:x<4294967296):IntKind.wrap .u32 ((BitVec.ofInt (IntKind.bits .u32) (if IntKind.signed .u32 then -1 else IntKind.max .u32) ^^^ BitVec.ofInt (IntKind.bits .u32) (x:Int)).toNat:Int)=4294967295 - (x:Int):=by
 show IntKind.wrap .u32 ((BitVec.ofInt 32 ((4294967295:Nat):Int) ^^^ BitVec.ofInt 32 (x:Int)).toNat:Int)=_
 have h2:=xor_lt (a:=4294967295) (b:=x) (by omega) hx
 have h3:4294967295 ^^^ x=4294967295 - x:=by
  have h4:(~~~ (BitVec.ofNat 32 x)).toNat=(BitVec.ofNat 32 4294967295 ^^^ BitVec.ofNat 32 x).toNat:=by
   congr 1
  rw [BitVec.toNat_not,BitVec.toNat_xor,BitVec.toNat_ofNat,BitVec.toNat_ofNat,Nat.mod_eq_of_lt (by omega),Nat.mod_eq_of_lt (by omega)] at h4
  omega
 rw [BitVec.toNat_xor,bv32 x hx,bv32 _ (by omega),h3,Go.IntWalk.u32_in _ (by omega)]
 omega
def pCrc (s:List UInt8):Prop:=s.length≤maxLen
def crI (s:List UInt8) (c i:Int):Prop:=0≤i∧i≤s.length∧c=((crcF (s.take i.toNat):Nat):Int)
def crM (s:List UInt8) (c i:Int):Nat:=(s.length - i).toNat
def crJ (s:List UInt8) (i c k:Int):Prop:=0≤i∧i<s.length∧0≤k∧k≤8∧c=((crcBits k.toNat (crcF (s.take i.toNat) ^^^ (s.getD i.toNat 0).toNat):Nat):Int)
def crN (s:List UInt8) (i c k:Int):Nat:=(8 - k).toNat
def c_impl_Crc:Con:={A:=.str,shA:=[.one],R:=(.int .i64),shR:=[(false,1)],pre:=fun _ a=>(pCrc a),f:=some fun _ a=>((fCrc a),((),()))}
def impl_Crc.F (a0:(List UInt8)):Prop:=(eS [(0,.val false [.str a0]),(7,.val false [.int .i64 (ln a0)])] [(0,.val false [.str a0]),(7,.val false [.int .i64 (ln a0)])]∧((crI a0 4294967295 0)∧∀(y1:(Int×Int)),(crI a0 y1.1 y1.2)→(caseB (decide (y1.2<(ln a0))) (0≤y1.2∧(y1.2<(ln a0)∧(eS [(0,.val false [.str a0]),(7,.val false [.int .i64 (ln a0)]),(8,.val false [.int .i64 y1.2])] [(0,.val false [.str a0]),(7,.val false [.int .i64 (ln a0)]),(8,.val false [.int .i64 y1.2])]∧((crJ a0 y1.2 (IntKind.wrap .u32 (BitVec.toNat (BitVec.ofInt (IntKind.bits .u32) y1.1 ^^^ BitVec.ofInt (IntKind.bits .u32) (IntKind.wrap .u32 ((UInt8.toNat (List.getD a0 (tN y1.2) 0):Nat):Int))))) 0)∧∀(y2:(Int×Int)),(crJ a0 y1.2 y2.1 y2.2)→(caseB (decide (y2.2<(8:Int))) (0≤(1:Int)∧(caseB ((IntKind.wrap .u32 (BitVec.toNat (BitVec.ofInt (IntKind.bits .u32) y2.1&&&BitVec.ofInt (IntKind.bits .u32) (1:Int))))==(1:Int)) (eS [(0,.val false [.str a0]),(7,.val false [.int .i64 (ln a0)]),(8,.val false [.int .i64 y1.2])] [(0,.val false [.str a0]),(7,.val false [.int .i64 (ln a0)]),(8,.val false [.int .i64 y1.2])]∧(crJ a0 y1.2 (IntKind.wrap .u32 (BitVec.toNat (BitVec.ofInt (IntKind.bits .u32) (Int.fdiv y2.1 (2 ^ (min (tN (1:Int)) (IntKind.bits .u32)))) ^^^ BitVec.ofInt (IntKind.bits .u32) (2197175160:Int)))) (wI (y2.2+(1:Int))))∧(crN a0 y1.2 (IntKind.wrap .u32 (BitVec.toNat (BitVec.ofInt (IntKind.bits .u32) (Int.fdiv y2.1 (2 ^ (min (tN (1:Int)) (IntKind.bits .u32)))) ^^^ BitVec.ofInt (IntKind.bits .u32) (2197175160:Int)))) (wI (y2.2+(1:Int))))<(crN a0 y1.2 y2.1 y2.2)) (eS [(0,.val false [.str a0]),(7,.val false [.int .i64 (ln a0)]),(8,.val false [.int .i64 y1.2])] [(0,.val false [.str a0]),(7,.val false [.int .i64 (ln a0)]),(8,.val false [.int .i64 y1.2])]∧(crJ a0 y1.2 (Int.fdiv y2.1 (2 ^ (min (tN (1:Int)) (IntKind.bits .u32)))) (wI (y2.2+(1:Int))))∧(crN a0 y1.2 (Int.fdiv y2.1 (2 ^ (min (tN (1:Int)) (IntKind.bits .u32)))) (wI (y2.2+(1:Int))))<(crN a0 y1.2 y2.1 y2.2)))) (eS [(0,.val false [.str a0]),(7,.val false [.int .i64 (ln a0)])] [(0,.val false [.str a0]),(7,.val false [.int .i64 (ln a0)])]∧(crI a0 y2.1 (wI (y1.2+(1:Int))))∧(crM a0 y2.1 (wI (y1.2+(1:Int))))<(crM a0 y1.1 y1.2))))))) (Eq ((wI (IntKind.wrap .u32 (BitVec.toNat (BitVec.ofInt (IntKind.bits .u32) (if IntKind.signed .u32 then -1 else IntKind.max .u32) ^^^ BitVec.ofInt (IntKind.bits .u32) y1.1)))),((),())) ((fCrc a0),((),()))))))
def impl_Crc.L (a0:(List UInt8)):Nat→Option LoopAnn:=fun p=>Go.Proofs.Ytgfgenbmjbhphaa.Bv.look p [(58,{kp:={hold:=[0,7],slots:=[3,8],boxes:=[],rows:=[]},T:=(.pair (.int .u32) (.int .i64)),I:=fun st y=>crI a0 y.1 y.2,μ:=fun st y=>crM a0 y.1 y.2}),(29902,{kp:={hold:=[0,7,8],slots:=[3,17],boxes:=[],rows:=[]},T:=(.pair (.int .u32) (.int .i64)),I:=fun st y=>crJ a0 (intC (cellAt st 8 0)) y.1 y.2,μ:=fun st y=>crN a0 (intC (cellAt st 8 0)) y.1 y.2})]
theorem impl_Crc.pure (a0:(List UInt8)) (h:(pCrc a0)) (hw:Wf c_impl_Crc.A a0):impl_Crc.F a0:=by
 delta impl_Crc.F ln tN wI eS
 simp only [forall_eq,true_and,and_true,caseB_iff,Prod.mk.injEq,decide_eq_true_eq,decide_eq_false_iff_not,Bool.not_eq_true',Bool.not_eq_false',bne_iff_ne,ne_eq,beq_iff_eq,Bool.not_true,Bool.not_false,beq_eq_false_iff_ne,bne_eq_false_iff_eq,List.length_append,List.length_cons,List.length_nil,List.append_nil,Nat.zero_add,decide_true,decide_false,eq_self_iff_true]
 have hl:a0.length≤maxLen:=h
 unfold maxLen at hl
 refine⟨⟨by omega,by omega,rfl⟩,?_⟩
 rintro⟨c,i⟩ ⟨h1,h2,h3⟩
 simp only at h1 h2 h3 ⊢
 have hc:=crcF_lt (a0.take i.toNat)
 refine⟨fun hi=>?_,fun hi=>?_⟩
 · have hb:=(a0.getD i.toNat 0).toNat_lt
   have hx:=xor_lt hc (show (a0.getD i.toNat 0).toNat<4294967296 by omega)
   rw [Go.IntWalk.u32_in ((a0.getD i.toNat 0).toNat:Int) (by omega),h3,xor32 hc (by omega)]
   refine⟨h1,hi,⟨h1,hi,by omega,by omega,rfl⟩,?_⟩
   rintro⟨c2,k⟩ ⟨q1,q2,q3,q4,q5⟩
   simp only at q1 q2 q3 q4 q5 ⊢
   have hcb:=crcBits_lt hx k.toNat
   refine⟨fun hk=>?_,fun hk=>?_⟩
   · have e1:IntKind.wrap .i64 (k+1)=k+1:=w64 (by omega) (by omega)
     have step:crJ a0 i ((crcBit (crcBits k.toNat (crcF (a0.take i.toNat) ^^^ (a0.getD i.toNat 0).toNat)):Nat):Int) (k+1):=⟨h1,hi,by omega,by omega,by rw [tn1 q3];rfl⟩
     have eb:min (Int.toNat 1) (IntKind.bits .u32)=1:=by decide
     have e3:Int.fdiv c2 (2 ^ 1)=c2 / 2:=Int.fdiv_eq_ediv_of_nonneg _ (by omega)
     rw [e1,eb,e3,q5,and32 hcb,show ((crcBits k.toNat (crcF (a0.take i.toNat) ^^^ (a0.getD i.toNat 0).toNat):Nat):Int) / 2=((crcBits k.toNat (crcF (a0.take i.toNat) ^^^ (a0.getD i.toNat 0).toNat) / 2:Nat):Int) by omega]
     refine⟨by omega,fun ho=>?_,fun ho=>?_⟩
     · rw [show (2197175160:Int)=((2197175160:Nat):Int) from rfl,xor32 (by omega) (by omega)]
       unfold crcBit at step
       rw [if_pos (by omega)] at step
       exact⟨step,by unfold crN;omega⟩
     · unfold crcBit at step
       rw [if_neg (by omega)] at step
       exact⟨step,by unfold crN;omega⟩
   · have e:k=8:=by omega
     subst e
     rw [w64 (x:=i+1) (by omega) (by omega)]
     refine⟨⟨by omega,by omega,?_⟩,by unfold crM;omega⟩
     rw [q5,tn1 h1,crcF_more a0 i.toNat (by omega)]
     rfl
 · have e:i.toNat=a0.length:=by omega
   rw [e,List.take_length] at h3
   have hc2:=crcF_lt a0
   rw [h3]
   rw [not32 hc2,w64 (by omega) (by omega)]
   rfl
set_option maxRecDepth 100000 in
theorem impl_Crc.eq:EqS c_impl_Crc Try.f55 [3] [] [] (fun i x=>impl_Crc.L x) (fun i x=>impl_Crc.F x):=by intro i x;kernel_rfl
theorem impl_Crc.ok:ConOk Try.prog 55 c_impl_Crc:=okOf impl_Crc.eq Try.func55 rfl (by kernel_rfl) fun i x h hi hw=>impl_Crc.pure x h hw
def impl_Crc.e:GE:=⟨55,c_impl_Crc,⟨_,Try.func55,rfl,rfl⟩,impl_Crc.ok⟩
def fFrame (b:List UInt8):List UInt8:=if fIn b.length 1 2000=true then fFixed b.length 4++fFixed (fCrc (fFixed b.length 4++b)) 4++b else []
theorem fFrame_length (b:List UInt8):(fFrame b).length≤2014:=by
 unfold fFrame
 split
 · rename_i h
   simp only [fIn,Bool.and_eq_true,decide_eq_true_eq] at h
   have h1:=fFixed_length b.length 4
   have h2:=fFixed_length (fCrc (fFixed b.length 4++b)) 4
   simp only [List.length_append];omega
 · simp
theorem fIn_iff {a l h:Int}:fIn a l h=true↔l≤a∧a≤h:=by simp [fIn]
theorem fIn_no {a l h:Int}:fIn a l h=false↔¬(l≤a∧a≤h):=by rw [←fIn_iff];simp
def c_impl_Frame:Con:={A:=.str,shA:=[.one],R:=.str,shR:=[(false,1)],pre:=fun _ _=>True,f:=some fun _ a=>((fFrame a),((),()))}
def impl_Frame.F (a0:(List UInt8)):Prop:=(True∧∀r1,(Eq r1 ((fIn (ln a0) 1 2000),((),())))→(caseB (!r1.1) (Eq ([],((),())) ((fFrame a0),((),()))) ((pFixed (ln a0) 4)∧∀r2,(Eq r2 ((fFixed (ln a0) 4),((),())))→(List.length r2.1+List.length a0≤9223372036854775807∧((pCrc (r2.1++a0))∧∀r3,(Eq r3 ((fCrc (r2.1++a0)),((),())))→((pFixed r3.1 4)∧∀r4,(Eq r4 ((fFixed r3.1 4),((),())))→(List.length r2.1+List.length r4.1≤9223372036854775807∧(List.length (r2.1++r4.1)+List.length a0≤9223372036854775807∧(Eq (((r2.1++r4.1)++a0),((),())) ((fFrame a0),((),())))))))))))
theorem impl_Frame.pure (a0:(List UInt8)) (h:True) (hw:Wf c_impl_Frame.A a0):impl_Frame.F a0:=by
 delta impl_Frame.F ln
 have h1:=fFixed_length a0.length 4
 have h2:=fFixed_length (fCrc (fFixed a0.length 4++a0)) 4
 have h3:=fCrc_in (fFixed a0.length 4++a0)
 simp only [forall_eq,true_and,and_true,caseB_iff,Prod.mk.injEq,decide_eq_true_eq,decide_eq_false_iff_not,Bool.not_eq_true',Bool.not_eq_false',bne_iff_ne,ne_eq,beq_iff_eq,Bool.not_true,Bool.not_false,beq_eq_false_iff_ne,bne_eq_false_iff_eq,List.length_append,List.length_cons,List.length_nil,List.append_nil,Nat.zero_add,decide_true,decide_false,eq_self_iff_true,pFixed,pCrc,maxLen,fIn_iff,fIn_no]
 repeat' (with_reducible (first | (refine And.intro ?_ ?_) | intro _))
 all_goals (try simp (disch:=omega) only [w64,wu8,tn0,tn1,tm1,tm2,List.length_append,List.length_cons,List.length_nil] at*)
 all_goals (try simp (disch:=omega) only [w64,wu8,tn0,tn1,tm1,tm2,List.length_append,List.length_cons,List.length_nil] at*)
 all_goals (try omega)
 all_goals (try grind [fFrame,fIn_iff])
 all_goals (unfold fFrame;rw [if_pos (fIn_iff.2 (by omega))])
set_option maxRecDepth 100000 in
theorem impl_Frame.eq:EqS c_impl_Frame Try.f50 [9] [impl_from.e,impl_Fixed.e,impl_Crc.e] [] noL (fun i x=>impl_Frame.F x):=by intro i x;kernel_rfl
theorem impl_Frame.ok:ConOk Try.prog 50 c_impl_Frame:=okOf impl_Frame.eq Try.func50 rfl (by kernel_rfl) fun i x h hi hw=>impl_Frame.pure x h hw
def impl_Frame.e:GE:=⟨50,c_impl_Frame,⟨_,Try.func50,rfl,rfl⟩,impl_Frame.ok⟩
end Go.Proofs.Ytgfgenbmjbhphaa.B
