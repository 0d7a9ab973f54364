/- Values of the program's types:how large,the same,marked. -/
import Derived.Test.YtnoapekdbmpiaaaCCover
namespace Go.Proofs.Ytnoapekdbmpiaaa.B
set_option linter.unusedVariables false
set_option linter.unusedSimpArgs false
open Go Go.Proofs.Ytnoapekdbmpiaaa.Bv
def cpI {α:Type} (d:α) (a:List α) (i:Int) (out:List α):Prop:=0≤i∧i≤a.length∧out=a.take i.toNat++List.replicate (a.length - i.toNat) d
def cpM {α:Type} (a:List α) (i:Int) (out:List α):Nat:=(a.length - i).toNat
def eqLI {α:Type} (a b:List α) (i:Int):Prop:=0≤i∧i≤a.length∧a.length=b.length∧a.take i.toNat=b.take i.toNat
def eqLM {α:Type} (a b:List α) (i:Int):Nat:=(a.length - i).toNat
theorem eqL_step {α:Type} {d:α} {a b:List α} {i:Int} (h:eqLI a b i) (hi:i<a.length) (he:a.getD i.toNat d=b.getD i.toNat d):eqLI a b (i+1):=by
 obtain⟨h1,h2,h3,h4⟩:=h
 refine⟨by omega,by omega,h3,?_⟩
 rw [tn1 h1,take_getD d (by omega),take_getD d (by omega),h4,he]
theorem eqL_end {α:Type} {a b:List α} {i:Int} (h:eqLI a b i) (hi:¬i<a.length):a=b:=by
 obtain⟨h1,h2,h3,h4⟩:=h
 have e:i.toNat=a.length:=by omega
 rw [e,List.take_length,h3,List.take_length] at h4
 exact h4
def cL {α:Type} (c:α→Int) (l:List α):Int:=(l.map c).sum
def mL {α:Type} (c:α→Int) (m:α→Int→α):List α→Int→List α
 | [],_=>[]
 | x::l,k=>m x k::mL c m l (k+c x)
def oL {α:Type} (c:α→Int) (o:α→Int→Bool):List α→Int→Bool
 | [],_=>true
 | x::l,k=>o x k&&oL c o l (k+c x)
def fHd (c:Int) (o:Bool) (k:Int):Int:=if o=true then k+c else -1
theorem fHd_neg {c k:Int} {o:Bool} (h0:0≤c) (h1:0≤k):fHd c o k<0↔o=false:=by
 unfold fHd;cases o<;>simp;omega
theorem fHd_yes {c k:Int} {o:Bool} (h:o=true):fHd c o k=k+c:=if_pos h
theorem cL_cons {α:Type} (c:α→Int) (x:α) (l:List α):cL c (x::l)=c x+cL c l:=by simp [cL]
theorem cL_append {α:Type} (c:α→Int) (l r:List α):cL c (l++r)=cL c l+cL c r:=by simp [cL]
theorem cL_pos {α:Type} {c:α→Int} (h:∀x,0≤c x):∀l,0≤cL c l
 | []=>by simp [cL]
 | x::l=>by have:=cL_pos h l;have:=h x;rw [cL_cons];omega
theorem cL_split {α:Type} (c:α→Int) (d:α) {l:List α} {i:Nat} (h:i<l.length):cL c (l.take (i+1))=cL c (l.take i)+c (l.getD i d)∧cL c l=cL c (l.take i)+(c (l.getD i d)+cL c (l.drop (i+1))):=by
 constructor
 · rw [take_getD d h,cL_append];simp [cL]
 · conv=>lhs;rw [←List.take_append_drop i l,cL_append,drop_getD d h,cL_cons]
theorem mL_length {α:Type} (c:α→Int) (m:α→Int→α):∀l k,(mL c m l k).length=l.length
 | [],_=>rfl
 | x::l,k=>by simp [mL,mL_length c m l]
theorem mL_append {α:Type} (c:α→Int) (m:α→Int→α):∀l r k,mL c m (l++r) k=mL c m l k++mL c m r (k+cL c l)
 | [],r,k=>by simp [mL,cL]
 | x::l,r,k=>by simp only [List.cons_append,mL,mL_append c m l r,cL_cons];rw [Int.add_assoc]
theorem oL_mL {α:Type} {c:α→Int} {m:α→Int→α} {o:α→Int→Bool} (h:∀x k,o (m x k) k=true∧c (m x k)=c x):∀l k,oL c o (mL c m l k) k=true∧cL c (mL c m l k)=cL c l
 | [],k=>⟨rfl,rfl⟩
 | x::l,k=>by
   obtain⟨h1,h2⟩:=h x k
   obtain⟨h3,h4⟩:=oL_mL h l (k+c x)
   simp only [mL,oL,cL_cons,h1,h2,h3,h4,Bool.and_self,and_self]
structure mkI {α:Type} (c:α→Int) (m:α→Int→α) (a:List α) (k0 k i:Int) (l:List α):Prop where
 h1:0≤i
 h2:i≤a.length
 h3:k=k0+cL c (a.take i.toNat)
 h4:l=mL c m (a.take i.toNat) k0++a.drop i.toNat
def mkM {α:Type} (a:List α) (k0 k i:Int) (l:List α):Nat:=(a.length - i).toNat
theorem mk_len {α:Type} {c:α→Int} {m:α→Int→α} {a:List α} {k0 k i:Int} {l:List α} (h:mkI c m a k0 k i l):l.length=a.length:=by
 obtain⟨h1,h2,h3,h4⟩:=h
 rw [h4,List.length_append,mL_length,List.length_take,List.length_drop];omega
theorem mk_at {α:Type} {c:α→Int} {m:α→Int→α} {a:List α} {k0 k i:Int} {l:List α} {d:α} (h:mkI c m a k0 k i l) (hi:i<a.length):l.getD i.toNat d=a.getD i.toNat d:=by
 obtain⟨h1,h2,h3,h4⟩:=h
 have hl:(mL c m (a.take i.toNat) k0).length=i.toNat:=by rw [mL_length,List.length_take];omega
 rw [h4,List.getD_eq_getElem?_getD,List.getElem?_append_right (by omega),hl,Nat.sub_self,drop_getD d (by omega)]
 rfl
theorem mk_step {α:Type} {c:α→Int} {m:α→Int→α} {a:List α} {k0 k i:Int} {l:List α} {d x':α} {k':Int} (h:mkI c m a k0 k i l) (hi:i<a.length) (hx:x'=m (a.getD i.toNat d) k) (hk:k'=k+c (a.getD i.toNat d)):mkI c m a k0 k' (i+1) (l.set i.toNat x'):=by
 obtain⟨h1,h2,h3,h4⟩:=h
 have hi':i.toNat<a.length:=by omega
 have hl:(mL c m (a.take i.toNat) k0).length=i.toNat:=by rw [mL_length,List.length_take];omega
 refine⟨by omega,by omega,?_,?_⟩
 · rw [tn1 h1,(cL_split c d hi').1,hk,h3];omega
 · rw [tn1 h1,h4,take_getD d hi',mL_append,List.set_append_right _ _ (by omega),hl,Nat.sub_self,drop_getD d hi',List.set_cons_zero,List.append_assoc,hx,h3]
   rfl
theorem mk_end {α:Type} {c:α→Int} {m:α→Int→α} {a:List α} {k0 k i:Int} {l:List α} (h:mkI c m a k0 k i l) (hi:¬i<a.length):k=k0+cL c a∧l=mL c m a k0:=by
 obtain⟨h1,h2,h3,h4⟩:=h
 have e:i.toNat=a.length:=by omega
 rw [e,List.take_length] at h3 h4
 exact⟨h3,by rw [h4,List.drop_length,List.append_nil]⟩
structure hdI {α:Type} (c:α→Int) (o:α→Int→Bool) (a:List α) (k0 k i:Int):Prop where
 h1:0≤i
 h2:i≤a.length
 h3:k=k0+cL c (a.take i.toNat)
 h4:oL c o a k0=oL c o (a.drop i.toNat) k
def hdM {α:Type} (a:List α) (k0 k i:Int):Nat:=(a.length - i).toNat
theorem hd_step {α:Type} {c:α→Int} {o:α→Int→Bool} {a:List α} {k0 k i k':Int} (d:α) (h:hdI c o a k0 k i) (hi:i<a.length) (ho:o (a.getD i.toNat d) k=true) (hk:k'=k+c (a.getD i.toNat d)):hdI c o a k0 k' (i+1):=by
 obtain⟨h1,h2,h3,h4⟩:=h
 have hi':i.toNat<a.length:=by omega
 refine⟨by omega,by omega,?_,?_⟩
 · rw [tn1 h1,(cL_split c d hi').1,hk,h3];omega
 · rw [tn1 h1,h4,drop_getD d hi'];simp only [oL,ho,Bool.true_and,hk]
theorem hd_no {α:Type} {c:α→Int} {o:α→Int→Bool} {a:List α} {k0 k i:Int} (d:α) (h:hdI c o a k0 k i) (hi:i<a.length) (ho:o (a.getD i.toNat d) k=false):-1=fHd (cL c a) (oL c o a k0) k0:=by
 obtain⟨h1,h2,h3,h4⟩:=h
 rw [h4,drop_getD d (by omega)]
 show -1=fHd _ (o (a.getD i.toNat d) k&&oL c o _ _) _
 rw [ho,Bool.false_and];rfl
theorem hd_end {α:Type} {c:α→Int} {o:α→Int→Bool} {a:List α} {k0 k i:Int} (h:hdI c o a k0 k i) (hi:¬i<a.length):k=fHd (cL c a) (oL c o a k0) k0:=by
 obtain⟨h1,h2,h3,h4⟩:=h
 have e:i.toNat=a.length:=by omega
 rw [e,List.take_length] at h3
 rw [e,List.drop_length] at h4
 rw [h4]
 show k=fHd (cL c a) true k0
 rw [fHd_yes rfl,h3]
theorem getD_set_self {α:Type} {l:List α} {i:Nat} {v d:α} (h:i<l.length):List.getD (List.set l i v) i d=v:=by
 rw [List.getD_eq_getElem?_getD,List.getElem?_set_self h];rfl
def mtGo (n:Nat) (out:List UInt8):List UInt8:=if n=0 then out else mtGo (n / 10) (UInt8.ofNat (48+n % 10)::out)
termination_by n
decreasing_by omega
def pMT (k:Int):Prop:=k≤4611686018427387904
def mtI (k0 k:Int) (out:List UInt8):Prop:=0≤k∧0<k0∧out.length+k≤k0∧k0≤4611686018427387904∧mtGo k.toNat out=mtGo k0.toNat []
def mtM (k0 k:Int) (out:List UInt8):Nat:=k.toNat
def laws_markText.L (a0:Int):Nat→Option LoopAnn:=fun p=>Go.Proofs.Ytnoapekdbmpiaaa.Bv.look p [(60,{kp:={hold:=[],slots:=[0,3],boxes:=[],rows:=[]},T:=(.pair (.int .i64) .str),I:=fun st y=>mtI a0 y.1 y.2,μ:=fun st y=>mtM a0 y.1 y.2})]
def c_1 (x:Int):Int:=1
def m_Int (x k:Int):Int:=k
def o_Int (x k:Int):Bool:=decide (x=k)
def laws_toIntS.L (a0:(List Int)):Nat→Option LoopAnn:=fun p=>Go.Proofs.Ytnoapekdbmpiaaa.Bv.look p [(58,{kp:={hold:=[0,3],slots:=[4],boxes:=[],rows:=[{bx:=false,s:=3,i:=0,k:=1000387,e:=3,hot:=true}]},T:=(.pair (.int .i64) (.list (.int .i64))),I:=fun st y=>cpI (0:Int) a0 y.1 y.2,μ:=fun st y=>cpM a0 y.1 y.2})]
def laws_eqIntS.L (a0:(List Int)) (a1:(List Int)):Nat→Option LoopAnn:=fun p=>Go.Proofs.Ytnoapekdbmpiaaa.Bv.look p [(58,{kp:={hold:=[0,1],slots:=[5],boxes:=[],rows:=[]},T:=(.int .i64),I:=fun st y=>eqLI a0 a1 y,μ:=fun st y=>eqLM a0 a1 y})]
def laws_markIntS.L (a0:(List Int)) (a1:Int):Nat→Option LoopAnn:=fun p=>Go.Proofs.Ytnoapekdbmpiaaa.Bv.look p [(26,{kp:={hold:=[0],slots:=[1,5],boxes:=[],rows:=[{bx:=false,s:=0,i:=0,k:=2,e:=3,hot:=true}]},T:=(.pair (.int .i64) (.pair (.int .i64) (.list (.int .i64)))),I:=fun st y=>mkI c_1 m_Int a0 a1 y.1 y.2.1 y.2.2,μ:=fun st y=>mkM a0 a1 y.1 y.2.1 y.2.2})]
def laws_heldIntS.L (a0:(List Int)) (a1:Int):Nat→Option LoopAnn:=fun p=>Go.Proofs.Ytnoapekdbmpiaaa.Bv.look p [(26,{kp:={hold:=[0],slots:=[1,5],boxes:=[],rows:=[]},T:=(.pair (.int .i64) (.int .i64)),I:=fun st y=>hdI c_1 o_Int a0 a1 y.1 y.2,μ:=fun st y=>hdM a0 a1 y.1 y.2})]
end Go.Proofs.Ytnoapekdbmpiaaa.B
