/- Values of the program's types:how large,the same,marked. -/
import Derived.Test.YtnoapekdbmpiaaaGreatCCover
namespace Go.Proofs.YtnoapekdbmpiaaaGreat.B
set_option linter.unusedVariables false
set_option linter.unusedSimpArgs false
open Go Go.Proofs.YtnoapekdbmpiaaaGreat.Bv
def sumT {α:Type} (n:α→Nat) (l:List α) (i:Nat):Nat:=((l.take i).map n).sum
theorem sumT_zero {α:Type} (n:α→Nat) (l:List α):sumT n l 0=0:=by simp [sumT]
theorem sumT_succ {α:Type} (n:α→Nat) (l:List α) (d:α) {i:Nat} (h:i<l.length):sumT n l (i+1)=sumT n l i+n (l.getD i d):=by
 unfold sumT;rw [take_getD d h,List.map_append,List.sum_append];simp
theorem sumT_le {α:Type} (n:α→Nat) (l:List α) (i:Nat):sumT n l i≤sumT n l l.length:=by
 have h:l.take l.length=l.take i++l.drop i:=by rw [List.take_length,List.take_append_drop]
 unfold sumT;rw [h,List.map_append,List.sum_append];omega
def nL {α:Type} (n:α→Nat) (l:List α):Nat:=l.length+sumT n l l.length
theorem sum_mem {α:Type} (n:α→Nat) {x:α}:∀{l:List α},x∈l→n x≤(l.map n).sum
 | y::l,h=>by
   rw [List.map_cons,List.sum_cons]
   rcases List.mem_cons.1 h with rfl | h
   · omega
   · have:=sum_mem n h;omega
theorem nL_mem {α:Type} (n:α→Nat) {l:List α} {x:α} (h:x∈l):n x+1≤nL n l:=by
 have h1:=sum_mem n h
 have h2:0<l.length:=List.length_pos_of_mem h
 unfold nL sumT;rw [List.take_length];omega
def fSz (n:Nat) (left:Int):Int:=if left<n then -1 else left - n
theorem fSz_no {n:Nat} {left:Int} (h:left<n):fSz n left= -1:=if_pos h
theorem fSz_yes {n:Nat} {left:Int} (h:¬left<n):fSz n left=left - n:=if_neg h
def szLI {α:Type} (n:α→Nat) (a:List α) (left0 left i:Int):Prop:=0≤i∧i≤a.length∧0≤left∧left0=left+a.length+sumT n a i.toNat
def szLM {α:Type} (a:List α) (left0 left i:Int):Nat:=(a.length - i).toNat
def cpI {α:Type} (d:α) (a:List α) (i:Int) (out:List α):Prop:=0≤i∧i≤a.length∧out=a.take i.toNat++List.replicate (a.length - i.toNat) d
def cpM {α:Type} (a:List α) (i:Int) (out:List α):Nat:=(a.length - i).toNat
theorem cp_len {α:Type} {d:α} {a:List α} {i:Int} {out:List α} (h:cpI d a i out):out.length=a.length:=by
 obtain⟨h1,h2,h3⟩:=h
 rw [h3,List.length_append,List.length_take,List.length_replicate];omega
theorem cp_step {α:Type} {d:α} {a:List α} {i:Int} {out:List α} (h:cpI d a i out) (hi:i<a.length):cpI d a (i+1) (out.set i.toNat (a.getD i.toNat d)):=by
 obtain⟨h1,h2,h3⟩:=h
 refine⟨by omega,by omega,?_⟩
 rw [tn1 h1,h3,take_getD d (by omega:i.toNat<a.length)]
 have e:a.length - i.toNat=(a.length - (i.toNat+1))+1:=by omega
 have hl:(a.take i.toNat).length=i.toNat:=by rw [List.length_take];omega
 rw [e,List.replicate_succ,List.set_append_right _ _ (by omega),hl,Nat.sub_self,List.set_cons_zero,List.append_assoc]
 rfl
theorem cp_end {α:Type} {d:α} {a:List α} {i:Int} {out:List α} (h:cpI d a i out) (hi:¬i<a.length):out=a:=by
 obtain⟨h1,h2,h3⟩:=h
 have e:i.toNat=a.length:=by omega
 rw [h3,e,List.take_length,Nat.sub_self];simp
def eqLI {α:Type} (a b:List α) (i:Int):Prop:=0≤i∧i≤a.length∧a.length=b.length∧a.take i.toNat=b.take i.toNat
def eqLM {α:Type} (a b:List α) (i:Int):Nat:=(a.length - i).toNat
theorem eqL_step {α:Type} {d:α} {a b:List α} {i:Int} (h:eqLI a b i) (hi:i<a.length) (he:a.getD i.toNat d=b.getD i.toNat d):eqLI a b (i+1):=by
 obtain⟨h1,h2,h3,h4⟩:=h
 refine⟨by omega,by omega,h3,?_⟩
 rw [tn1 h1,take_getD d (by omega),take_getD d (by omega),h4,he]
theorem eqL_end {α:Type} {a b:List α} {i:Int} (h:eqLI a b i) (hi:¬i<a.length):a=b:=by
 obtain⟨h1,h2,h3,h4⟩:=h
 have e:i.toNat=a.length:=by omega
 rw [e,List.take_length,h3,List.take_length] at h4
 exact h4
def cL {α:Type} (c:α→Int) (l:List α):Int:=(l.map c).sum
def mL {α:Type} (c:α→Int) (m:α→Int→α):List α→Int→List α
 | [],_=>[]
 | x::l,k=>m x k::mL c m l (k+c x)
def oL {α:Type} (c:α→Int) (o:α→Int→Bool):List α→Int→Bool
 | [],_=>true
 | x::l,k=>o x k&&oL c o l (k+c x)
def fHd (c:Int) (o:Bool) (k:Int):Int:=if o=true then k+c else -1
theorem fHd_neg {c k:Int} {o:Bool} (h0:0≤c) (h1:0≤k):fHd c o k<0↔o=false:=by
 unfold fHd;cases o<;>simp;omega
theorem fHd_yes {c k:Int} {o:Bool} (h:o=true):fHd c o k=k+c:=if_pos h
theorem cL_nil {α:Type} (c:α→Int):cL c []=0:=rfl
theorem cL_cons {α:Type} (c:α→Int) (x:α) (l:List α):cL c (x::l)=c x+cL c l:=by simp [cL]
theorem cL_append {α:Type} (c:α→Int) (l r:List α):cL c (l++r)=cL c l+cL c r:=by simp [cL]
theorem cL_pos {α:Type} {c:α→Int} (h:∀x,0≤c x):∀l,0≤cL c l
 | []=>by simp [cL]
 | x::l=>by have:=cL_pos h l;have:=h x;rw [cL_cons];omega
theorem cL_split {α:Type} (c:α→Int) (d:α) {l:List α} {i:Nat} (h:i<l.length):cL c (l.take (i+1))=cL c (l.take i)+c (l.getD i d)∧cL c l=cL c (l.take i)+(c (l.getD i d)+cL c (l.drop (i+1))):=by
 constructor
 · rw [take_getD d h,cL_append];simp [cL]
 · conv=>lhs;rw [←List.take_append_drop i l,cL_append,drop_getD d h,cL_cons]
theorem mL_length {α:Type} (c:α→Int) (m:α→Int→α):∀l k,(mL c m l k).length=l.length
 | [],_=>rfl
 | x::l,k=>by simp [mL,mL_length c m l]
theorem mL_append {α:Type} (c:α→Int) (m:α→Int→α):∀l r k,mL c m (l++r) k=mL c m l k++mL c m r (k+cL c l)
 | [],r,k=>by simp [mL,cL]
 | x::l,r,k=>by simp only [List.cons_append,mL,mL_append c m l r,cL_cons];rw [Int.add_assoc]
theorem oL_mL {α:Type} {c:α→Int} {m:α→Int→α} {o:α→Int→Bool} (h:∀x k,o (m x k) k=true∧c (m x k)=c x):∀l k,oL c o (mL c m l k) k=true∧cL c (mL c m l k)=cL c l
 | [],k=>⟨rfl,rfl⟩
 | x::l,k=>by
   obtain⟨h1,h2⟩:=h x k
   obtain⟨h3,h4⟩:=oL_mL h l (k+c x)
   simp only [mL,oL,cL_cons,h1,h2,h3,h4,Bool.and_self,and_self]
structure mkI {α:Type} (c:α→Int) (m:α→Int→α) (a:List α) (k0 k i:Int) (l:List α):Prop where
 h1:0≤i
 h2:i≤a.length
 h3:k=k0+cL c (a.take i.toNat)
 h4:l=mL c m (a.take i.toNat) k0++a.drop i.toNat
def mkM {α:Type} (a:List α) (k0 k i:Int) (l:List α):Nat:=(a.length - i).toNat
theorem mk_len {α:Type} {c:α→Int} {m:α→Int→α} {a:List α} {k0 k i:Int} {l:List α} (h:mkI c m a k0 k i l):l.length=a.length:=by
 obtain⟨h1,h2,h3,h4⟩:=h
 rw [h4,List.length_append,mL_length,List.length_take,List.length_drop];omega
theorem mk_at {α:Type} {c:α→Int} {m:α→Int→α} {a:List α} {k0 k i:Int} {l:List α} {d:α} (h:mkI c m a k0 k i l) (hi:i<a.length):l.getD i.toNat d=a.getD i.toNat d:=by
 obtain⟨h1,h2,h3,h4⟩:=h
 have hl:(mL c m (a.take i.toNat) k0).length=i.toNat:=by rw [mL_length,List.length_take];omega
 rw [h4,List.getD_eq_getElem?_getD,List.getElem?_append_right (by omega),hl,Nat.sub_self,drop_getD d (by omega)]
 rfl
theorem mk_step {α:Type} {c:α→Int} {m:α→Int→α} {a:List α} {k0 k i:Int} {l:List α} {d x':α} {k':Int} (h:mkI c m a k0 k i l) (hi:i<a.length) (hx:x'=m (a.getD i.toNat d) k) (hk:k'=k+c (a.getD i.toNat d)):mkI c m a k0 k' (i+1) (l.set i.toNat x'):=by
 obtain⟨h1,h2,h3,h4⟩:=h
 have hi':i.toNat<a.length:=by omega
 have hl:(mL c m (a.take i.toNat) k0).length=i.toNat:=by rw [mL_length,List.length_take];omega
 refine⟨by omega,by omega,?_,?_⟩
 · rw [tn1 h1,(cL_split c d hi').1,hk,h3];omega
 · rw [tn1 h1,h4,take_getD d hi',mL_append,List.set_append_right _ _ (by omega),hl,Nat.sub_self,drop_getD d hi',List.set_cons_zero,List.append_assoc,hx,h3]
   rfl
theorem mk_end {α:Type} {c:α→Int} {m:α→Int→α} {a:List α} {k0 k i:Int} {l:List α} (h:mkI c m a k0 k i l) (hi:¬i<a.length):k=k0+cL c a∧l=mL c m a k0:=by
 obtain⟨h1,h2,h3,h4⟩:=h
 have e:i.toNat=a.length:=by omega
 rw [e,List.take_length] at h3 h4
 exact⟨h3,by rw [h4,List.drop_length,List.append_nil]⟩
structure hdI {α:Type} (c:α→Int) (o:α→Int→Bool) (a:List α) (k0 k i:Int):Prop where
 h1:0≤i
 h2:i≤a.length
 h3:k=k0+cL c (a.take i.toNat)
 h4:oL c o a k0=oL c o (a.drop i.toNat) k
def hdM {α:Type} (a:List α) (k0 k i:Int):Nat:=(a.length - i).toNat
theorem hd_step {α:Type} {c:α→Int} {o:α→Int→Bool} {a:List α} {k0 k i k':Int} (d:α) (h:hdI c o a k0 k i) (hi:i<a.length) (ho:o (a.getD i.toNat d) k=true) (hk:k'=k+c (a.getD i.toNat d)):hdI c o a k0 k' (i+1):=by
 obtain⟨h1,h2,h3,h4⟩:=h
 have hi':i.toNat<a.length:=by omega
 refine⟨by omega,by omega,?_,?_⟩
 · rw [tn1 h1,(cL_split c d hi').1,hk,h3];omega
 · rw [tn1 h1,h4,drop_getD d hi'];simp only [oL,ho,Bool.true_and,hk]
theorem hd_no {α:Type} {c:α→Int} {o:α→Int→Bool} {a:List α} {k0 k i:Int} (d:α) (h:hdI c o a k0 k i) (hi:i<a.length) (ho:o (a.getD i.toNat d) k=false):-1=fHd (cL c a) (oL c o a k0) k0:=by
 obtain⟨h1,h2,h3,h4⟩:=h
 rw [h4,drop_getD d (by omega)]
 show -1=fHd _ (o (a.getD i.toNat d) k&&oL c o _ _) _
 rw [ho,Bool.false_and];rfl
theorem hd_end {α:Type} {c:α→Int} {o:α→Int→Bool} {a:List α} {k0 k i:Int} (h:hdI c o a k0 k i) (hi:¬i<a.length):k=fHd (cL c a) (oL c o a k0) k0:=by
 obtain⟨h1,h2,h3,h4⟩:=h
 have e:i.toNat=a.length:=by omega
 rw [e,List.take_length] at h3
 rw [e,List.drop_length] at h4
 rw [h4]
 show k=fHd (cL c a) true k0
 rw [fHd_yes rfl,h3]
theorem getD_set_self {α:Type} {l:List α} {i:Nat} {v d:α} (h:i<l.length):List.getD (List.set l i v) i d=v:=by
 rw [List.getD_eq_getElem?_getD,List.getElem?_set_self h];rfl
def mtGo (n:Nat) (out:List UInt8):List UInt8:=if n=0 then out else mtGo (n / 10) (UInt8.ofNat (48+n % 10)::out)
termination_by n
decreasing_by omega
def pMT (k:Int):Prop:=k≤4611686018427387904
def fMT (k:Int):List UInt8:=if k≤0 then [109,48] else 109::mtGo k.toNat []
def mtI (k0 k:Int) (out:List UInt8):Prop:=0≤k∧0<k0∧out.length+k≤k0∧k0≤4611686018427387904∧mtGo k.toNat out=mtGo k0.toNat []
def mtM (k0 k:Int) (out:List UInt8):Nat:=k.toNat
def c_laws_markText:Con:={A:=(.int .i64),shA:=[.one],R:=.str,shR:=[(false,1)],pre:=fun _ a=>(pMT a),f:=some fun _ a=>((fMT a),((),()))}
def laws_markText.F (a0:Int):Prop:=(caseB (decide (a0≤(0:Int))) (Eq ([109,48],((),())) ((fMT a0),((),()))) (eS [] []∧((mtI a0 a0 [])∧∀(y1:(Int×(List UInt8))),(mtI a0 y1.1 y1.2)→(caseB (decide (y1.1>(0:Int))) ((10:Int)≠0∧(List.length (List.map (fun n=>UInt8.ofNat (Int.toNat n)) [(IntKind.wrap .u8 (wI ((48:Int)+(Int.tmod y1.1 (10:Int)))))])+List.length y1.2≤9223372036854775807∧((10:Int)≠0∧(eS [] []∧(mtI a0 (wI (Int.tdiv y1.1 (10:Int))) ((List.map (fun n=>UInt8.ofNat (Int.toNat n)) [(IntKind.wrap .u8 (wI ((48:Int)+(Int.tmod y1.1 (10:Int)))))])++y1.2))∧(mtM a0 (wI (Int.tdiv y1.1 (10:Int))) ((List.map (fun n=>UInt8.ofNat (Int.toNat n)) [(IntKind.wrap .u8 (wI ((48:Int)+(Int.tmod y1.1 (10:Int)))))])++y1.2))<(mtM a0 y1.1 y1.2))))) (List.length [109]+List.length y1.2≤9223372036854775807∧(Eq (([109]++y1.2),((),())) ((fMT a0),((),()))))))))
def laws_markText.L (a0:Int):Nat→Option LoopAnn:=fun p=>Go.Proofs.YtnoapekdbmpiaaaGreat.Bv.look p [(60,{kp:={hold:=[],slots:=[0,3],boxes:=[],rows:=[]},T:=(.pair (.int .i64) .str),I:=fun st y=>mtI a0 y.1 y.2,μ:=fun st y=>mtM a0 y.1 y.2})]
theorem laws_markText.pure (a0:Int) (h:(pMT a0)) (hw:Wf c_laws_markText.A a0):laws_markText.F a0:=by
 delta laws_markText.F wI eS
 simp only [forall_eq,true_and,and_true,caseB_iff,Prod.mk.injEq,decide_eq_true_eq,decide_eq_false_iff_not,Bool.not_eq_true',Bool.not_eq_false',bne_iff_ne,ne_eq,beq_iff_eq,Bool.not_true,Bool.not_false,beq_eq_false_iff_ne,bne_eq_false_iff_eq,List.length_append,List.length_cons,List.length_nil,List.append_nil,Nat.zero_add,decide_true,decide_false,eq_self_iff_true]
 have hp:a0≤4611686018427387904:=h
 refine⟨fun h1=>by simp [fMT,h1],fun h1=>⟨⟨by omega,by omega,by simp,hp,rfl⟩,?_⟩⟩
 rintro⟨k,out⟩ ⟨h2,h3,h4,h5,h6⟩
 simp only at h2 h3 h4 h5 h6 ⊢
 refine⟨fun hk=>?_,fun hk=>?_⟩
 · have e1:Int.tmod k 10=k % 10:=Int.tmod_eq_emod_of_nonneg h2
   have e2:Int.tdiv k 10=k / 10:=Int.tdiv_eq_ediv_of_nonneg h2
   rw [e1,e2,w64 (x:=48+k % 10) (by omega) (by omega),wu8 (by omega) (by omega),w64 (x:=k / 10) (by omega) (by omega)]
   rw [mtGo,if_neg (by omega)] at h6
   refine⟨by omega,by simp;omega,by omega,⟨by omega,h3,by simp;omega,h5,?_⟩,by unfold mtM;omega⟩
   have e3:(k / 10).toNat=k.toNat / 10:=by omega
   have e4:(48+k % 10).toNat=48+k.toNat % 10:=by omega
   rw [←h6,e3]
   show mtGo _ (UInt8.ofNat (48+k % 10).toNat::out)=_
   rw [e4]
 · have e:k=0:=by omega
   subst e
   rw [show Int.toNat 0=0 from rfl,mtGo,if_pos rfl] at h6
   refine⟨by omega,?_⟩
   unfold fMT
   rw [if_neg h1,←h6]
   rfl
set_option maxRecDepth 100000 in
theorem laws_markText.eq:EqS c_laws_markText Tryz.f70 [9] [] [] (fun i x=>laws_markText.L x) (fun i x=>laws_markText.F x):=by intro i x;kernel_rfl
theorem laws_markText.ok:ConOk Tryz.prog 70 c_laws_markText:=okOf laws_markText.eq Tryz.func70 rfl (by kernel_rfl) fun i x h hi hw=>laws_markText.pure x h hw
def laws_markText.e:GE:=⟨70,c_laws_markText,⟨_,Tryz.func70,rfl,rfl⟩,laws_markText.ok⟩
def c_1s (x:List UInt8):Int:=1
def m_String (x:List UInt8) (k:Int):List UInt8:=fMT k
def o_String (x:List UInt8) (k:Int):Bool:=decide (x=fMT k)
theorem pos_String:∀x:List UInt8,0≤c_1s x:=fun x=>by simp [c_1s]
def pSz_StringS (x:List (List UInt8)) (left:Int):Prop:=WfD (.list .str) x∧0≤left∧left≤1048576
def fSz_StringS (x:List (List UInt8)) (left:Int):Int:=fSz (nL (fun s=>List.length s) x) left
def c_laws_szStringS:Con:={A:=(.pair (.list .str) (.int .i64)),shA:=[.one,.one],R:=(.int .i64),shR:=[(false,1)],pre:=fun _ a=>(pSz_StringS a.1 a.2),f:=some fun _ a=>((fSz_StringS a.1 a.2),((),()))}
def laws_szStringS.F (a0:(List (List UInt8))) (a1:Int):Prop:=(caseB (decide ((wI (a1 - (ln a0)))<(0:Int))) (Eq ((-1),((),())) ((fSz_StringS a0 a1),((),()))) (eS [(0,.val false [.lst .str a0 none])] [(0,.val false [.lst .str a0 none])]∧((szLI (fun s:List UInt8=>List.length s) a0 a1 (wI (a1 - (ln a0))) 0)∧∀(y1:(Int×Int)),(szLI (fun s:List UInt8=>List.length s) a0 a1 y1.1 y1.2)→(caseB (decide (y1.2<(ln a0))) (0≤y1.2∧(y1.2<(ln a0)∧(caseB (decide ((wI (y1.1 - (ln (List.getD a0 (tN y1.2) []))))<(0:Int))) (Eq ((-1),((),())) ((fSz_StringS a0 a1),((),()))) (eS [(0,.val false [.lst .str a0 none])] [(0,.val false [.lst .str a0 none])]∧(szLI (fun s:List UInt8=>List.length s) a0 a1 (wI (y1.1 - (ln (List.getD a0 (tN y1.2) [])))) (wI (y1.2+(1:Int))))∧(szLM a0 a1 (wI (y1.1 - (ln (List.getD a0 (tN y1.2) [])))) (wI (y1.2+(1:Int))))<(szLM a0 a1 y1.1 y1.2))))) (Eq (y1.1,((),())) ((fSz_StringS a0 a1),((),())))))))
def laws_szStringS.L (a0:(List (List UInt8))) (a1:Int):Nat→Option LoopAnn:=fun p=>Go.Proofs.YtnoapekdbmpiaaaGreat.Bv.look p [(122,{kp:={hold:=[0],slots:=[1,5],boxes:=[],rows:=[]},T:=(.pair (.int .i64) (.int .i64)),I:=fun st y=>szLI (fun s:List UInt8=>List.length s) a0 a1 y.1 y.2,μ:=fun st y=>szLM a0 a1 y.1 y.2})]
theorem laws_szStringS.pure (a0:(List (List UInt8))) (a1:Int) (h:(pSz_StringS a0 a1)) (hw:Wf c_laws_szStringS.A (a0,a1)):laws_szStringS.F a0 a1:=by
 delta laws_szStringS.F ln tN wI eS
 obtain⟨hwf,p1,p2⟩:=h
 have hw1:a0.length≤9223372036854775807:=hwf.1
 simp only [forall_eq,true_and,and_true,caseB_iff,Prod.mk.injEq,decide_eq_true_eq,decide_eq_false_iff_not,Bool.not_eq_true',Bool.not_eq_false',bne_iff_ne,ne_eq,beq_iff_eq,Bool.not_true,Bool.not_false,beq_eq_false_iff_ne,bne_eq_false_iff_eq,List.length_append,List.length_cons,List.length_nil,List.append_nil,Nat.zero_add,decide_true,decide_false,eq_self_iff_true,fSz_StringS]
 rw [w64 (x:=a1 - (a0.length:Int)) (by omega) (by omega)]
 refine⟨fun h1=>(fSz_no (by unfold nL;omega)).symm,fun h1=>⟨⟨by omega,by omega,by omega,by rw [show Int.toNat 0=0 from rfl,sumT_zero];omega⟩,?_⟩⟩
 rintro⟨left,i⟩ ⟨h2,h3,h4,h5⟩
 simp only at h2 h3 h4 h5 ⊢
 refine⟨fun hi=>?_,fun hi=>?_⟩
 · have hm:a0.getD i.toNat ([]:(List UInt8))∈a0:=getD_mem (by omega)
   have s1:=sumT_succ (fun s:List UInt8=>List.length s) a0 ([]:(List UInt8)) (i:=i.toNat) (by omega)
   have s2:=sumT_le (fun s:List UInt8=>List.length s) a0 (i.toNat+1)
   have hwx:(a0.getD i.toNat ([]:(List UInt8))).length≤9223372036854775807:=hwf.2 _ hm
   rw [w64 (x:=left - ((a0.getD i.toNat ([]:(List UInt8))).length:Int)) (by omega) (by omega),w64 (x:=i+1) (by omega) (by omega)]
   refine⟨h2,hi,fun h6=>(fSz_no (by unfold nL;omega)).symm,fun h6=>⟨⟨by omega,by omega,by omega,by rw [tn1 h2];omega⟩,by unfold szLM;omega⟩⟩
 · have e:i.toNat=a0.length:=by omega
   rw [e] at h5
   rw [fSz_yes (by unfold nL;omega)]
   unfold nL;omega
set_option maxRecDepth 100000 in
theorem laws_szStringS.eq:EqS c_laws_szStringS Tryz.f56 [3] [] [] (fun i x=>laws_szStringS.L x.1 x.2) (fun i x=>laws_szStringS.F x.1 x.2):=by intro i x;kernel_rfl
theorem laws_szStringS.ok:ConOk Tryz.prog 56 c_laws_szStringS:=okOf laws_szStringS.eq Tryz.func56 rfl (by kernel_rfl) fun i x h hi hw=>laws_szStringS.pure x.1 x.2 h hw
def laws_szStringS.e:GE:=⟨56,c_laws_szStringS,⟨_,Tryz.func56,rfl,rfl⟩,laws_szStringS.ok⟩
def pTo_StringS (x:List (List UInt8)):Prop:=nL (fun s=>List.length s) x≤1048576
def fTo_StringS (x:List (List UInt8)):List (List UInt8):=x
def c_laws_toStringS:Con:={A:=(.list .str),shA:=[.one],R:=(.list .str),shR:=[(false,1)],fresh:=[(0,9)],pre:=fun _ a=>(pTo_StringS a),f:=some fun _ a=>((fTo_StringS a),((),()))}
def laws_toStringS.F (a0:(List (List UInt8))):Prop:=(0≤(ln a0)∧((ln a0)≤(ln a0)∧((ln a0)≤9223372036854775807∧(((16:Nat):Int)*(ln a0)≤140737488355328∧(eS [(0,.val false [.lst .str a0 none]),(3,.val false [.own .str 1000387])] [(0,.val false [.lst .str a0 none]),(3,.val false [.own .str 1000387])]∧((cpI ([]:(List UInt8)) a0 0 (List.replicate (tN (ln a0)) ([]:(List UInt8))))∧∀(y1:(Int×(List (List UInt8)))),(cpI ([]:(List UInt8)) a0 y1.1 y1.2)→(caseB (decide (y1.1<(ln a0))) (0≤y1.1∧(y1.1<(ln a0)∧(0≤y1.1∧(y1.1<(ln y1.2)∧(eS [(0,.val false [.lst .str a0 none]),(3,.val false [.own .str 1000387])] [(0,.val false [.lst .str a0 none]),(3,.val false [.own .str 1000387])]∧(cpI ([]:(List UInt8)) a0 (wI (y1.1+(1:Int))) (List.set y1.2 (tN y1.1) (List.getD a0 (tN y1.1) [])))∧(cpM a0 (wI (y1.1+(1:Int))) (List.set y1.2 (tN y1.1) (List.getD a0 (tN y1.1) [])))<(cpM a0 y1.1 y1.2)))))) (Eq (y1.2,((),())) ((fTo_StringS a0),((),()))))))))))
def laws_toStringS.L (a0:(List (List UInt8))):Nat→Option LoopAnn:=fun p=>Go.Proofs.YtnoapekdbmpiaaaGreat.Bv.look p [(58,{kp:={hold:=[0,3],slots:=[4],boxes:=[],rows:=[{bx:=false,s:=3,i:=0,k:=1000387,e:=9,hot:=true}]},T:=(.pair (.int .i64) (.list .str)),I:=fun st y=>cpI ([]:(List UInt8)) a0 y.1 y.2,μ:=fun st y=>cpM a0 y.1 y.2})]
theorem laws_toStringS.pure (a0:(List (List UInt8))) (h:(pTo_StringS a0)) (hw:Wf c_laws_toStringS.A a0):laws_toStringS.F a0:=by
 delta laws_toStringS.F ln tN wI eS
 have hb:a0.length≤1048576:=by have h1:nL (fun s=>List.length s) a0≤1048576:=h;unfold nL at h1;omega
 simp only [forall_eq,true_and,and_true,caseB_iff,Prod.mk.injEq,decide_eq_true_eq,decide_eq_false_iff_not,Bool.not_eq_true',Bool.not_eq_false',bne_iff_ne,ne_eq,beq_iff_eq,Bool.not_true,Bool.not_false,beq_eq_false_iff_ne,bne_eq_false_iff_eq,List.length_append,List.length_cons,List.length_nil,List.append_nil,Nat.zero_add,decide_true,decide_false,eq_self_iff_true,fTo_StringS]
 refine⟨by omega,by omega,by omega,by omega,⟨by omega,by omega,by simp⟩,?_⟩
 rintro⟨i,out⟩ hI
 simp only at hI ⊢
 refine⟨fun hi=>?_,fun hi=>cp_end hI hi⟩
 have hl:=cp_len hI
 have h3:=hI.2.1
 have h2:=hI.1
 rw [w64 (x:=i+1) (by omega) (by omega)]
 simp only [hl]
 exact⟨h2,hi,h2,hi,cp_step hI hi,by unfold cpM;omega⟩
set_option maxRecDepth 100000 in
theorem laws_toStringS.eq:EqS c_laws_toStringS Tryz.f61 [23] [] [] (fun i x=>laws_toStringS.L x) (fun i x=>laws_toStringS.F x):=by intro i x;kernel_rfl
theorem laws_toStringS.ok:ConOk Tryz.prog 61 c_laws_toStringS:=okOf laws_toStringS.eq Tryz.func61 rfl (by kernel_rfl) fun i x h hi hw=>laws_toStringS.pure x h hw
def laws_toStringS.e:GE:=⟨61,c_laws_toStringS,⟨_,Tryz.func61,rfl,rfl⟩,laws_toStringS.ok⟩
def fEq_StringS (a b:List (List UInt8)):Bool:=decide (a=b)
def c_laws_eqStringS:Con:={A:=(.pair (.list .str) (.list .str)),shA:=[.one,.one],R:=.bool,shR:=[(false,1)],pre:=fun _ _=>True,f:=some fun _ a=>((fEq_StringS a.1 a.2),((),()))}
def laws_eqStringS.F (a0:(List (List UInt8))) (a1:(List (List UInt8))):Prop:=(caseB ((ln a0)!=(ln a1)) (Eq (false,((),())) ((fEq_StringS a0 a1),((),()))) (eS [(0,.val false [.lst .str a0 none]),(1,.val false [.lst .str a1 none])] [(0,.val false [.lst .str a0 none]),(1,.val false [.lst .str a1 none])]∧((eqLI a0 a1 0)∧∀(y1:Int),(eqLI a0 a1 y1)→(caseB (decide (y1<(ln a0))) (0≤y1∧(y1<(ln a0)∧(0≤y1∧(y1<(ln a1)∧(caseB (!((List.getD a0 (tN y1) [])==(List.getD a1 (tN y1) []))) (Eq (false,((),())) ((fEq_StringS a0 a1),((),()))) (eS [(0,.val false [.lst .str a0 none]),(1,.val false [.lst .str a1 none])] [(0,.val false [.lst .str a0 none]),(1,.val false [.lst .str a1 none])]∧(eqLI a0 a1 (wI (y1+(1:Int))))∧(eqLM a0 a1 (wI (y1+(1:Int))))<(eqLM a0 a1 y1))))))) (Eq (true,((),())) ((fEq_StringS a0 a1),((),())))))))
def laws_eqStringS.L (a0:(List (List UInt8))) (a1:(List (List UInt8))):Nat→Option LoopAnn:=fun p=>Go.Proofs.YtnoapekdbmpiaaaGreat.Bv.look p [(58,{kp:={hold:=[0,1],slots:=[5],boxes:=[],rows:=[]},T:=(.int .i64),I:=fun st y=>eqLI a0 a1 y,μ:=fun st y=>eqLM a0 a1 y})]
theorem laws_eqStringS.pure (a0:(List (List UInt8))) (a1:(List (List UInt8))) (h:True) (hw:Wf c_laws_eqStringS.A (a0,a1)):laws_eqStringS.F a0 a1:=by
 delta laws_eqStringS.F ln tN wI eS
 have hw1:a0.length≤9223372036854775807:=hw.1.1
 simp only [forall_eq,true_and,and_true,caseB_iff,Prod.mk.injEq,decide_eq_true_eq,decide_eq_false_iff_not,Bool.not_eq_true',Bool.not_eq_false',bne_iff_ne,ne_eq,beq_iff_eq,Bool.not_true,Bool.not_false,beq_eq_false_iff_ne,bne_eq_false_iff_eq,List.length_append,List.length_cons,List.length_nil,List.append_nil,Nat.zero_add,decide_true,decide_false,eq_self_iff_true]
 refine⟨fun h1=>?_,fun h1=>?_⟩
 · have:a0≠a1:=fun e=>by subst e;simp at h1
   simp [fEq_StringS,this]
 have hl:a0.length=a1.length:=by omega
 refine⟨⟨by omega,by omega,hl,by simp⟩,?_⟩
 rintro i hI
 have h2:=hI.1
 have h3:=hI.2.1
 refine⟨fun hi=>⟨h2,hi,h2,by omega,fun hne=>?_,fun he=>?_⟩,fun hi=>?_⟩
 · have:a0≠a1:=fun e=>by subst e;simp at hne
   simp [fEq_StringS,this]
 · have hg:a0.getD i.toNat ([]:(List UInt8))=a1.getD i.toNat ([]:(List UInt8)):=by simpa using he
   rw [w64 (x:=i+1) (by omega) (by omega)]
   exact⟨eqL_step hI hi hg,by unfold eqLM;omega⟩
 · have h6:=eqL_end hI hi
   simp [fEq_StringS,h6]
set_option maxRecDepth 100000 in
theorem laws_eqStringS.eq:EqS c_laws_eqStringS Tryz.f66 [4] [] [] (fun i x=>laws_eqStringS.L x.1 x.2) (fun i x=>laws_eqStringS.F x.1 x.2):=by intro i x;kernel_rfl
theorem laws_eqStringS.ok:ConOk Tryz.prog 66 c_laws_eqStringS:=okOf laws_eqStringS.eq Tryz.func66 rfl (by kernel_rfl) fun i x h hi hw=>laws_eqStringS.pure x.1 x.2 h hw
def laws_eqStringS.e:GE:=⟨66,c_laws_eqStringS,⟨_,Tryz.func66,rfl,rfl⟩,laws_eqStringS.ok⟩
def pMk_StringS (l:List (List UInt8)) (k:Int):Prop:=0≤k∧k+cL c_1s l≤4611686018427387904
def fMk_StringS (l:List (List UInt8)) (k:Int):Int×List (List UInt8):=(k+cL c_1s l,mL c_1s m_String l k)
def c_laws_markStringS:Con:={A:=(.pair (.list .str) (.int .i64)),shA:=[.one,.one],backA:=[(0,9)],B:=(.list .str),R:=(.int .i64),shR:=[(false,1)],pre:=fun _ a=>(pMk_StringS a.1 a.2),f:=some fun _ a=>((fMk_StringS a.1 a.2).1,((),(fMk_StringS a.1 a.2).2))}
def laws_markStringS.F (a0:(List (List UInt8))) (a1:Int):Prop:=(eS [(0,.val false [.own .str 2])] [(0,.val false [.own .str 2])]∧((mkI c_1s m_String a0 a1 a1 0 a0)∧∀(y1:(Int×(Int×(List (List UInt8))))),(mkI c_1s m_String a0 a1 y1.1 y1.2.1 y1.2.2)→(caseB (decide (y1.2.1<(ln y1.2.2))) ((pMT y1.1)∧∀r2,(Eq r2 ((fMT y1.1),((),())))→(0≤y1.2.1∧(y1.2.1<(ln y1.2.2)∧(eS [(0,.val false [.own .str 2])] [(0,.val false [.own .str 2])]∧(mkI c_1s m_String a0 a1 (wI (y1.1+(1:Int))) (wI (y1.2.1+(1:Int))) (List.set y1.2.2 (tN y1.2.1) r2.1))∧(mkM a0 a1 (wI (y1.1+(1:Int))) (wI (y1.2.1+(1:Int))) (List.set y1.2.2 (tN y1.2.1) r2.1))<(mkM a0 a1 y1.1 y1.2.1 y1.2.2))))) (Eq (y1.1,((),y1.2.2)) ((fMk_StringS a0 a1).1,((),(fMk_StringS a0 a1).2))))))
def laws_markStringS.L (a0:(List (List UInt8))) (a1:Int):Nat→Option LoopAnn:=fun p=>Go.Proofs.YtnoapekdbmpiaaaGreat.Bv.look p [(26,{kp:={hold:=[0],slots:=[1,5],boxes:=[],rows:=[{bx:=false,s:=0,i:=0,k:=2,e:=9,hot:=true}]},T:=(.pair (.int .i64) (.pair (.int .i64) (.list .str))),I:=fun st y=>mkI c_1s m_String a0 a1 y.1 y.2.1 y.2.2,μ:=fun st y=>mkM a0 a1 y.1 y.2.1 y.2.2})]
theorem laws_markStringS.pure (a0:(List (List UInt8))) (a1:Int) (h:(pMk_StringS a0 a1)) (hw:Wf c_laws_markStringS.A (a0,a1)):laws_markStringS.F a0 a1:=by
 delta laws_markStringS.F ln tN wI eS
 obtain⟨p1,p2⟩:=h
 have hw1:a0.length≤9223372036854775807:=hw.1.1
 simp only [forall_eq,true_and,and_true,caseB_iff,Prod.mk.injEq,decide_eq_true_eq,decide_eq_false_iff_not,Bool.not_eq_true',Bool.not_eq_false',bne_iff_ne,ne_eq,beq_iff_eq,Bool.not_true,Bool.not_false,beq_eq_false_iff_ne,bne_eq_false_iff_eq,List.length_append,List.length_cons,List.length_nil,List.append_nil,Nat.zero_add,decide_true,decide_false,eq_self_iff_true]
 refine⟨⟨by omega,by omega,by simp [cL],by simp [mL]⟩,?_⟩
 rintro⟨k,i,l⟩ hI
 simp only at hI ⊢
 have hl:=mk_len hI
 have h2:=hI.1
 have h3:=hI.2
 refine⟨fun hi0=>?_,fun hi0=>?_⟩
 · have hi:i<(a0.length:Int):=by omega
   have hi':i.toNat<l.length:=by omega
   have hg:=mk_at (d:=([]:(List UInt8))) hI hi
   have hs:=cL_split c_1s ([]:(List UInt8)) (l:=a0) (i:=i.toNat) (by omega)
   have hk:=hI.3
   have c1:=cL_pos pos_String (a0.take i.toNat)
   have c2:=cL_pos pos_String (a0.drop (i.toNat+1))
   have c3:=pos_String (a0.getD i.toNat ([]:(List UInt8)))
   have hmod:Int.tmod k 3=k % 3:=Int.tmod_eq_emod_of_nonneg (by omega)
   have hc:c_1s (a0.getD i.toNat ([]:(List UInt8)))=c_1s (a0.getD i.toNat ([]:(List UInt8))):=rfl
   conv at hc=>rhs;unfold c_1s
   try simp only [hg,getD_set_self hi',List.set_set,List.length_set]
   try simp (disch:=first | omega | simp_all) only [getD_set_self,List.set_set,List.length_set,hg,w64,pMT]
   repeat' (with_reducible (first | (refine And.intro ?_ ?_) | intro _))
   all_goals (try simp+zetaDelta (disch:=first | omega | simp_all) only [hg,getD_set_self,List.set_set,List.length_set,w64,pMT])
   all_goals (first | omega | exact mk_step (d:=([]:(List UInt8))) hI hi (by simp [m_String,hmod]) (by omega) | (unfold mkM;omega) | skip)
 · obtain⟨e1,e2⟩:=mk_end hI (by omega)
   exact⟨e1,e2⟩
set_option maxRecDepth 100000 in
theorem laws_markStringS.eq:EqS c_laws_markStringS Tryz.f67 [3] [laws_markText.e] [] (fun i x=>laws_markStringS.L x.1 x.2) (fun i x=>laws_markStringS.F x.1 x.2):=by intro i x;kernel_rfl
theorem laws_markStringS.ok:ConOk Tryz.prog 67 c_laws_markStringS:=okOf laws_markStringS.eq Tryz.func67 rfl (by kernel_rfl) fun i x h hi hw=>laws_markStringS.pure x.1 x.2 h hw
def laws_markStringS.e:GE:=⟨67,c_laws_markStringS,⟨_,Tryz.func67,rfl,rfl⟩,laws_markStringS.ok⟩
def laws_heldStringS.L (a0:(List (List UInt8))) (a1:Int):Nat→Option LoopAnn:=fun p=>Go.Proofs.YtnoapekdbmpiaaaGreat.Bv.look p [(26,{kp:={hold:=[0],slots:=[1,5],boxes:=[],rows:=[]},T:=(.pair (.int .i64) (.int .i64)),I:=fun st y=>hdI c_1s o_String a0 a1 y.1 y.2,μ:=fun st y=>hdM a0 a1 y.1 y.2})]
end Go.Proofs.YtnoapekdbmpiaaaGreat.B
