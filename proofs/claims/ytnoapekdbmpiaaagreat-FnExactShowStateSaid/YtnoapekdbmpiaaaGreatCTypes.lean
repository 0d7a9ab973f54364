/- Values of the program's types:how large,the same,marked. -/
import Derived.Test.YtnoapekdbmpiaaaGreatCCover
set_option linter.unusedVariables false
set_option linter.unusedSimpArgs false
namespace Go.Proofs.YtnoapekdbmpiaaaGreat.B
open Go Go.Proofs.YtnoapekdbmpiaaaGreat.Bv
def sumT {α:Type} (n:α→Nat) (l:List α) (i:Nat):Nat:=((l.take i).map n).sum
theorem sumT_zero {α:Type} (n:α→Nat) (l:List α):sumT n l 0=0:=by simp [sumT]
theorem sumT_succ {α:Type} (n:α→Nat) (l:List α) (d:α) {i:Nat} (h:i<l.length):sumT n l (i+1)=sumT n l i+n (l.getD i d):=by
 unfold sumT;rw [take_getD d h,List.map_append,List.sum_append];simp
theorem sumT_le {α:Type} (n:α→Nat) (l:List α) (i:Nat):sumT n l i≤sumT n l l.length:=by
 have h:l.take l.length=l.take i++l.drop i:=by rw [List.take_length,List.take_append_drop]
 unfold sumT;rw [h,List.map_append,List.sum_append];omega
def nL {α:Type} (n:α→Nat) (l:List α):Nat:=l.length+sumT n l l.length
theorem sum_mem {α:Type} (n:α→Nat) {x:α}:∀{l:List α},x∈l→n x≤(l.map n).sum
 | y::l,h=>by
   rw [List.map_cons,List.sum_cons]
   rcases List.mem_cons.1 h with rfl | h
   · omega
   · have:=sum_mem n h;omega
theorem nL_mem {α:Type} (n:α→Nat) {l:List α} {x:α} (h:x∈l):n x+1≤nL n l:=by
 have h1:=sum_mem n h
 have h2:0<l.length:=List.length_pos_of_mem h
 unfold nL sumT;rw [List.take_length];omega
def fSz (n:Nat) (left:Int):Int:=if left<n then -1 else left - n
theorem fSz_no {n:Nat} {left:Int} (h:left<n):fSz n left= -1:=if_pos h
theorem fSz_yes {n:Nat} {left:Int} (h:¬left<n):fSz n left=left - n:=if_neg h
def szLI {α:Type} (n:α→Nat) (a:List α) (left0 left i:Int):Prop:=0≤i∧i≤a.length∧0≤left∧left0=left+a.length+sumT n a i.toNat
def szLM {α:Type} (a:List α) (left0 left i:Int):Nat:=(a.length - i).toNat
def cpI {α:Type} (d:α) (a:List α) (i:Int) (out:List α):Prop:=0≤i∧i≤a.length∧out=a.take i.toNat++List.replicate (a.length - i.toNat) d
def cpM {α:Type} (a:List α) (i:Int) (out:List α):Nat:=(a.length - i).toNat
theorem cp_len {α:Type} {d:α} {a:List α} {i:Int} {out:List α} (h:cpI d a i out):out.length=a.length:=by
 obtain⟨h1,h2,h3⟩:=h
 rw [h3,List.length_append,List.length_take,List.length_replicate];omega
theorem cp_step {α:Type} {d:α} {a:List α} {i:Int} {out:List α} (h:cpI d a i out) (hi:i<a.length):cpI d a (i+1) (out.set i.toNat (a.getD i.toNat d)):=by
 obtain⟨h1,h2,h3⟩:=h
 refine⟨by omega,by omega,?_⟩
 rw [tn1 h1,h3,take_getD d (by omega:i.toNat<a.length)]
 have e:a.length - i.toNat=(a.length - (i.toNat+1))+1:=by omega
 have hl:(a.take i.toNat).length=i.toNat:=by rw [List.length_take];omega
 rw [e,List.replicate_succ,List.set_append_right _ _ (by omega),hl,Nat.sub_self,List.set_cons_zero,List.append_assoc]
 rfl
theorem cp_end {α:Type} {d:α} {a:List α} {i:Int} {out:List α} (h:cpI d a i out) (hi:¬i<a.length):out=a:=by
 obtain⟨h1,h2,h3⟩:=h
 have e:i.toNat=a.length:=by omega
 rw [h3,e,List.take_length,Nat.sub_self];simp
def eqLI {α:Type} (a b:List α) (i:Int):Prop:=0≤i∧i≤a.length∧a.length=b.length∧a.take i.toNat=b.take i.toNat
def eqLM {α:Type} (a b:List α) (i:Int):Nat:=(a.length - i).toNat
theorem eqL_step {α:Type} {d:α} {a b:List α} {i:Int} (h:eqLI a b i) (hi:i<a.length) (he:a.getD i.toNat d=b.getD i.toNat d):eqLI a b (i+1):=by
 obtain⟨h1,h2,h3,h4⟩:=h
 refine⟨by omega,by omega,h3,?_⟩
 rw [tn1 h1,take_getD d (by omega),take_getD d (by omega),h4,he]
theorem eqL_end {α:Type} {a b:List α} {i:Int} (h:eqLI a b i) (hi:¬i<a.length):a=b:=by
 obtain⟨h1,h2,h3,h4⟩:=h
 have e:i.toNat=a.length:=by omega
 rw [e,List.take_length,h3,List.take_length] at h4
 exact h4
def cL {α:Type} (c:α→Int) (l:List α):Int:=(l.map c).sum
def mL {α:Type} (c:α→Int) (m:α→Int→α):List α→Int→List α
 | [],_=>[]
 | x::l,k=>m x k::mL c m l (k+c x)
def oL {α:Type} (c:α→Int) (o:α→Int→Bool):List α→Int→Bool
 | [],_=>true
 | x::l,k=>o x k&&oL c o l (k+c x)
theorem cL_nil {α:Type} (c:α→Int):cL c []=0:=rfl
theorem cL_cons {α:Type} (c:α→Int) (x:α) (l:List α):cL c (x::l)=c x+cL c l:=by simp [cL]
theorem cL_append {α:Type} (c:α→Int) (l r:List α):cL c (l++r)=cL c l+cL c r:=by simp [cL]
theorem cL_pos {α:Type} {c:α→Int} (h:∀x,0≤c x):∀l,0≤cL c l
 | []=>by simp [cL]
 | x::l=>by have:=cL_pos h l;have:=h x;rw [cL_cons];omega
theorem cL_split {α:Type} (c:α→Int) (d:α) {l:List α} {i:Nat} (h:i<l.length):cL c (l.take (i+1))=cL c (l.take i)+c (l.getD i d)∧cL c l=cL c (l.take i)+(c (l.getD i d)+cL c (l.drop (i+1))):=by
 constructor
 · rw [take_getD d h,cL_append];simp [cL]
 · conv=>lhs;rw [←List.take_append_drop i l,cL_append,drop_getD d h,cL_cons]
structure mkI {α:Type} (c:α→Int) (m:α→Int→α) (a:List α) (k0 k i:Int) (l:List α):Prop where
 h1:0≤i
 h2:i≤a.length
 h3:k=k0+cL c (a.take i.toNat)
 h4:l=mL c m (a.take i.toNat) k0++a.drop i.toNat
def mkM {α:Type} (a:List α) (k0 k i:Int) (l:List α):Nat:=(a.length - i).toNat
structure hdI {α:Type} (c:α→Int) (o:α→Int→Bool) (a:List α) (k0 k i:Int):Prop where
 h1:0≤i
 h2:i≤a.length
 h3:k=k0+cL c (a.take i.toNat)
 h4:oL c o a k0=oL c o (a.drop i.toNat) k
def hdM {α:Type} (a:List α) (k0 k i:Int):Nat:=(a.length - i).toNat
def mtGo (n:Nat) (out:List UInt8):List UInt8:=if n=0 then out else mtGo (n / 10) (UInt8.ofNat (48+n % 10)::out)
termination_by n
decreasing_by omega
def fMT (k:Int):List UInt8:=if k≤0 then [109,48] else 109::mtGo k.toNat []
def mtI (k0 k:Int) (out:List UInt8):Prop:=0≤k∧0<k0∧out.length+k≤k0∧k0≤4611686018427387904∧mtGo k.toNat out=mtGo k0.toNat []
def mtM (k0 k:Int) (out:List UInt8):Nat:=k.toNat
def laws_markText.L (a0:Int):Nat→Option LoopAnn:=fun p=>Go.Proofs.YtnoapekdbmpiaaaGreat.Bv.look p [(60,{kp:={hold:=[],slots:=[0,3],boxes:=[],rows:=[]},T:=(.pair (.int .i64) .str),I:=fun st y=>mtI a0 y.1 y.2,μ:=fun st y=>mtM a0 y.1 y.2})]
def c_1s (x:List UInt8):Int:=1
def m_String (x:List UInt8) (k:Int):List UInt8:=fMT k
def o_String (x:List UInt8) (k:Int):Bool:=decide (x=fMT k)
def pSz_StringS (x:List U5q) (left:Int):Prop:=WfD (.list .str) x∧0≤left∧left≤1048576
def fSz_StringS (x:List U5q) (left:Int):Int:=fSz (nL (fun s=>List.length s) x) left
def c_laws_szStringS:Con:={A:=(.pair (.list .str) (.int .i64)),shA:=[.one,.one],R:=(.int .i64),shR:=[(false,1)],pre:=fun _ a=>(pSz_StringS a.1 a.2),f:=some fun _ a=>((fSz_StringS a.1 a.2),((),()))}
def laws_szStringS.F (a0:(List U5q)) (a1:Int):Prop:=(caseB (decide ((wI (a1 - (ln a0)))<(0:Int))) (Eq ((-1),((),())) ((fSz_StringS a0 a1),((),()))) (eS [(0,.val false [.lst .str a0 none])] [(0,.val false [.lst .str a0 none])]∧((szLI (fun s:List UInt8=>List.length s) a0 a1 (wI (a1 - (ln a0))) 0)∧∀(y1:(Int×Int)),(szLI (fun s:List UInt8=>List.length s) a0 a1 y1.1 y1.2)→(caseB (decide (y1.2<(ln a0))) (0≤y1.2∧(y1.2<(ln a0)∧(caseB (decide ((wI (y1.1 - (ln (List.getD a0 (tN y1.2) []))))<(0:Int))) (Eq ((-1),((),())) ((fSz_StringS a0 a1),((),()))) (eS [(0,.val false [.lst .str a0 none])] [(0,.val false [.lst .str a0 none])]∧(szLI (fun s:List UInt8=>List.length s) a0 a1 (wI (y1.1 - (ln (List.getD a0 (tN y1.2) [])))) (wI (y1.2+(1:Int))))∧(szLM a0 a1 (wI (y1.1 - (ln (List.getD a0 (tN y1.2) [])))) (wI (y1.2+(1:Int))))<(szLM a0 a1 y1.1 y1.2))))) (Eq (y1.1,((),())) ((fSz_StringS a0 a1),((),())))))))
def laws_szStringS.L (a0:(List U5q)) (a1:Int):Nat→Option LoopAnn:=fun p=>Go.Proofs.YtnoapekdbmpiaaaGreat.Bv.look p [(122,{kp:={hold:=[0],slots:=[1,5],boxes:=[],rows:=[]},T:=T0q,I:=fun st y=>szLI (fun s:List UInt8=>List.length s) a0 a1 y.1 y.2,μ:=fun st y=>szLM a0 a1 y.1 y.2})]
theorem laws_szStringS.pure (a0:(List U5q)) (a1:Int) (h:(pSz_StringS a0 a1)) (hw:Wf c_laws_szStringS.A (a0,a1)):laws_szStringS.F a0 a1:=by
 delta laws_szStringS.F ln tN wI eS
 obtain⟨hwf,p1,p2⟩:=h
 have hw1:a0.length≤9223372036854775807:=hwf.1
 simp only [forall_eq,true_and,and_true,caseB_iff,Prod.mk.injEq,decide_eq_true_eq,decide_eq_false_iff_not,Bool.not_eq_true',Bool.not_eq_false',bne_iff_ne,ne_eq,beq_iff_eq,Bool.not_true,Bool.not_false,beq_eq_false_iff_ne,bne_eq_false_iff_eq,List.length_append,List.length_cons,List.length_nil,List.append_nil,Nat.zero_add,decide_true,decide_false,eq_self_iff_true,fSz_StringS]
 rw [w64 (x:=a1 - (a0.length:Int)) (by omega) (by omega)]
 refine⟨fun h1=>(fSz_no (by unfold nL;omega)).symm,fun h1=>⟨⟨by omega,by omega,by omega,by rw [show Int.toNat 0=0 from rfl,sumT_zero];omega⟩,?_⟩⟩
 rintro⟨left,i⟩ ⟨h2,h3,h4,h5⟩
 simp only at h2 h3 h4 h5 ⊢
 refine⟨fun hi=>?_,fun hi=>?_⟩
 · have hm:a0.getD i.toNat ([]:U5q)∈a0:=getD_mem (by omega)
   have s1:=sumT_succ (fun s:List UInt8=>List.length s) a0 ([]:U5q) (i:=i.toNat) (by omega)
   have s2:=sumT_le (fun s:List UInt8=>List.length s) a0 (i.toNat+1)
   have hwx:(a0.getD i.toNat ([]:U5q)).length≤9223372036854775807:=hwf.2 _ hm
   rw [w64 (x:=left - ((a0.getD i.toNat ([]:U5q)).length:Int)) (by omega) (by omega),w64 (x:=i+1) (by omega) (by omega)]
   refine⟨h2,hi,fun h6=>(fSz_no (by unfold nL;omega)).symm,fun h6=>⟨⟨by omega,by omega,by omega,by rw [tn1 h2];omega⟩,by unfold szLM;omega⟩⟩
 · have e:i.toNat=a0.length:=by omega
   rw [e] at h5
   rw [fSz_yes (by unfold nL;omega)]
   unfold nL;omega
set_option maxRecDepth 100000 in
theorem laws_szStringS.eq:EqS c_laws_szStringS Tryz.f56 [3] [] [] (fun i x=>laws_szStringS.L x.1 x.2) (fun i x=>laws_szStringS.F x.1 x.2):=by intro i x;kernel_rfl
theorem laws_szStringS.ok:ConOk Tryz.prog 56 c_laws_szStringS:=okOf laws_szStringS.eq Tryz.func56 rfl (by kernel_rfl) fun i x h hi hw=>laws_szStringS.pure x.1 x.2 h hw
def laws_szStringS.e:GE:=⟨56,c_laws_szStringS,⟨_,Tryz.func56,rfl,rfl⟩,laws_szStringS.ok⟩
def pTo_StringS (x:List U5q):Prop:=nL (fun s=>List.length s) x≤1048576
def fTo_StringS (x:List U5q):List U5q:=x
def c_laws_toStringS:Con:={A:=(.list .str),shA:=[.one],R:=(.list .str),shR:=[(false,1)],fresh:=[(0,9)],pre:=fun _ a=>(pTo_StringS a),f:=some fun _ a=>((fTo_StringS a),((),()))}
def laws_toStringS.F (a0:(List U5q)):Prop:=(0≤(ln a0)∧((ln a0)≤(ln a0)∧((ln a0)≤9223372036854775807∧(((16:Nat):Int)*(ln a0)≤140737488355328∧(eS [(0,.val false [.lst .str a0 none]),(3,.val false [.own .str 1000387])] [(0,.val false [.lst .str a0 none]),(3,.val false [.own .str 1000387])]∧((cpI ([]:U5q) a0 0 (List.replicate (tN (ln a0)) ([]:U5q)))∧∀(y1:(Int×(List U5q))),(cpI ([]:U5q) a0 y1.1 y1.2)→(caseB (decide (y1.1<(ln a0))) (0≤y1.1∧(y1.1<(ln a0)∧(0≤y1.1∧(y1.1<(ln y1.2)∧(eS [(0,.val false [.lst .str a0 none]),(3,.val false [.own .str 1000387])] [(0,.val false [.lst .str a0 none]),(3,.val false [.own .str 1000387])]∧(cpI ([]:U5q) a0 (wI (y1.1+(1:Int))) (List.set y1.2 (tN y1.1) (List.getD a0 (tN y1.1) [])))∧(cpM a0 (wI (y1.1+(1:Int))) (List.set y1.2 (tN y1.1) (List.getD a0 (tN y1.1) [])))<(cpM a0 y1.1 y1.2)))))) (Eq (y1.2,((),())) ((fTo_StringS a0),((),()))))))))))
def laws_toStringS.L (a0:(List U5q)):Nat→Option LoopAnn:=fun p=>Go.Proofs.YtnoapekdbmpiaaaGreat.Bv.look p [(58,{kp:={hold:=[0,3],slots:=[4],boxes:=[],rows:=[{bx:=false,s:=3,i:=0,k:=1000387,e:=9,hot:=true}]},T:=(.pair (.int .i64) (.list .str)),I:=fun st y=>cpI ([]:U5q) a0 y.1 y.2,μ:=fun st y=>cpM a0 y.1 y.2})]
theorem laws_toStringS.pure (a0:(List U5q)) (h:(pTo_StringS a0)) (hw:Wf c_laws_toStringS.A a0):laws_toStringS.F a0:=by
 delta laws_toStringS.F ln tN wI eS
 have hb:a0.length≤1048576:=by have h1:nL (fun s=>List.length s) a0≤1048576:=h;unfold nL at h1;omega
 simp only [forall_eq,true_and,and_true,caseB_iff,Prod.mk.injEq,decide_eq_true_eq,decide_eq_false_iff_not,Bool.not_eq_true',Bool.not_eq_false',bne_iff_ne,ne_eq,beq_iff_eq,Bool.not_true,Bool.not_false,beq_eq_false_iff_ne,bne_eq_false_iff_eq,List.length_append,List.length_cons,List.length_nil,List.append_nil,Nat.zero_add,decide_true,decide_false,eq_self_iff_true,fTo_StringS]
 refine⟨by omega,by omega,by omega,by omega,⟨by omega,by omega,by simp⟩,?_⟩
 rintro⟨i,out⟩ hI
 simp only at hI ⊢
 refine⟨fun hi=>?_,fun hi=>cp_end hI hi⟩
 have hl:=cp_len hI
 have h3:=hI.2.1
 have h2:=hI.1
 rw [w64 (x:=i+1) (by omega) (by omega)]
 simp only [hl]
 exact⟨h2,hi,h2,hi,cp_step hI hi,by unfold cpM;omega⟩
set_option maxRecDepth 100000 in
theorem laws_toStringS.eq:EqS c_laws_toStringS Tryz.f61 [23] [] [] (fun i x=>laws_toStringS.L x) (fun i x=>laws_toStringS.F x):=by intro i x;kernel_rfl
theorem laws_toStringS.ok:ConOk Tryz.prog 61 c_laws_toStringS:=okOf laws_toStringS.eq Tryz.func61 rfl (by kernel_rfl) fun i x h hi hw=>laws_toStringS.pure x h hw
def laws_toStringS.e:GE:=⟨61,c_laws_toStringS,⟨_,Tryz.func61,rfl,rfl⟩,laws_toStringS.ok⟩
def fEq_StringS (a b:List U5q):Bool:=decide (a=b)
def c_laws_eqStringS:Con:={A:=(.pair (.list .str) (.list .str)),shA:=[.one,.one],R:=.bool,shR:=[(false,1)],pre:=fun _ _=>True,f:=some fun _ a=>((fEq_StringS a.1 a.2),((),()))}
def laws_eqStringS.F (a0:(List U5q)) (a1:(List U5q)):Prop:=(caseB ((ln a0)!=(ln a1)) (Eq (false,((),())) ((fEq_StringS a0 a1),((),()))) (eS [(0,.val false [.lst .str a0 none]),(1,.val false [.lst .str a1 none])] [(0,.val false [.lst .str a0 none]),(1,.val false [.lst .str a1 none])]∧((eqLI a0 a1 0)∧∀(y1:Int),(eqLI a0 a1 y1)→(caseB (decide (y1<(ln a0))) (0≤y1∧(y1<(ln a0)∧(0≤y1∧(y1<(ln a1)∧(caseB (!((List.getD a0 (tN y1) [])==(List.getD a1 (tN y1) []))) (Eq (false,((),())) ((fEq_StringS a0 a1),((),()))) (eS [(0,.val false [.lst .str a0 none]),(1,.val false [.lst .str a1 none])] [(0,.val false [.lst .str a0 none]),(1,.val false [.lst .str a1 none])]∧(eqLI a0 a1 (wI (y1+(1:Int))))∧(eqLM a0 a1 (wI (y1+(1:Int))))<(eqLM a0 a1 y1))))))) (Eq (true,((),())) ((fEq_StringS a0 a1),((),())))))))
def laws_eqStringS.L (a0:(List U5q)) (a1:(List U5q)):Nat→Option LoopAnn:=fun p=>Go.Proofs.YtnoapekdbmpiaaaGreat.Bv.look p [(58,{kp:={hold:=[0,1],slots:=[5],boxes:=[],rows:=[]},T:=(.int .i64),I:=fun st y=>eqLI a0 a1 y,μ:=fun st y=>eqLM a0 a1 y})]
theorem laws_eqStringS.pure (a0:(List U5q)) (a1:(List U5q)) (h:True) (hw:Wf c_laws_eqStringS.A (a0,a1)):laws_eqStringS.F a0 a1:=by
 delta laws_eqStringS.F ln tN wI eS
 have hw1:a0.length≤9223372036854775807:=hw.1.1
 simp only [forall_eq,true_and,and_true,caseB_iff,Prod.mk.injEq,decide_eq_true_eq,decide_eq_false_iff_not,Bool.not_eq_true',Bool.not_eq_false',bne_iff_ne,ne_eq,beq_iff_eq,Bool.not_true,Bool.not_false,beq_eq_false_iff_ne,bne_eq_false_iff_eq,List.length_append,List.length_cons,List.length_nil,List.append_nil,Nat.zero_add,decide_true,decide_false,eq_self_iff_true]
 refine⟨fun h1=>?_,fun h1=>?_⟩
 · have:a0≠a1:=fun e=>by subst e;simp at h1
   simp [fEq_StringS,this]
 have hl:a0.length=a1.length:=by omega
 refine⟨⟨by omega,by omega,hl,by simp⟩,?_⟩
 rintro i hI
 have h2:=hI.1
 have h3:=hI.2.1
 refine⟨fun hi=>⟨h2,hi,h2,by omega,fun hne=>?_,fun he=>?_⟩,fun hi=>?_⟩
 · have:a0≠a1:=fun e=>by subst e;simp at hne
   simp [fEq_StringS,this]
 · have hg:a0.getD i.toNat ([]:U5q)=a1.getD i.toNat ([]:U5q):=by simpa using he
   rw [w64 (x:=i+1) (by omega) (by omega)]
   exact⟨eqL_step hI hi hg,by unfold eqLM;omega⟩
 · have h6:=eqL_end hI hi
   simp [fEq_StringS,h6]
set_option maxRecDepth 100000 in
theorem laws_eqStringS.eq:EqS c_laws_eqStringS Tryz.f66 [4] [] [] (fun i x=>laws_eqStringS.L x.1 x.2) (fun i x=>laws_eqStringS.F x.1 x.2):=by intro i x;kernel_rfl
theorem laws_eqStringS.ok:ConOk Tryz.prog 66 c_laws_eqStringS:=okOf laws_eqStringS.eq Tryz.func66 rfl (by kernel_rfl) fun i x h hi hw=>laws_eqStringS.pure x.1 x.2 h hw
def laws_eqStringS.e:GE:=⟨66,c_laws_eqStringS,⟨_,Tryz.func66,rfl,rfl⟩,laws_eqStringS.ok⟩
def laws_markStringS.L (a0:(List U5q)) (a1:Int):Nat→Option LoopAnn:=fun p=>Go.Proofs.YtnoapekdbmpiaaaGreat.Bv.look p [(26,{kp:={hold:=[0],slots:=[1,5],boxes:=[],rows:=[{bx:=false,s:=0,i:=0,k:=2,e:=9,hot:=true}]},T:=(.pair (.int .i64) (.pair (.int .i64) (.list .str))),I:=fun st y=>mkI c_1s m_String a0 a1 y.1 y.2.1 y.2.2,μ:=fun st y=>mkM a0 a1 y.1 y.2.1 y.2.2})]
def laws_heldStringS.L (a0:(List U5q)) (a1:Int):Nat→Option LoopAnn:=fun p=>Go.Proofs.YtnoapekdbmpiaaaGreat.Bv.look p [(26,{kp:={hold:=[0],slots:=[1,5],boxes:=[],rows:=[]},T:=T0q,I:=fun st y=>hdI c_1s o_String a0 a1 y.1 y.2,μ:=fun st y=>hdM a0 a1 y.1 y.2})]
end Go.Proofs.YtnoapekdbmpiaaaGreat.B
