/- Engines:what all keys have. -/
import Derived.Test.YtnoapekdbmpiaaaGreatCEng0
import Derived.Test.YtnoapekdbmpiaaaGreatCMrgB
import Derived.Test.YtnoapekdbmpiaaaGreatCSlc
import Derived.Test.YtnoapekdbmpiaaaGreatCCmp
import Derived.Test.YtnoapekdbmpiaaaGreatCInsS
import Derived.Test.YtnoapekdbmpiaaaGreatCRFile
set_option linter.unusedVariables false
set_option linter.unusedSimpArgs false
namespace Go.Proofs.YtnoapekdbmpiaaaGreat.B
open Go Go.Proofs.YtnoapekdbmpiaaaGreat.Bv
abbrev Eng:=U11q
def fCmpK (s:Ser) (k:List UInt8):Int:=fCmpS s.1 k
def pBsS (l:List Ser) (k:List UInt8) (u:Unit):Prop:=AscS l∧l.length≤1099511627776
def fBsS (l:List Ser) (k:List UInt8) (u:Unit):Int×Bool:=((pos Op.bytesLess Prod.fst k l:Nat),hasK l k)
structure btI (l:List Ser) (k:List UInt8) (u:Unit) (i j:Int):Prop where
 h1:0≤i
 h2:i≤j
 h3:j≤l.length
 h4:∀x,x<i.toNat→Op.bytesLess (l.getD x ([],[])).1 k=true
 h5:∀x,j.toNat≤x→x<l.length→Op.bytesLess (l.getD x ([],[])).1 k=false
def btM (l:List Ser) (k:List UInt8) (u:Unit) (i j:Int):Nat:=(j - i).toNat
theorem bt_lo {l:List Ser} {k:List UInt8} {u:Unit} {i j h:Int} (ha:AscS l) (hI:btI l k u i j) (h1:i≤h) (h2:h<j) (hk:Op.bytesLess (l.getD h.toNat ([],[])).1 k=true):btI l k u (h+1) j:=by
 obtain⟨q1,q2,q3,q4,q5⟩:=hI
 refine⟨by omega,by omega,q3,fun x hx=>?_,q5⟩
 by_cases e:x=h.toNat
 · subst e;exact hk
 · exact strOrd.tr _ _ _ (asc_getD ([],[]) ha (i:=x) (j:=h.toNat) (by omega) (by omega)) hk
theorem bt_hi {l:List Ser} {k:List UInt8} {u:Unit} {i j h:Int} (ha:AscS l) (hI:btI l k u i j) (h1:i≤h) (h2:h<j) (hk:¬Op.bytesLess (l.getD h.toNat ([],[])).1 k=true):btI l k u i h:=by
 obtain⟨q1,q2,q3,q4,q5⟩:=hI
 refine⟨q1,h1,by omega,q4,fun x hx hl=>?_⟩
 by_cases e:x=h.toNat
 · subst e;simpa using hk
 · have:=asc_getD ([],[]) ha (i:=h.toNat) (j:=x) (by omega) hl
   rw [Bool.eq_false_iff];intro hx2
   exact hk (strOrd.tr _ _ _ this hx2)
theorem bt_end {l:List Ser} {k:List UInt8} {u:Unit} {i j:Int} (ha:AscS l) (hI:btI l k u i j) (hij:¬i<j):pos Op.bytesLess Prod.fst k l=i.toNat∧hasK l k=(decide (i<l.length)&&decide ((l.getD i.toNat ([],[])).1=k)):=by
 obtain⟨q1,q2,q3,q4,q5⟩:=hI
 have e:i=j:=by omega
 subst e
 have hp:pos Op.bytesLess Prod.fst k l=i.toNat:=pos_of ([],[]) (by omega) q4 q5
 refine⟨hp,?_⟩
 rw [Bool.eq_iff_iff,Bool.and_eq_true,decide_eq_true_eq,decide_eq_true_eq]
 constructor
 · intro h
   obtain⟨h1,h2⟩:=has_pos ha h
   rw [hp] at h1 h2
   exact⟨by omega,h2⟩
 · rintro⟨h1,h2⟩
   exact hasK_iff.2 ⟨_,getD_mem (by omega),h2⟩
theorem lt0 (x:Ser) (k:List UInt8):(fCmpK x k<0)=(Op.bytesLess x.1 k=true):=propext (cmpS_lt _ _)
theorem eq0 (x:Ser) (k:List UInt8):(fCmpK x k==0)=decide (x.1=k):=by
 rw [Bool.eq_iff_iff];simp only [beq_iff_eq,decide_eq_true_eq];exact cmpS_eq _ _
def fSf (l:List Ser) (k:List UInt8):Int×Bool:=fBsS l k ()
def pSf (l:List Ser) (k:List UInt8):Prop:=pBsS l k ()
def c_impl_seriesFor_1:Con:={A:=(.pair T3q .str),shA:=[.agg 2,.one],R:=(.int .i64),shR:=[(false,1)],pre:=fun _ _=>True,f:=some fun _ a=>((fCmpK a.1 a.2),((),()))}
def impl_seriesFor_1.F (a0:(U5q×U7q)) (a1:U5q):Prop:=(True∧∀r1,(Eq r1 ((fCmpS a0.1 a1),((),())))→(Eq (r1.1,((),())) ((fCmpK a0 a1),((),()))))
theorem impl_seriesFor_1.pure (a0:(U5q×U7q)) (a1:U5q) (h:True) (hw:Wf c_impl_seriesFor_1.A (a0,a1)):impl_seriesFor_1.F a0 a1:=by
 unfold impl_seriesFor_1.F
 simp only [forall_eq,true_and,and_true,caseB_iff,Prod.mk.injEq,decide_eq_true_eq,decide_eq_false_iff_not,Bool.not_eq_true',Bool.not_eq_false',bne_iff_ne,ne_eq,beq_iff_eq,Bool.not_true,Bool.not_false,beq_eq_false_iff_ne,bne_eq_false_iff_eq,List.length_append,List.length_cons,List.length_nil,List.append_nil,Nat.zero_add,decide_true,decide_false,eq_self_iff_true,fCmpK,Prod.eta]
 repeat' (with_reducible (first | (refine And.intro ?_ ?_) | intro _))
 all_goals (try simp (disch:=omega) only [w64,wu8,tn0,tn1,tm1,tm2,List.length_append,List.length_cons,List.length_nil] at*)
 all_goals (try simp (disch:=omega) only [w64,wu8,tn0,tn1,tm1,tm2,List.length_append,List.length_cons,List.length_nil] at*)
 all_goals (try omega)
 all_goals (try grind [])
set_option maxRecDepth 100000 in
theorem impl_seriesFor_1.eq:EqS c_impl_seriesFor_1 Tryz.f133 [3] [strings_Compare.e] [] noL (fun i x=>impl_seriesFor_1.F x.1 x.2):=by intro i x;kernel_rfl
theorem impl_seriesFor_1.ok:ConOk Tryz.prog 133 c_impl_seriesFor_1:=okOf impl_seriesFor_1.eq Tryz.func133 rfl (by kernel_rfl) fun i x h hi hw=>impl_seriesFor_1.pure x.1 x.2 h hw
def impl_seriesFor_1.e:GE:=⟨133,c_impl_seriesFor_1,⟨_,Tryz.func133,rfl,rfl⟩,impl_seriesFor_1.ok⟩
def c_slices_BinarySearchFunc_impl_Series_impl_Series_string:Con:={A:=(.pair T15q (.pair .str .unit)),shA:=[.one,.one,.clo 133 []],R:=(.pair (.int .i64) .bool),shR:=[(false,1),(false,1)],pre:=fun _ a=>(pBsS a.1 a.2.1 a.2.2),f:=some fun _ a=>((fBsS a.1 a.2.1 a.2.2),((),()))}
def slices_BinarySearchFunc_impl_Series_impl_Series_string.F (a0:U2q) (a1:U5q) (a2:Unit):Prop:=(eS [(0,.val false [.lst T3q a0 none]),(1,.val false [.str a1]),(2,.fn 133 [] []),(8,.val false [.int .i64 (ln a0)])] [(0,.val false [.lst T3q a0 none]),(1,.val false [.str a1]),(2,.fn 133 [] []),(8,.val false [.int .i64 (ln a0)])]∧((btI a0 a1 a2 0 (ln a0))∧∀(y1:(Int×Int)),(btI a0 a1 a2 y1.1 y1.2)→(caseB (decide (y1.1<y1.2)) (0≤(1:Int)∧(0≤(wI (Int.fdiv (IntKind.wrap .u64 (wI (y1.1+y1.2))) (2 ^ (min (tN (1:Int)) (IntKind.bits .u64)))))∧((wI (Int.fdiv (IntKind.wrap .u64 (wI (y1.1+y1.2))) (2 ^ (min (tN (1:Int)) (IntKind.bits .u64)))))<(ln a0)∧(True∧∀r2,(Eq r2 ((fCmpK ((List.getD a0 (tN (wI (Int.fdiv (IntKind.wrap .u64 (wI (y1.1+y1.2))) (2 ^ (min (tN (1:Int)) (IntKind.bits .u64)))))) ([],[])).1,(List.getD a0 (tN (wI (Int.fdiv (IntKind.wrap .u64 (wI (y1.1+y1.2))) (2 ^ (min (tN (1:Int)) (IntKind.bits .u64)))))) ([],[])).2) a1),((),())))→(caseB (decide (r2.1<(0:Int))) (eS [(0,.val false [.lst T3q a0 none]),(1,.val false [.str a1]),(2,.fn 133 [] []),(8,.val false [.int .i64 (ln a0)])] [(0,.val false [.lst T3q a0 none]),(1,.val false [.str a1]),(2,.fn 133 [] []),(8,.val false [.int .i64 (ln a0)])]∧(btI a0 a1 a2 (wI ((wI (Int.fdiv (IntKind.wrap .u64 (wI (y1.1+y1.2))) (2 ^ (min (tN (1:Int)) (IntKind.bits .u64)))))+(1:Int))) y1.2)∧(btM a0 a1 a2 (wI ((wI (Int.fdiv (IntKind.wrap .u64 (wI (y1.1+y1.2))) (2 ^ (min (tN (1:Int)) (IntKind.bits .u64)))))+(1:Int))) y1.2)<(btM a0 a1 a2 y1.1 y1.2)) (eS [(0,.val false [.lst T3q a0 none]),(1,.val false [.str a1]),(2,.fn 133 [] []),(8,.val false [.int .i64 (ln a0)])] [(0,.val false [.lst T3q a0 none]),(1,.val false [.str a1]),(2,.fn 133 [] []),(8,.val false [.int .i64 (ln a0)])]∧(btI a0 a1 a2 y1.1 (wI (Int.fdiv (IntKind.wrap .u64 (wI (y1.1+y1.2))) (2 ^ (min (tN (1:Int)) (IntKind.bits .u64))))))∧(btM a0 a1 a2 y1.1 (wI (Int.fdiv (IntKind.wrap .u64 (wI (y1.1+y1.2))) (2 ^ (min (tN (1:Int)) (IntKind.bits .u64))))))<(btM a0 a1 a2 y1.1 y1.2))))))) (caseB (decide (y1.1<(ln a0))) (0≤y1.1∧(y1.1<(ln a0)∧(True∧∀r3,(Eq r3 ((fCmpK ((List.getD a0 (tN y1.1) ([],[])).1,(List.getD a0 (tN y1.1) ([],[])).2) a1),((),())))→(Eq ((y1.1,(r3.1==(0:Int))),((),())) ((fBsS a0 a1 a2),((),())))))) (Eq ((y1.1,false),((),())) ((fBsS a0 a1 a2),((),())))))))
def slices_BinarySearchFunc_impl_Series_impl_Series_string.L (a0:U2q) (a1:U5q) (a2:Unit):Nat→Option LoopAnn:=fun p=>Go.Proofs.YtnoapekdbmpiaaaGreat.Bv.look p [(60,{kp:={hold:=[0,1,2,8],slots:=[9,10],boxes:=[],rows:=[]},T:=T0q,I:=fun st y=>btI a0 a1 a2 y.1 y.2,μ:=fun st y=>btM a0 a1 a2 y.1 y.2})]
theorem slices_BinarySearchFunc_impl_Series_impl_Series_string.pure (a0:U2q) (a1:U5q) (a2:Unit) (h:(pBsS a0 a1 a2)) (hw:Wf c_slices_BinarySearchFunc_impl_Series_impl_Series_string.A (a0,a1,a2)):slices_BinarySearchFunc_impl_Series_impl_Series_string.F a0 a1 a2:=by
 delta slices_BinarySearchFunc_impl_Series_impl_Series_string.F ln tN wI eS
 simp only [forall_eq,true_and,and_true,caseB_iff,Prod.mk.injEq,decide_eq_true_eq,decide_eq_false_iff_not,Bool.not_eq_true',Bool.not_eq_false',bne_iff_ne,ne_eq,beq_iff_eq,Bool.not_true,Bool.not_false,beq_eq_false_iff_ne,bne_eq_false_iff_eq,List.length_append,List.length_cons,List.length_nil,List.append_nil,Nat.zero_add,decide_true,decide_false,eq_self_iff_true,Prod.eta]
 obtain⟨hp,hl⟩:=h
 refine⟨⟨by omega,by omega,by omega,by simp,fun k h1 h2=>by omega⟩,?_⟩
 rintro⟨i,j⟩ hI
 simp only at hI ⊢
 have q1:=hI.h1
 have q2:=hI.h2
 have q3:=hI.h3
 refine⟨fun hij=>?_,fun hij=>?_⟩
 · rw [w64 (x:=i+j) (by omega) (by omega),wu64 (x:=i+j) (by omega) (by omega),half (by omega) (by omega),w64 (x:=(i+j) / 2) (by omega) (by omega)]
   rw [lt0,w64 (x:=(i+j) / 2+1) (by omega) (by omega)]
   refine⟨by omega,by omega,by omega,fun h1=>⟨bt_lo hp hI (by omega) (by omega) h1,by unfold btM;omega⟩,fun h1=>⟨bt_hi hp hI (by omega) (by omega) h1,by unfold btM;omega⟩⟩
 · obtain⟨e1,e2⟩:=bt_end hp hI hij
   have e3:((i.toNat:Nat):Int)=i:=by omega
   refine⟨fun h1=>⟨by omega,by omega,?_⟩,fun h1=>?_⟩
   · simp only [fBsS,e1,e2,e3,decide_eq_true h1,Bool.true_and,Prod.mk.injEq,true_and,and_true]
     exact eq0 _ _
   · simp only [fBsS,e1,e2,e3,decide_eq_false h1,Bool.false_and]
set_option maxRecDepth 100000 in
theorem slices_BinarySearchFunc_impl_Series_impl_Series_string.eq:EqS c_slices_BinarySearchFunc_impl_Series_impl_Series_string Tryz.f132 [3,4] [impl_seriesFor_1.e] [] (fun i x=>slices_BinarySearchFunc_impl_Series_impl_Series_string.L x.1 x.2.1 x.2.2) (fun i x=>slices_BinarySearchFunc_impl_Series_impl_Series_string.F x.1 x.2.1 x.2.2):=by intro i x;kernel_rfl
theorem slices_BinarySearchFunc_impl_Series_impl_Series_string.ok:ConOk Tryz.prog 132 c_slices_BinarySearchFunc_impl_Series_impl_Series_string:=okOf slices_BinarySearchFunc_impl_Series_impl_Series_string.eq Tryz.func132 rfl (by kernel_rfl) fun i x h hi hw=>slices_BinarySearchFunc_impl_Series_impl_Series_string.pure x.1 x.2.1 x.2.2 h hw
def slices_BinarySearchFunc_impl_Series_impl_Series_string.e:GE:=⟨132,c_slices_BinarySearchFunc_impl_Series_impl_Series_string,⟨_,Tryz.func132,rfl,rfl⟩,slices_BinarySearchFunc_impl_Series_impl_Series_string.ok⟩
def c_impl_seriesFor:Con:={A:=(.pair T15q .str),shA:=[.one,.one],R:=(.pair (.int .i64) .bool),shR:=[(false,1),(false,1)],pre:=fun _ a=>(pSf a.1 a.2),f:=some fun _ a=>((fSf a.1 a.2),((),()))}
def impl_seriesFor.F (a0:U2q) (a1:U5q):Prop:=((pBsS a0 a1 ())∧∀r1,(Eq r1 ((fBsS a0 a1 ()),((),())))→(Eq ((r1.1.1,r1.1.2),((),())) ((fSf a0 a1),((),()))))
theorem impl_seriesFor.pure (a0:U2q) (a1:U5q) (h:(pSf a0 a1)) (hw:Wf c_impl_seriesFor.A (a0,a1)):impl_seriesFor.F a0 a1:=by
 unfold impl_seriesFor.F
 simp only [forall_eq,true_and,and_true,caseB_iff,Prod.mk.injEq,decide_eq_true_eq,decide_eq_false_iff_not,Bool.not_eq_true',Bool.not_eq_false',bne_iff_ne,ne_eq,beq_iff_eq,Bool.not_true,Bool.not_false,beq_eq_false_iff_ne,bne_eq_false_iff_eq,List.length_append,List.length_cons,List.length_nil,List.append_nil,Nat.zero_add,decide_true,decide_false,eq_self_iff_true,fSf]
 exact h
set_option maxRecDepth 100000 in
theorem impl_seriesFor.eq:EqS c_impl_seriesFor Tryz.f63 [3,4] [slices_BinarySearchFunc_impl_Series_impl_Series_string.e,impl_seriesFor_1.e] [] noL (fun i x=>impl_seriesFor.F x.1 x.2):=by intro i x;kernel_rfl
theorem impl_seriesFor.ok:ConOk Tryz.prog 63 c_impl_seriesFor:=okOf impl_seriesFor.eq Tryz.func63 rfl (by kernel_rfl) fun i x h hi hw=>impl_seriesFor.pure x.1 x.2 h hw
def impl_seriesFor.e:GE:=⟨63,c_impl_seriesFor,⟨_,Tryz.func63,rfl,rfl⟩,impl_seriesFor.ok⟩
def pLaid (l top:List Ser):Prop:=SerR l∧(∀x∈top,PtsR x.2)∧tot l+tot top≤100000000
structure laI (l top:List Ser) (i:Int) (out:List Ser):Prop where
 h1:0≤i
 h2:i≤top.length
 h3:fLaid out (top.drop i.toNat)=fLaid l top
 h4:SerR out
 h5:tot out+tot (top.drop i.toNat)≤100000000
def laM (l top:List Ser) (i:Int) (out:List Ser):Nat:=(top.length - i).toNat
theorem tot_drop {l:List Ser} {i:Nat} (h:i<l.length):tot (l.drop i)=cS (l.getD i ([],[]))+tot (l.drop (i+1)):=by
 rw [drop_getD ([],[]) h];exact cL_cons ..
theorem la_step {l top:List Ser} {i:Int} {out:List Ser} (ht:∀x∈top,PtsR x.2) (h:laI l top i out) (hi:i<top.length):laI l top (i+1) (lay1 out (top.getD i.toNat ([],[]))):=by
 obtain⟨h1,h2,h3,h4,h5⟩:=h
 have hs:=ht _ (getD_mem (d:=([],[])) (by omega:i.toNat<top.length))
 have a1:=lay1_tot h4.1 (top.getD i.toNat ([],[]))
 have a2:=tot_drop (l:=top) (i:=i.toNat) (by omega)
 refine⟨by omega,by omega,?_,lay1_R h4 hs,?_⟩
 · rw [tn1 h1]
   rw [drop_getD ([],[]) (by omega:i.toNat<top.length)] at h3
   exact h3
 · rw [tn1 h1];omega
theorem la_end {l top:List Ser} {i:Int} {out:List Ser} (h:laI l top i out) (hi:¬i<top.length):out=fLaid l top:=by
 obtain⟨h1,h2,h3,h4,h5⟩:=h
 have e:i.toNat=top.length:=by omega
 rw [e,List.drop_length] at h3
 exact h3
def c_impl_laid:Con:={A:=(.pair T15q T15q),shA:=[.one,.one],ownA:=[(0,72)],R:=T15q,shR:=[(false,1)],fresh:=[(0,72)],pre:=fun _ a=>(pLaid a.1 a.2),f:=some fun _ a=>((fLaid a.1 a.2),((),()))}
def impl_laid.F (a0:U2q) (a1:U2q):Prop:=(eS [(9,.val false [.lst T3q a1 none]),(10,.val false [.int .i64 (ln a1)])] [(9,.val false [.lst T3q a1 none]),(10,.val false [.int .i64 (ln a1)])]∧((laI a0 a1 0 a0)∧∀(y1:(Int×U2q)),(laI a0 a1 y1.1 y1.2)→(caseB (decide (y1.1<(ln a1))) (0≤y1.1∧(y1.1<(ln a1)∧((pSf y1.2 ((List.getD a1 (tN y1.1) ([],[])).1))∧∀r2,(Eq r2 ((fSf y1.2 ((List.getD a1 (tN y1.1) ([],[])).1)),((),())))→(caseB r2.1.2 (0≤r2.1.1∧(r2.1.1<(ln y1.2)∧((pMg ((List.getD y1.2 (tN r2.1.1) ([],[])).2) ((List.getD a1 (tN y1.1) ([],[])).2))∧∀r3,(Eq r3 ((fMerge ((List.getD y1.2 (tN r2.1.1) ([],[])).2) ((List.getD a1 (tN y1.1) ([],[])).2)),((),())))→(0≤r2.1.1∧(r2.1.1<(ln y1.2)∧(eS [(9,.val false [.lst T3q a1 none]),(10,.val false [.int .i64 (ln a1)])] [(9,.val false [.lst T3q a1 none]),(10,.val false [.int .i64 (ln a1)])]∧(laI a0 a1 (wI (y1.1+(1:Int))) (List.set y1.2 (tN r2.1.1) ((List.getD y1.2 (tN r2.1.1) ([],[])).1,r3.1)))∧(laM a0 a1 (wI (y1.1+(1:Int))) (List.set y1.2 (tN r2.1.1) ((List.getD y1.2 (tN r2.1.1) ([],[])).1,r3.1)))<(laM a0 a1 y1.1 y1.2))))))) ((pLenP ((List.getD a1 (tN y1.1) ([],[])).2))∧∀r4,(Eq r4 ((fIdP ((List.getD a1 (tN y1.1) ([],[])).2)),((),())))→((pIns_slices_Insert_impl_Series_impl_Series y1.2 r2.1.1 [((List.getD a1 (tN y1.1) ([],[])).1,r4.1)])∧∀r5,(Eq r5 ((fIns_slices_Insert_impl_Series_impl_Series y1.2 r2.1.1 [((List.getD a1 (tN y1.1) ([],[])).1,r4.1)]),((),())))→(eS [(9,.val false [.lst T3q a1 none]),(10,.val false [.int .i64 (ln a1)])] [(9,.val false [.lst T3q a1 none]),(10,.val false [.int .i64 (ln a1)])]∧(laI a0 a1 (wI (y1.1+(1:Int))) r5.1)∧(laM a0 a1 (wI (y1.1+(1:Int))) r5.1)<(laM a0 a1 y1.1 y1.2)))))))) (Eq (y1.2,((),())) ((fLaid a0 a1),((),()))))))
def impl_laid.L (a0:U2q) (a1:U2q):Nat→Option LoopAnn:=fun p=>Go.Proofs.YtnoapekdbmpiaaaGreat.Bv.look p [(26,{kp:={hold:=[9,10],slots:=[0,11],boxes:=[],rows:=[{bx:=false,s:=0,i:=0,k:=1000003,e:=72,hot:=true}]},T:=(.pair (.int .i64) T15q),I:=fun st y=>laI a0 a1 y.1 y.2,μ:=fun st y=>laM a0 a1 y.1 y.2})]
theorem impl_laid.pure (a0:U2q) (a1:U2q) (h:(pLaid a0 a1)) (hw:Wf c_impl_laid.A (a0,a1)):impl_laid.F a0 a1:=by
 delta impl_laid.F ln tN wI eS
 simp only [forall_eq,true_and,and_true,caseB_iff,Prod.mk.injEq,decide_eq_true_eq,decide_eq_false_iff_not,Bool.not_eq_true',Bool.not_eq_false',bne_iff_ne,ne_eq,beq_iff_eq,Bool.not_true,Bool.not_false,beq_eq_false_iff_ne,bne_eq_false_iff_eq,List.length_append,List.length_cons,List.length_nil,List.append_nil,Nat.zero_add,decide_true,decide_false,eq_self_iff_true,pSf,pBsS,fIdP,pLenP]
 obtain⟨hl,ht,hn⟩:=h
 refine⟨⟨by omega,by omega,rfl,hl,by simpa using hn⟩,?_⟩
 rintro⟨i,out⟩ hI
 simp only at hI ⊢
 have q1:=hI.h1
 have q2:=hI.h2
 have q5:=hI.h5
 refine⟨fun hi=>?_,fun hi=>la_end hI hi⟩
 have st:=la_step ht hI hi
 have dn:∀o,laM a0 a1 (i+1) o<laM a0 a1 i out:=fun o=>by unfold laM;omega
 have k8:=len_tot a1
 have k9:=tot_pos a0
 rw [w64 (x:=i+1) (by omega) (by omega)]
 have hm:=getD_mem (d:=(([]:List UInt8),([]:List Pt))) (by omega:i.toNat<a1.length)
 have hs:=ht _ hm
 have k1:=len_tot out
 have k2:=tot_pos (a1.drop i.toNat)
 have k3:=mem_tot hm
 have k4:=tot_pos a0
 have k5:=tot_pos out
 generalize a1.getD i.toNat ([],[])=s at*
 have hp:=pos_le (lt:=Op.bytesLess) (key:=Prod.fst) s.1 out
 refine⟨q1,hi,⟨hI.h4.1,by omega⟩,fun h6=>?_,fun h6=>?_⟩
 · have h7:hasK out s.1=true:=h6
   obtain⟨p1,p2⟩:=has_pos hI.h4.1 h7
   have e:(fSf out s.1).1=((pos Op.bytesLess Prod.fst s.1 out:Nat):Int):=rfl
   rw [e,Int.toNat_natCast]
   have hm2:=getD_mem (d:=(([]:List UInt8),([]:List Pt))) p1
   have k6:=mem_tot hm2
   have hR:=hI.h4.2 _ hm2
   refine⟨by omega,by omega,⟨hR,hs,by omega,by omega⟩,by omega,by omega,?_,dn _⟩
   have e2:lay1 out s=out.set (pos Op.bytesLess Prod.fst s.1 out) ((out.getD (pos Op.bytesLess Prod.fst s.1 out) ([],[])).1,fMerge (out.getD (pos Op.bytesLess Prod.fst s.1 out) ([],[])).2 s.2):=by unfold lay1;rw [if_pos h7]
   rw [←e2];exact st
 · have h7:hasK out s.1=false:=h6
   have e:(fSf out s.1).1=((pos Op.bytesLess Prod.fst s.1 out:Nat):Int):=rfl
   have e2:lay1 out s=fIns_slices_Insert_impl_Series_impl_Series out (fSf out s.1).1 [(s.1,s.2)]:=by
    unfold lay1
    rw [if_neg (by rw [h7];decide),e];rfl
   refine⟨by omega,⟨by omega,by omega,by simp,by simp;omega⟩,?_,dn _⟩
   rw [←e2];exact st
set_option maxRecDepth 100000 in
theorem impl_laid.eq:EqS c_impl_laid Tryz.f87 [29] [impl_seriesFor.e,slices_Clone_impl_Point_impl_Point.e,impl_merged.e,slices_Insert_impl_Series_impl_Series.e] [] (fun i x=>impl_laid.L x.1 x.2) (fun i x=>impl_laid.F x.1 x.2):=by intro i x;kernel_rfl
theorem impl_laid.ok:ConOk Tryz.prog 87 c_impl_laid:=okOf impl_laid.eq Tryz.func87 rfl (by kernel_rfl) fun i x h hi hw=>impl_laid.pure x.1 x.2 h hw
def impl_laid.e:GE:=⟨87,c_impl_laid,⟨_,Tryz.func87,rfl,rfl⟩,impl_laid.ok⟩
def pRaised (l:List Ser) (f:Int):Prop:=tot l≤100000000
structure raI (l:List Ser) (f i:Int) (out:List Ser):Prop where
 h1:0≤i
 h2:i≤l.length
 h3:out=fRaised (l.take i.toNat) f
 h4:(out.length:Int)≤i
def raM (l:List Ser) (f i:Int) (out:List Ser):Nat:=(l.length - i).toNat
theorem raised_app (a b:List Ser) (f:Int):fRaised (a++b) f=fRaised a f++fRaised b f:=by unfold fRaised;rw [List.map_append,List.filter_append]
theorem ra_yes {l:List Ser} {f i:Int} {out:List Ser} (h:raI l f i out) (hi:i<l.length) (hn:0<(fSlice (l.getD i.toNat ([],[])).2 f 1099511627777).length):raI l f (i+1) (out++[((l.getD i.toNat ([],[])).1,fSlice (l.getD i.toNat ([],[])).2 f 1099511627777)]):=by
 obtain⟨h1,h2,h3,h4⟩:=h
 refine⟨by omega,by omega,?_,by simp;omega⟩
 rw [tn1 h1,take_getD ([],[]) (by omega),raised_app,h3]
 generalize l.getD i.toNat ([],[])=x at*
 have:(fSlice x.2 f 1099511627777).isEmpty=false:=by
  cases e:fSlice x.2 f 1099511627777 with
  | nil=>rw [e] at hn;simp at hn
  | cons=>rfl
 simp [fRaised,this]
theorem ra_no {l:List Ser} {f i:Int} {out:List Ser} (h:raI l f i out) (hi:i<l.length) (hn:¬0<(fSlice (l.getD i.toNat ([],[])).2 f 1099511627777).length):raI l f (i+1) out:=by
 obtain⟨h1,h2,h3,h4⟩:=h
 refine⟨by omega,by omega,?_,by omega⟩
 rw [tn1 h1,take_getD ([],[]) (by omega),raised_app,h3]
 generalize l.getD i.toNat ([],[])=x at*
 have:(fSlice x.2 f 1099511627777)=[]:=List.length_eq_zero_iff.1 (by omega)
 simp [fRaised,this]
theorem ra_end {l:List Ser} {f i:Int} {out:List Ser} (h:raI l f i out) (hi:¬i<l.length):out=fRaised l f:=by
 obtain⟨h1,h2,h3,h4⟩:=h
 rw [h3,show i.toNat=l.length by omega,List.take_length]
def c_impl_raised:Con:={A:=(.pair T15q (.int .i64)),shA:=[.one,.one],R:=T15q,shR:=[(false,1)],fresh:=[(0,72)],pre:=fun _ a=>(pRaised a.1 a.2),f:=some fun _ a=>((fRaised a.1 a.2),((),()))}
def impl_raised.F (a0:U2q) (a1:Int):Prop:=(eS [(1,.val false [.int .i64 a1]),(10,.val false [.lst T3q a0 none]),(11,.val false [.int .i64 (ln a0)])] [(1,.val false [.int .i64 a1]),(10,.val false [.lst T3q a0 none]),(11,.val false [.int .i64 (ln a0)])]∧((raI a0 a1 0 ([]:List (U5q×U7q)))∧∀(y1:(Int×U2q)),(raI a0 a1 y1.1 y1.2)→(caseB (decide (y1.1<(ln a0))) (0≤y1.1∧(y1.1<(ln a0)∧((pSliceD ((List.getD a0 (tN y1.1) ([],[])).2) a1 1099511627777)∧∀r2,(Eq r2 ((fSlice ((List.getD a0 (tN y1.1) ([],[])).2) a1 1099511627777),((),())))→(caseB (decide ((ln r2.1)>(0:Int))) (List.length y1.2+List.length [((List.getD a0 (tN y1.1) ([],[])).1,r2.1)]≤9223372036854775807∧((List.length y1.2+List.length [((List.getD a0 (tN y1.1) ([],[])).1,r2.1)])*40≤140737488355328∧(eS [(1,.val false [.int .i64 a1]),(10,.val false [.lst T3q a0 none]),(11,.val false [.int .i64 (ln a0)])] [(1,.val false [.int .i64 a1]),(10,.val false [.lst T3q a0 none]),(11,.val false [.int .i64 (ln a0)])]∧(raI a0 a1 (wI (y1.1+(1:Int))) (y1.2++[((List.getD a0 (tN y1.1) ([],[])).1,r2.1)]))∧(raM a0 a1 (wI (y1.1+(1:Int))) (y1.2++[((List.getD a0 (tN y1.1) ([],[])).1,r2.1)]))<(raM a0 a1 y1.1 y1.2)))) (eS [(1,.val false [.int .i64 a1]),(10,.val false [.lst T3q a0 none]),(11,.val false [.int .i64 (ln a0)])] [(1,.val false [.int .i64 a1]),(10,.val false [.lst T3q a0 none]),(11,.val false [.int .i64 (ln a0)])]∧(raI a0 a1 (wI (y1.1+(1:Int))) y1.2)∧(raM a0 a1 (wI (y1.1+(1:Int))) y1.2)<(raM a0 a1 y1.1 y1.2)))))) (Eq (y1.2,((),())) ((fRaised a0 a1),((),()))))))
def impl_raised.L (a0:U2q) (a1:Int):Nat→Option LoopAnn:=fun p=>Go.Proofs.YtnoapekdbmpiaaaGreat.Bv.look p [(58,{kp:={hold:=[1,10,11],slots:=[5,12],boxes:=[],rows:=[{bx:=false,s:=5,i:=0,k:=1000643,e:=72,hot:=true}]},T:=(.pair (.int .i64) T15q),I:=fun st y=>raI a0 a1 y.1 y.2,μ:=fun st y=>raM a0 a1 y.1 y.2})]
theorem impl_raised.pure (a0:U2q) (a1:Int) (h:(pRaised a0 a1)) (hw:Wf c_impl_raised.A (a0,a1)):impl_raised.F a0 a1:=by
 delta impl_raised.F ln tN wI eS
 simp only [forall_eq,true_and,and_true,caseB_iff,Prod.mk.injEq,decide_eq_true_eq,decide_eq_false_iff_not,Bool.not_eq_true',Bool.not_eq_false',bne_iff_ne,ne_eq,beq_iff_eq,Bool.not_true,Bool.not_false,beq_eq_false_iff_ne,bne_eq_false_iff_eq,List.length_append,List.length_cons,List.length_nil,List.append_nil,Nat.zero_add,decide_true,decide_false,eq_self_iff_true,pSliceD]
 have hn:tot a0≤100000000:=h
 have k1:=len_tot a0
 refine⟨⟨by omega,by omega,by simp [fRaised],by simp⟩,?_⟩
 rintro⟨i,out⟩ hI
 simp only at hI ⊢
 have q1:=hI.h1
 have q2:=hI.h2
 have q4:=hI.h4
 refine⟨fun hi=>?_,fun hi=>ra_end hI hi⟩
 have dn:∀o,raM a0 a1 (i+1) o<raM a0 a1 i out:=fun o=>by unfold raM;omega
 rw [w64 (x:=i+1) (by omega) (by omega)]
 have k2:=mem_tot (getD_mem (d:=(([]:List UInt8),([]:List Pt))) (by omega:i.toNat<a0.length))
 refine⟨q1,hi,by omega,fun h6=>⟨by omega,by omega,ra_yes hI hi (by omega),dn _⟩,fun h6=>⟨ra_no hI hi (by omega),dn _⟩⟩
set_option maxRecDepth 100000 in
theorem impl_raised.eq:EqS c_impl_raised Tryz.f75 [29] [impl_sliced.e] [] (fun i x=>impl_raised.L x.1 x.2) (fun i x=>impl_raised.F x.1 x.2):=by intro i x;kernel_rfl
theorem impl_raised.ok:ConOk Tryz.prog 75 c_impl_raised:=okOf impl_raised.eq Tryz.func75 rfl (by kernel_rfl) fun i x h hi hw=>impl_raised.pure x.1 x.2 h hw
def impl_raised.e:GE:=⟨75,c_impl_raised,⟨_,Tryz.func75,rfl,rfl⟩,impl_raised.ok⟩
end Go.Proofs.YtnoapekdbmpiaaaGreat.B
