/- Points sliced;the place of a point. -/
import Derived.Test.YtnoapekdbmpiaaaGreatCMrg
set_option linter.unusedVariables false
set_option linter.unusedSimpArgs false
namespace Go.Proofs.YtnoapekdbmpiaaaGreat.B
open Go Go.Proofs.YtnoapekdbmpiaaaGreat.Bv
theorem wu64 {x:Int} (h:0≤x) (h':x≤18446744073709551615):IntKind.wrap .u64 x=x:=Go.IntWalk.u64_in _ ⟨h,h'⟩
def pLenP (l:List Pt):Prop:=l.length≤1099511627776
def fIdP (l:List Pt):List Pt:=l
def fSubT (x:Pt) (t:Int):Int:=IntKind.wrap .i64 (x.1 - t)
def pBs (l:List Pt) (t:Int) (u:Unit):Prop:=PtsR l∧0≤t∧t≤1099511627776∧l.length≤1099511627776
def fBs (l:List Pt) (t:Int) (u:Unit):Int×Bool:=((pos ltI Prod.fst t l:Nat),hasT l t)
structure bsI (l:List Pt) (t:Int) (u:Unit) (i j:Int):Prop where
 h1:0≤i
 h2:i≤j
 h3:j≤l.length
 h4:∀k,k<i.toNat→ltI (l.getD k (0,0)).1 t=true
 h5:∀k,j.toNat≤k→k<l.length→ltI (l.getD k (0,0)).1 t=false
def bsM (l:List Pt) (t:Int) (u:Unit) (i j:Int):Nat:=(j - i).toNat
theorem bs_at {l:List Pt} (h:PtsR l) {i:Nat} (hi:i<l.length):0≤(l.getD i (0,0)).1∧(l.getD i (0,0)).1≤1099511627776:=h.2 _ (getD_mem hi)
theorem bs_lo {l:List Pt} {t:Int} {u:Unit} {i j k:Int} (h:PtsR l) (hI:bsI l t u i j) (h1:i≤k) (h2:k<j) (hk:(l.getD k.toNat (0,0)).1<t):bsI l t u (k+1) j:=by
 obtain⟨q1,q2,q3,q4,q5⟩:=hI
 refine⟨by omega,by omega,q3,fun x hx=>?_,q5⟩
 by_cases e:x=k.toNat
 · subst e;simpa using hk
 · have:=asc_getD (0,0) h.1 (i:=x) (j:=k.toNat) (by omega) (by omega)
   simp only [ltI,decide_eq_true_eq] at this ⊢;omega
theorem bs_hi {l:List Pt} {t:Int} {u:Unit} {i j k:Int} (h:PtsR l) (hI:bsI l t u i j) (h1:i≤k) (h2:k<j) (hk:¬(l.getD k.toNat (0,0)).1<t):bsI l t u i k:=by
 obtain⟨q1,q2,q3,q4,q5⟩:=hI
 refine⟨q1,h1,by omega,q4,fun x hx hl=>?_⟩
 by_cases e:x=k.toNat
 · subst e;simpa using hk
 · have:=asc_getD (0,0) h.1 (i:=k.toNat) (j:=x) (by omega) hl
   simp only [ltI,decide_eq_true_eq,decide_eq_false_iff_not] at this ⊢;omega
theorem bs_end {l:List Pt} {t:Int} {u:Unit} {i j:Int} (h:PtsR l) (hI:bsI l t u i j) (hij:¬i<j):pos ltI Prod.fst t l=i.toNat∧hasT l t=(decide (i<l.length)&&decide ((l.getD i.toNat (0,0)).1=t)):=by
 obtain⟨q1,q2,q3,q4,q5⟩:=hI
 have e:i=j:=by omega
 subst e
 refine⟨pos_of (0,0) (by omega) q4 q5,?_⟩
 rw [Bool.eq_iff_iff,hasT_iff,Bool.and_eq_true,decide_eq_true_eq,decide_eq_true_eq]
 constructor
 · rintro⟨x,hx,hxt⟩
   obtain⟨k,hk,e⟩:=List.getElem_of_mem hx
   rw [←getD_lt (d:=(0,0)) hk] at e
   have a1:¬k<i.toNat:=fun hh=>by have:=q4 k hh;rw [e] at this;simp at this;omega
   have a2:¬i.toNat<k:=fun hh=>by
    have:=asc_getD (0,0) h.1 hh hk
    have a3:=q5 i.toNat (Nat.le_refl _) (by omega)
    simp only [ltI,decide_eq_true_eq,decide_eq_false_iff_not] at this a3
    rw [e] at this;omega
   have a4:k=i.toNat:=by omega
   subst a4
   exact⟨by omega,by rw [e];exact hxt⟩
 · rintro⟨h1,h2⟩
   exact⟨_,getD_mem (by omega),h2⟩
theorem half {a:Int} (h:0≤a) (h2:a≤4611686018427387904):Int.fdiv a (2 ^ min (Int.toNat 1) (IntKind.bits .u64))=a / 2:=by
 rw [show (2 ^ min (Int.toNat 1) (IntKind.bits .u64):Int)=2 from by decide]
 exact Int.fdiv_eq_ediv_of_nonneg _ (by decide)
def c_slices_Clone_impl_Point_impl_Point:Con:={A:=T16q,shA:=[.one],R:=T16q,shR:=[(false,1)],fresh:=[(0,74)],pre:=fun _ a=>(pLenP a),f:=some fun _ a=>((fIdP a),((),()))}
def slices_Clone_impl_Point_impl_Point.F (a0:U7q):Prop:=(∀(b1:Bool),(b1=true→a0=[])→(caseB b1 (Eq (([]:U7q),((),())) ((fIdP a0),((),()))) (List.length ([]:List (Int×Int))+List.length a0≤9223372036854775807∧((List.length ([]:List (Int×Int))+List.length a0)*16≤140737488355328∧(Eq ((([]:List (Int×Int))++a0),((),())) ((fIdP a0),((),())))))))
theorem slices_Clone_impl_Point_impl_Point.pure (a0:U7q) (h:(pLenP a0)) (hw:Wf c_slices_Clone_impl_Point_impl_Point.A a0):slices_Clone_impl_Point_impl_Point.F a0:=by
 unfold slices_Clone_impl_Point_impl_Point.F
 have hp:a0.length≤1099511627776:=h
 simp only [forall_eq,true_and,and_true,caseB_iff,Prod.mk.injEq,decide_eq_true_eq,decide_eq_false_iff_not,Bool.not_eq_true',Bool.not_eq_false',bne_iff_ne,ne_eq,beq_iff_eq,Bool.not_true,Bool.not_false,beq_eq_false_iff_ne,bne_eq_false_iff_eq,List.length_append,List.length_cons,List.length_nil,List.append_nil,Nat.zero_add,decide_true,decide_false,eq_self_iff_true,fIdP,pLenP]
 repeat' (with_reducible (first | (refine And.intro ?_ ?_) | intro _))
 all_goals (try simp (disch:=omega) only [w64,wu8,tn0,tn1,tm1,tm2,List.length_append,List.length_cons,List.length_nil] at*)
 all_goals (try simp (disch:=omega) only [w64,wu8,tn0,tn1,tm1,tm2,List.length_append,List.length_cons,List.length_nil] at*)
 all_goals (try omega)
 all_goals (try grind [])
 all_goals (try simp_all)
set_option maxRecDepth 100000 in
theorem slices_Clone_impl_Point_impl_Point.eq:EqS c_slices_Clone_impl_Point_impl_Point Tryz.f136 [27] [] [] noL (fun i x=>slices_Clone_impl_Point_impl_Point.F x):=by intro i x;kernel_rfl
theorem slices_Clone_impl_Point_impl_Point.ok:ConOk Tryz.prog 136 c_slices_Clone_impl_Point_impl_Point:=okOf slices_Clone_impl_Point_impl_Point.eq Tryz.func136 rfl (by kernel_rfl) fun i x h hi hw=>slices_Clone_impl_Point_impl_Point.pure x h hw
def slices_Clone_impl_Point_impl_Point.e:GE:=⟨136,c_slices_Clone_impl_Point_impl_Point,⟨_,Tryz.func136,rfl,rfl⟩,slices_Clone_impl_Point_impl_Point.ok⟩
def c_impl_merged_1:Con:={A:=(.pair T0q (.int .i64)),shA:=[.agg 2,.one],R:=(.int .i64),shR:=[(false,1)],pre:=fun _ _=>True,f:=some fun _ a=>((fSubT a.1 a.2),((),()))}
def impl_merged_1.F (a0:(Int×Int)) (a1:Int):Prop:=(Eq ((wI (a0.1 - a1)),((),())) ((fSubT a0 a1),((),())))
theorem impl_merged_1.pure (a0:(Int×Int)) (a1:Int) (h:True) (hw:Wf c_impl_merged_1.A (a0,a1)):impl_merged_1.F a0 a1:=by
 delta impl_merged_1.F wI
 simp only [forall_eq,true_and,and_true,caseB_iff,Prod.mk.injEq,decide_eq_true_eq,decide_eq_false_iff_not,Bool.not_eq_true',Bool.not_eq_false',bne_iff_ne,ne_eq,beq_iff_eq,Bool.not_true,Bool.not_false,beq_eq_false_iff_ne,bne_eq_false_iff_eq,List.length_append,List.length_cons,List.length_nil,List.append_nil,Nat.zero_add,decide_true,decide_false,eq_self_iff_true,fSubT,Prod.eta]
 repeat' (with_reducible (first | (refine And.intro ?_ ?_) | intro _))
 all_goals (try simp (disch:=omega) only [w64,wu8,tn0,tn1,tm1,tm2,List.length_append,List.length_cons,List.length_nil] at*)
 all_goals (try simp (disch:=omega) only [w64,wu8,tn0,tn1,tm1,tm2,List.length_append,List.length_cons,List.length_nil] at*)
 all_goals (try omega)
 all_goals (try grind [])
set_option maxRecDepth 100000 in
theorem impl_merged_1.eq:EqS c_impl_merged_1 Tryz.f180 [3] [] [] noL (fun i x=>impl_merged_1.F x.1 x.2):=by intro i x;kernel_rfl
theorem impl_merged_1.ok:ConOk Tryz.prog 180 c_impl_merged_1:=okOf impl_merged_1.eq Tryz.func180 rfl (by kernel_rfl) fun i x h hi hw=>impl_merged_1.pure x.1 x.2 h hw
def impl_merged_1.e:GE:=⟨180,c_impl_merged_1,⟨_,Tryz.func180,rfl,rfl⟩,impl_merged_1.ok⟩
def c_slices_BinarySearchFunc_impl_Point_impl_Point_int:Con:={A:=(.pair T16q (.pair (.int .i64) .unit)),shA:=[.one,.one,.clo 180 []],R:=(.pair (.int .i64) .bool),shR:=[(false,1),(false,1)],pre:=fun _ a=>(pBs a.1 a.2.1 a.2.2),f:=some fun _ a=>((fBs a.1 a.2.1 a.2.2),((),()))}
def slices_BinarySearchFunc_impl_Point_impl_Point_int.F (a0:U7q) (a1:Int) (a2:Unit):Prop:=(eS [(0,.val false [.lst T0q a0 none]),(1,.val false [.int .i64 a1]),(2,.fn 180 [] []),(8,.val false [.int .i64 (ln a0)])] [(0,.val false [.lst T0q a0 none]),(1,.val false [.int .i64 a1]),(2,.fn 180 [] []),(8,.val false [.int .i64 (ln a0)])]∧((bsI a0 a1 a2 0 (ln a0))∧∀(y1:(Int×Int)),(bsI a0 a1 a2 y1.1 y1.2)→(caseB (decide (y1.1<y1.2)) (0≤(1:Int)∧(0≤(wI (Int.fdiv (IntKind.wrap .u64 (wI (y1.1+y1.2))) (2 ^ (min (tN (1:Int)) (IntKind.bits .u64)))))∧((wI (Int.fdiv (IntKind.wrap .u64 (wI (y1.1+y1.2))) (2 ^ (min (tN (1:Int)) (IntKind.bits .u64)))))<(ln a0)∧(True∧∀r2,(Eq r2 ((fSubT ((List.getD a0 (tN (wI (Int.fdiv (IntKind.wrap .u64 (wI (y1.1+y1.2))) (2 ^ (min (tN (1:Int)) (IntKind.bits .u64)))))) (0,0)).1,(List.getD a0 (tN (wI (Int.fdiv (IntKind.wrap .u64 (wI (y1.1+y1.2))) (2 ^ (min (tN (1:Int)) (IntKind.bits .u64)))))) (0,0)).2) a1),((),())))→(caseB (decide (r2.1<(0:Int))) (eS [(0,.val false [.lst T0q a0 none]),(1,.val false [.int .i64 a1]),(2,.fn 180 [] []),(8,.val false [.int .i64 (ln a0)])] [(0,.val false [.lst T0q a0 none]),(1,.val false [.int .i64 a1]),(2,.fn 180 [] []),(8,.val false [.int .i64 (ln a0)])]∧(bsI a0 a1 a2 (wI ((wI (Int.fdiv (IntKind.wrap .u64 (wI (y1.1+y1.2))) (2 ^ (min (tN (1:Int)) (IntKind.bits .u64)))))+(1:Int))) y1.2)∧(bsM a0 a1 a2 (wI ((wI (Int.fdiv (IntKind.wrap .u64 (wI (y1.1+y1.2))) (2 ^ (min (tN (1:Int)) (IntKind.bits .u64)))))+(1:Int))) y1.2)<(bsM a0 a1 a2 y1.1 y1.2)) (eS [(0,.val false [.lst T0q a0 none]),(1,.val false [.int .i64 a1]),(2,.fn 180 [] []),(8,.val false [.int .i64 (ln a0)])] [(0,.val false [.lst T0q a0 none]),(1,.val false [.int .i64 a1]),(2,.fn 180 [] []),(8,.val false [.int .i64 (ln a0)])]∧(bsI a0 a1 a2 y1.1 (wI (Int.fdiv (IntKind.wrap .u64 (wI (y1.1+y1.2))) (2 ^ (min (tN (1:Int)) (IntKind.bits .u64))))))∧(bsM a0 a1 a2 y1.1 (wI (Int.fdiv (IntKind.wrap .u64 (wI (y1.1+y1.2))) (2 ^ (min (tN (1:Int)) (IntKind.bits .u64))))))<(bsM a0 a1 a2 y1.1 y1.2))))))) (caseB (decide (y1.1<(ln a0))) (0≤y1.1∧(y1.1<(ln a0)∧(True∧∀r3,(Eq r3 ((fSubT ((List.getD a0 (tN y1.1) (0,0)).1,(List.getD a0 (tN y1.1) (0,0)).2) a1),((),())))→(Eq ((y1.1,(r3.1==(0:Int))),((),())) ((fBs a0 a1 a2),((),())))))) (Eq ((y1.1,false),((),())) ((fBs a0 a1 a2),((),())))))))
def slices_BinarySearchFunc_impl_Point_impl_Point_int.L (a0:U7q) (a1:Int) (a2:Unit):Nat→Option LoopAnn:=fun p=>Go.Proofs.YtnoapekdbmpiaaaGreat.Bv.look p [(60,{kp:={hold:=[0,1,2,8],slots:=[9,10],boxes:=[],rows:=[]},T:=T0q,I:=fun st y=>bsI a0 a1 a2 y.1 y.2,μ:=fun st y=>bsM a0 a1 a2 y.1 y.2})]
theorem slices_BinarySearchFunc_impl_Point_impl_Point_int.pure (a0:U7q) (a1:Int) (a2:Unit) (h:(pBs a0 a1 a2)) (hw:Wf c_slices_BinarySearchFunc_impl_Point_impl_Point_int.A (a0,a1,a2)):slices_BinarySearchFunc_impl_Point_impl_Point_int.F a0 a1 a2:=by
 delta slices_BinarySearchFunc_impl_Point_impl_Point_int.F ln tN wI eS
 simp only [forall_eq,true_and,and_true,caseB_iff,Prod.mk.injEq,decide_eq_true_eq,decide_eq_false_iff_not,Bool.not_eq_true',Bool.not_eq_false',bne_iff_ne,ne_eq,beq_iff_eq,Bool.not_true,Bool.not_false,beq_eq_false_iff_ne,bne_eq_false_iff_eq,List.length_append,List.length_cons,List.length_nil,List.append_nil,Nat.zero_add,decide_true,decide_false,eq_self_iff_true,fSubT,Prod.eta]
 obtain⟨hp,ht0,ht1,hl⟩:=h
 refine⟨⟨by omega,by omega,by omega,by simp,fun k h1 h2=>by omega⟩,?_⟩
 rintro⟨i,j⟩ hI
 simp only at hI ⊢
 have q1:=hI.h1
 have q2:=hI.h2
 have q3:=hI.h3
 refine⟨fun hij=>?_,fun hij=>?_⟩
 · rw [w64 (x:=i+j) (by omega) (by omega),wu64 (x:=i+j) (by omega) (by omega),half (by omega) (by omega),w64 (x:=(i+j) / 2) (by omega) (by omega)]
   have hk:=bs_at hp (i:=((i+j) / 2).toNat) (by omega)
   rw [w64 (x:=(a0.getD ((i+j) / 2).toNat (0,0)).1 - a1) (by omega) (by omega),w64 (x:=(i+j) / 2+1) (by omega) (by omega)]
   refine⟨by omega,by omega,by omega,fun h1=>⟨bs_lo hp hI (by omega) (by omega) (by omega),by unfold bsM;omega⟩,fun h1=>⟨bs_hi hp hI (by omega) (by omega) (by omega),by unfold bsM;omega⟩⟩
 · obtain⟨e1,e2⟩:=bs_end hp hI hij
   have e3:((i.toNat:Nat):Int)=i:=by omega
   refine⟨fun h1=>⟨by omega,by omega,?_⟩,fun h1=>?_⟩
   · have hk:=bs_at hp (i:=i.toNat) (by omega)
     rw [w64 (by omega) (by omega)]
     simp only [fBs,e1,e2,e3,decide_eq_true h1,Bool.true_and,Prod.mk.injEq,true_and,and_true]
     rw [Bool.eq_iff_iff];simp;omega
   · simp only [fBs,e1,e2,e3,decide_eq_false h1,Bool.false_and]
set_option maxRecDepth 100000 in
theorem slices_BinarySearchFunc_impl_Point_impl_Point_int.eq:EqS c_slices_BinarySearchFunc_impl_Point_impl_Point_int Tryz.f179 [3,4] [impl_merged_1.e] [] (fun i x=>slices_BinarySearchFunc_impl_Point_impl_Point_int.L x.1 x.2.1 x.2.2) (fun i x=>slices_BinarySearchFunc_impl_Point_impl_Point_int.F x.1 x.2.1 x.2.2):=by intro i x;kernel_rfl
theorem slices_BinarySearchFunc_impl_Point_impl_Point_int.ok:ConOk Tryz.prog 179 c_slices_BinarySearchFunc_impl_Point_impl_Point_int:=okOf slices_BinarySearchFunc_impl_Point_impl_Point_int.eq Tryz.func179 rfl (by kernel_rfl) fun i x h hi hw=>slices_BinarySearchFunc_impl_Point_impl_Point_int.pure x.1 x.2.1 x.2.2 h hw
def slices_BinarySearchFunc_impl_Point_impl_Point_int.e:GE:=⟨179,c_slices_BinarySearchFunc_impl_Point_impl_Point_int,⟨_,Tryz.func179,rfl,rfl⟩,slices_BinarySearchFunc_impl_Point_impl_Point_int.ok⟩
end Go.Proofs.YtnoapekdbmpiaaaGreat.B
