/- Points sliced. -/
import Derived.Test.YtnoapekdbmpiaaaGreatCMrgA
set_option linter.unusedVariables false
set_option linter.unusedSimpArgs false
namespace Go.Proofs.YtnoapekdbmpiaaaGreat.B
open Go Go.Proofs.YtnoapekdbmpiaaaGreat.Bv
def fDel (p:Pt) (lo hi:Int):Bool:=decide (p.1<lo)||decide (p.1≥hi)
def dDel (c:Int×Int) (p:Pt):Bool:=fDel p c.1 c.2
def pLenD (l:List Pt) (c:Int×Int):Prop:=l.length≤1099511627776
def fIdxD (l:List Pt) (c:Int×Int):Int:=if l.findIdx (dDel c)<l.length then ((l.findIdx (dDel c):Nat):Int) else -1
def ixdI (l:List Pt) (c:Int×Int) (i:Int):Prop:=0≤i∧i≤l.length∧∀j,j<i.toNat→dDel c (l.getD j (0,0))=false
def ixdM (l:List Pt) (c:Int×Int) (i:Int):Nat:=(l.length - i).toNat
theorem ixd_yes {l:List Pt} {c:Int×Int} {i:Int} (h:ixdI l c i) (hi:i<l.length) (hd:dDel c (l.getD i.toNat (0,0))=true):i=fIdxD l c:=by
 obtain⟨h1,h2,h3⟩:=h
 have e:l.findIdx (dDel c)=i.toNat:=by
  refine (List.findIdx_eq (by omega)).2 ⟨by rw [getD_lt (by omega)] at hd;exact hd,fun j hj=>?_⟩
  have:=h3 j hj
  rw [getD_lt (by omega)] at this;exact this
 unfold fIdxD
 rw [e,if_pos (by omega)];omega
theorem ixd_no {l:List Pt} {c:Int×Int} {i:Int} (h:ixdI l c i) (hi:¬i<l.length):-1=fIdxD l c:=by
 obtain⟨h1,h2,h3⟩:=h
 have e:¬l.findIdx (dDel c)<l.length:=fun hlt=>by
  have a:=List.findIdx_getElem (w:=hlt)
  have b:=h3 (l.findIdx (dDel c)) (by omega)
  rw [getD_lt hlt,a] at b;cases b
 unfold fIdxD
 rw [if_neg e]
def fDelP (l:List Pt) (c:Int×Int):List Pt:=l.filter fun p=>!dDel c p
structure dlI (l:List Pt) (c:Int×Int) (i j:Int) (s:List Pt):Prop where
 h1:0≤i
 h2:i<j
 h3:j≤l.length
 h4:s.length=l.length
 h5:s.take i.toNat=(l.take j.toNat).filter fun p=>!dDel c p
 h6:s.drop j.toNat=l.drop j.toNat
def dlM (l:List Pt) (c:Int×Int) (i j:Int) (s:List Pt):Nat:=(l.length - j).toNat
theorem dl_zero {l:List Pt} {c:Int×Int} (h:¬fIdxD l c= -1):0≤fIdxD l c∧fIdxD l c<l.length∧dlI l c (fIdxD l c) (fIdxD l c+1) l:=by
 unfold fIdxD at h ⊢
 split at h
 · rename_i hlt
   rw [if_pos hlt]
   refine⟨by omega,by omega,⟨by omega,by omega,by omega,rfl,?_,rfl⟩⟩
   rw [tn1 (by omega),Int.toNat_natCast,take_getD (0,0) hlt,List.filter_append]
   have a:=List.findIdx_getElem (w:=hlt)
   have hk:(l.take (l.findIdx (dDel c))).filter (fun p=>!dDel c p)=l.take (l.findIdx (dDel c)):=List.filter_eq_self.2 fun x hx=>by
    obtain⟨k,hk,e⟩:=List.getElem_of_mem hx
    rw [List.length_take] at hk
    have:=List.not_of_lt_findIdx (xs:=l) (p:=dDel c) (i:=k) (by omega)
    rw [List.getElem_take] at e
    rw [←e];simpa using this
   rw [hk,getD_lt hlt]
   simp [a]
 · exact absurd rfl h
theorem dl_all {l:List Pt} {c:Int×Int} (h:fIdxD l c= -1):l=fDelP l c:=by
 unfold fIdxD at h
 split at h
 · omega
 · rename_i hn
   refine (List.filter_eq_self.2 fun x hx=>?_).symm
   have:=List.findIdx_eq_length.1 (Nat.le_antisymm (List.findIdx_le_length (p:=dDel c)) (by omega)) x hx
   simp [this]
theorem dl_get {l:List Pt} {c:Int×Int} {i j:Int} {s:List Pt} (h:dlI l c i j s) (hj:j<l.length):s.getD j.toNat (0,0)=l.getD j.toNat (0,0):=by
 obtain⟨h1,h2,h3,h4,h5,h6⟩:=h
 have a:=drop_getD (0,0) (l:=s) (i:=j.toNat) (by omega)
 have b:=drop_getD (0,0) (l:=l) (i:=j.toNat) (by omega)
 rw [a,b] at h6
 exact (List.cons.inj h6).1
theorem dl_keep {l:List Pt} {c:Int×Int} {i j:Int} {s:List Pt} (h:dlI l c i j s) (hj:j<l.length) (hd:dDel c (l.getD j.toNat (0,0))=false):dlI l c (i+1) (j+1) (s.set i.toNat (l.getD j.toNat (0,0))):=by
 obtain⟨h1,h2,h3,h4,h5,h6⟩:=h
 refine⟨by omega,by omega,by omega,by rw [List.length_set,h4],?_,?_⟩
 · rw [tn1 h1,tn1 (by omega:0≤j),take_getD (0,0) (by omega:j.toNat<l.length),List.filter_append,←h5]
   have:(s.set i.toNat (l.getD j.toNat (0,0))).take (i.toNat+1)=s.take i.toNat++[l.getD j.toNat (0,0)]:=by
    rw [take_getD (0,0) (by rw [List.length_set];omega),List.take_set_of_le (Nat.le_refl _)]
    congr 2
    rw [List.getD_eq_getElem?_getD,List.getElem?_set_self (by omega)];rfl
   rw [this]
   generalize l.getD j.toNat (0,0)=x at hd ⊢
   simp [hd]
 · rw [tn1 (by omega:0≤j),List.drop_set_of_lt (by omega),←List.drop_drop,h6,List.drop_drop]
theorem dl_drop {l:List Pt} {c:Int×Int} {i j:Int} {s:List Pt} (h:dlI l c i j s) (hj:j<l.length) (hd:dDel c (l.getD j.toNat (0,0))=true):dlI l c i (j+1) s:=by
 obtain⟨h1,h2,h3,h4,h5,h6⟩:=h
 refine⟨by omega,by omega,by omega,h4,?_,?_⟩
 · rw [tn1 (by omega:0≤j),take_getD (0,0) (by omega:j.toNat<l.length),List.filter_append,←h5]
   generalize l.getD j.toNat (0,0)=x at hd ⊢
   simp [hd]
 · rw [tn1 (by omega:0≤j),←List.drop_drop,h6,List.drop_drop]
theorem dl_end {l:List Pt} {c:Int×Int} {i j:Int} {s r:List Pt} (h:dlI l c i j s) (hj:¬j<l.length):List.take i.toNat (List.take i.toNat s++r)=fDelP l c:=by
 obtain⟨h1,h2,h3,h4,h5,h6⟩:=h
 have e:j.toNat=l.length:=by omega
 rw [e,List.take_length] at h5
 rw [List.take_append_of_le_length (by rw [List.length_take];omega),List.take_take,Nat.min_self,h5];rfl
def pSliceD (l:List Pt) (lo hi:Int):Prop:=l.length≤1099511627776
theorem delP_slice (l:List Pt) (lo hi:Int):fDelP l (lo,hi)=fSlice l lo hi:=by
 unfold fDelP fSlice
 congr 1
 funext p
 simp only [dDel,fDel]
 rw [Bool.eq_iff_iff];simp
structure s8I (l:List Pt) (lo hi:Int) (i:Int) (out:List Pt):Prop where
 h1:0≤i
 h2:i≤l.length
 h3:out=fSlice (l.take i.toNat) lo hi
 h4:(out.length:Int)≤i
def s8M (l:List Pt) (lo hi:Int) (i:Int) (out:List Pt):Nat:=(l.length - i).toNat
theorem s8_yes {l:List Pt} {lo hi i:Int} {out:List Pt} (h:s8I l lo hi i out) (hi':i<l.length) (h1:lo≤(l.getD i.toNat (0,0)).1) (h2:(l.getD i.toNat (0,0)).1<hi):s8I l lo hi (i+1) (out++[l.getD i.toNat (0,0)]):=by
 obtain⟨q1,q2,q3,q4⟩:=h
 refine⟨by omega,by omega,?_,by simp;omega⟩
 rw [tn1 q1,take_getD (0,0) (by omega),q3]
 unfold fSlice
 rw [List.filter_append]
 generalize l.getD i.toNat (0,0)=x at*
 simp [h1,h2]
theorem s8_no {l:List Pt} {lo hi i:Int} {out:List Pt} (h:s8I l lo hi i out) (hi':i<l.length) (h1:¬(lo≤(l.getD i.toNat (0,0)).1∧(l.getD i.toNat (0,0)).1<hi)):s8I l lo hi (i+1) out:=by
 obtain⟨q1,q2,q3,q4⟩:=h
 refine⟨by omega,by omega,?_,by omega⟩
 rw [tn1 q1,take_getD (0,0) (by omega),q3]
 unfold fSlice
 rw [List.filter_append]
 generalize l.getD i.toNat (0,0)=x at*
 have:(decide (lo≤x.1)&&decide (x.1<hi))=false:=by
  rw [Bool.eq_false_iff];simpa using h1
 simp [this]
theorem s8_end {l:List Pt} {lo hi i:Int} {out:List Pt} (h:s8I l lo hi i out) (hi':¬i<l.length):out=fSlice l lo hi:=by
 obtain⟨q1,q2,q3,q4⟩:=h
 rw [q3,show i.toNat=l.length by omega,List.take_length]
def c_impl_sliced_1:Con:={A:=(.pair T0q T0q),shA:=[.agg 2,.ptr 1,.ptr 1],R:=.bool,shR:=[(false,1)],pre:=fun _ _=>True,f:=some fun _ a=>((fDel a.1 a.2.1 a.2.2),((),()))}
def impl_sliced_1.F (a0:(Int×Int)) (a1:Int) (a2:Int):Prop:=(caseB (decide (a0.1<a1)) (Eq (true,((),())) ((fDel a0 a1 a2),((),()))) (Eq ((decide (a0.1≥a2)),((),())) ((fDel a0 a1 a2),((),()))))
theorem impl_sliced_1.pure (a0:(Int×Int)) (a1:Int) (a2:Int) (h:True) (hw:Wf c_impl_sliced_1.A (a0,a1,a2)):impl_sliced_1.F a0 a1 a2:=by
 unfold impl_sliced_1.F
 simp only [forall_eq,true_and,and_true,caseB_iff,Prod.mk.injEq,decide_eq_true_eq,decide_eq_false_iff_not,Bool.not_eq_true',Bool.not_eq_false',bne_iff_ne,ne_eq,beq_iff_eq,Bool.not_true,Bool.not_false,beq_eq_false_iff_ne,bne_eq_false_iff_eq,List.length_append,List.length_cons,List.length_nil,List.append_nil,Nat.zero_add,decide_true,decide_false,eq_self_iff_true]
 repeat' (with_reducible (first | (refine And.intro ?_ ?_) | intro _))
 all_goals (try simp (disch:=omega) only [w64,wu8,tn0,tn1,tm1,tm2,List.length_append,List.length_cons,List.length_nil] at*)
 all_goals (try simp (disch:=omega) only [w64,wu8,tn0,tn1,tm1,tm2,List.length_append,List.length_cons,List.length_nil] at*)
 all_goals (try omega)
 all_goals (try grind [fDel])
set_option maxRecDepth 100000 in
theorem impl_sliced_1.eq:EqS c_impl_sliced_1 Tryz.f137 [4] [] [] noL (fun i x=>impl_sliced_1.F x.1 x.2.1 x.2.2):=by intro i x;kernel_rfl
theorem impl_sliced_1.ok:ConOk Tryz.prog 137 c_impl_sliced_1:=okOf impl_sliced_1.eq Tryz.func137 rfl (by kernel_rfl) fun i x h hi hw=>impl_sliced_1.pure x.1 x.2.1 x.2.2 h hw
def impl_sliced_1.e:GE:=⟨137,c_impl_sliced_1,⟨_,Tryz.func137,rfl,rfl⟩,impl_sliced_1.ok⟩
def c_slices_IndexFunc_impl_Point_impl_Point:Con:={A:=(.pair T16q T0q),shA:=[.one,.clo 137 [1,1]],R:=(.int .i64),shR:=[(false,1)],pre:=fun _ a=>(pLenD a.1 a.2),f:=some fun _ a=>((fIdxD a.1 a.2),((),()))}
def slices_IndexFunc_impl_Point_impl_Point.F (a0:U7q) (a1:(Int×Int)):Prop:=(eS [(0,.val false [.lst T0q a0 none]),(1,.fn 137 [] [.ptr [.int .i64 a1.1],.ptr [.int .i64 a1.2]]),(7,.val false [.int .i64 (ln a0)])] [(0,.val false [.lst T0q a0 none]),(1,.fn 137 [] [.ptr [.int .i64 a1.1],.ptr [.int .i64 a1.2]]),(7,.val false [.int .i64 (ln a0)])]∧((ixdI a0 a1 0)∧∀(y1:Int),(ixdI a0 a1 y1)→(caseB (decide (y1<(ln a0))) (0≤y1∧(y1<(ln a0)∧(True∧∀r2,(Eq r2 ((fDel ((List.getD a0 (tN y1) (0,0)).1,(List.getD a0 (tN y1) (0,0)).2) a1.1 a1.2),((),())))→(caseB r2.1 (Eq (y1,((),())) ((fIdxD a0 a1),((),()))) (eS [(0,.val false [.lst T0q a0 none]),(1,.fn 137 [] [.ptr [.int .i64 a1.1],.ptr [.int .i64 a1.2]]),(7,.val false [.int .i64 (ln a0)])] [(0,.val false [.lst T0q a0 none]),(1,.fn 137 [] [.ptr [.int .i64 a1.1],.ptr [.int .i64 a1.2]]),(7,.val false [.int .i64 (ln a0)])]∧(ixdI a0 a1 (wI (y1+(1:Int))))∧(ixdM a0 a1 (wI (y1+(1:Int))))<(ixdM a0 a1 y1)))))) (Eq ((-1),((),())) ((fIdxD a0 a1),((),()))))))
def slices_IndexFunc_impl_Point_impl_Point.L (a0:U7q) (a1:(Int×Int)):Nat→Option LoopAnn:=fun p=>Go.Proofs.YtnoapekdbmpiaaaGreat.Bv.look p [(26,{kp:={hold:=[0,1,7],slots:=[8],boxes:=[],rows:=[]},T:=(.int .i64),I:=fun st y=>ixdI a0 a1 y,μ:=fun st y=>ixdM a0 a1 y})]
theorem slices_IndexFunc_impl_Point_impl_Point.pure (a0:U7q) (a1:(Int×Int)) (h:(pLenD a0 a1)) (hw:Wf c_slices_IndexFunc_impl_Point_impl_Point.A (a0,a1)):slices_IndexFunc_impl_Point_impl_Point.F a0 a1:=by
 delta slices_IndexFunc_impl_Point_impl_Point.F ln tN wI eS
 simp only [forall_eq,true_and,and_true,caseB_iff,Prod.mk.injEq,decide_eq_true_eq,decide_eq_false_iff_not,Bool.not_eq_true',Bool.not_eq_false',bne_iff_ne,ne_eq,beq_iff_eq,Bool.not_true,Bool.not_false,beq_eq_false_iff_ne,bne_eq_false_iff_eq,List.length_append,List.length_cons,List.length_nil,List.append_nil,Nat.zero_add,decide_true,decide_false,eq_self_iff_true,Prod.eta]
 have hl:a0.length≤1099511627776:=h
 refine⟨⟨by omega,by omega,fun j hj=>absurd hj (by simp)⟩,?_⟩
 rintro i hI
 have q1:=hI.1
 have q2:=hI.2.1
 rw [w64 (x:=i+1) (by omega) (by omega)]
 refine⟨fun hi=>⟨q1,hi,fun hd=>ixd_yes hI hi hd,fun hd=>⟨⟨by omega,by omega,fun j hj=>?_⟩,by unfold ixdM;omega⟩⟩,fun hi=>ixd_no hI hi⟩
 by_cases e:j=i.toNat
 · rw [e];exact hd
 · exact hI.2.2 j (by omega)
set_option maxRecDepth 100000 in
theorem slices_IndexFunc_impl_Point_impl_Point.eq:EqS c_slices_IndexFunc_impl_Point_impl_Point Tryz.f173 [3] [impl_sliced_1.e] [] (fun i x=>slices_IndexFunc_impl_Point_impl_Point.L x.1 x.2) (fun i x=>slices_IndexFunc_impl_Point_impl_Point.F x.1 x.2):=by intro i x;kernel_rfl
theorem slices_IndexFunc_impl_Point_impl_Point.ok:ConOk Tryz.prog 173 c_slices_IndexFunc_impl_Point_impl_Point:=okOf slices_IndexFunc_impl_Point_impl_Point.eq Tryz.func173 rfl (by kernel_rfl) fun i x h hi hw=>slices_IndexFunc_impl_Point_impl_Point.pure x.1 x.2 h hw
def slices_IndexFunc_impl_Point_impl_Point.e:GE:=⟨173,c_slices_IndexFunc_impl_Point_impl_Point,⟨_,Tryz.func173,rfl,rfl⟩,slices_IndexFunc_impl_Point_impl_Point.ok⟩
def c_slices_DeleteFunc_impl_Point_impl_Point:Con:={A:=(.pair T16q T0q),shA:=[.one,.clo 137 [1,1]],ownA:=[(0,74)],R:=T16q,shR:=[(false,1)],fresh:=[(0,74)],pre:=fun _ a=>(pLenD a.1 a.2),f:=some fun _ a=>((fDelP a.1 a.2),((),()))}
def slices_DeleteFunc_impl_Point_impl_Point.F (a0:U7q) (a1:(Int×Int)):Prop:=((pLenD a0 (a1.1,a1.2))∧∀r1,(Eq r1 ((fIdxD a0 (a1.1,a1.2)),((),())))→(caseB (r1.1==((-1):Int)) (Eq (a0,((),())) ((fDelP a0 a1),((),()))) (eS [(0,.val false [.own T0q 1000003]),(1,.fn 137 [] [.ptr [.int .i64 a1.1],.ptr [.int .i64 a1.2]])] [(0,.val false [.own T0q 1000003]),(1,.fn 137 [] [.ptr [.int .i64 a1.1],.ptr [.int .i64 a1.2]])]∧((dlI a0 a1 r1.1 (wI (r1.1+(1:Int))) a0)∧∀(y2:(Int×(Int×U7q))),(dlI a0 a1 y2.1 y2.2.1 y2.2.2)→(caseB (decide (y2.2.1<(ln y2.2.2))) (0≤y2.2.1∧(y2.2.1<(ln y2.2.2)∧(True∧∀r3,(Eq r3 ((fDel ((List.getD y2.2.2 (tN y2.2.1) (0,0)).1,(List.getD y2.2.2 (tN y2.2.1) (0,0)).2) a1.1 a1.2),((),())))→(caseB (!r3.1) (0≤y2.1∧(y2.1<(ln y2.2.2)∧(eS [(0,.val false [.own T0q 1000003]),(1,.fn 137 [] [.ptr [.int .i64 a1.1],.ptr [.int .i64 a1.2]])] [(0,.val false [.own T0q 1000003]),(1,.fn 137 [] [.ptr [.int .i64 a1.1],.ptr [.int .i64 a1.2]])]∧(dlI a0 a1 (wI (y2.1+(1:Int))) (wI (y2.2.1+(1:Int))) (List.set y2.2.2 (tN y2.1) ((List.getD y2.2.2 (tN y2.2.1) (0,0)).1,(List.getD y2.2.2 (tN y2.2.1) (0,0)).2)))∧(dlM a0 a1 (wI (y2.1+(1:Int))) (wI (y2.2.1+(1:Int))) (List.set y2.2.2 (tN y2.1) ((List.getD y2.2.2 (tN y2.2.1) (0,0)).1,(List.getD y2.2.2 (tN y2.2.1) (0,0)).2)))<(dlM a0 a1 y2.1 y2.2.1 y2.2.2)))) (eS [(0,.val false [.own T0q 1000003]),(1,.fn 137 [] [.ptr [.int .i64 a1.1],.ptr [.int .i64 a1.2]])] [(0,.val false [.own T0q 1000003]),(1,.fn 137 [] [.ptr [.int .i64 a1.1],.ptr [.int .i64 a1.2]])]∧(dlI a0 a1 y2.1 (wI (y2.2.1+(1:Int))) y2.2.2)∧(dlM a0 a1 y2.1 (wI (y2.2.1+(1:Int))) y2.2.2)<(dlM a0 a1 y2.1 y2.2.1 y2.2.2)))))) (0≤y2.1∧(y2.1≤(ln y2.2.2)∧((tN y2.1)≤(List.length y2.2.2)∧((List.length y2.2.2)≤List.length y2.2.2∧(0≤y2.1∧(y2.1≤(ln (List.take (tN y2.1) y2.2.2++(List.replicate ((List.length y2.2.2) - (tN y2.1)) ((0:Int),(0:Int))++List.drop (List.length y2.2.2) y2.2.2)))∧(Eq ((List.take (tN y2.1) (List.take (tN y2.1) y2.2.2++(List.replicate ((List.length y2.2.2) - (tN y2.1)) ((0:Int),(0:Int))++List.drop (List.length y2.2.2) y2.2.2))),((),())) ((fDelP a0 a1),((),()))))))))))))))
def slices_DeleteFunc_impl_Point_impl_Point.L (a0:U7q) (a1:(Int×Int)):Nat→Option LoopAnn:=fun p=>Go.Proofs.YtnoapekdbmpiaaaGreat.Bv.look p [(122,{kp:={hold:=[0,1],slots:=[5,6],boxes:=[],rows:=[{bx:=false,s:=0,i:=0,k:=1000003,e:=74,hot:=true}]},T:=(.pair (.int .i64) T19q),I:=fun st y=>dlI a0 a1 y.1 y.2.1 y.2.2,μ:=fun st y=>dlM a0 a1 y.1 y.2.1 y.2.2})]
theorem slices_DeleteFunc_impl_Point_impl_Point.pure (a0:U7q) (a1:(Int×Int)) (h:(pLenD a0 a1)) (hw:Wf c_slices_DeleteFunc_impl_Point_impl_Point.A (a0,a1)):slices_DeleteFunc_impl_Point_impl_Point.F a0 a1:=by
 delta slices_DeleteFunc_impl_Point_impl_Point.F ln tN wI eS
 simp only [forall_eq,true_and,and_true,caseB_iff,Prod.mk.injEq,decide_eq_true_eq,decide_eq_false_iff_not,Bool.not_eq_true',Bool.not_eq_false',bne_iff_ne,ne_eq,beq_iff_eq,Bool.not_true,Bool.not_false,beq_eq_false_iff_ne,bne_eq_false_iff_eq,List.length_append,List.length_cons,List.length_nil,List.append_nil,Nat.zero_add,decide_true,decide_false,eq_self_iff_true,Prod.eta,pLenD]
 have hl:a0.length≤1099511627776:=h
 refine⟨hl,fun h1=>dl_all h1,fun h1=>?_⟩
 obtain⟨z1,z2,z3⟩:=dl_zero h1
 rw [w64 (x:=fIdxD a0 a1+1) (by omega) (by omega)]
 refine⟨z3,?_⟩
 rintro⟨i,j,s⟩ hI
 simp only at hI ⊢
 have q1:=hI.h1
 have q2:=hI.h2
 have q3:=hI.h3
 have q4:=hI.h4
 refine⟨fun hj=>?_,fun hj=>?_⟩
 · have hj':j<(a0.length:Int):=by omega
   have hg:=dl_get hI hj'
   rw [w64 (x:=i+1) (by omega) (by omega),w64 (x:=j+1) (by omega) (by omega)]
   simp only [hg]
   refine⟨by omega,by omega,fun hd=>⟨by omega,by omega,dl_keep hI hj' hd,by unfold dlM;omega⟩,fun hd=>⟨dl_drop hI hj' hd,by unfold dlM;omega⟩⟩
 · have hj':¬j<(a0.length:Int):=by omega
   have he:=fun r=>dl_end (r:=r) hI hj'
   exact⟨by omega,by omega,by omega,by omega,by omega,by simp only [List.length_take,List.length_replicate,List.length_drop];omega,he _⟩
set_option maxRecDepth 100000 in
theorem slices_DeleteFunc_impl_Point_impl_Point.eq:EqS c_slices_DeleteFunc_impl_Point_impl_Point Tryz.f135 [27] [impl_sliced_1.e,slices_IndexFunc_impl_Point_impl_Point.e] [41] (fun i x=>slices_DeleteFunc_impl_Point_impl_Point.L x.1 x.2) (fun i x=>slices_DeleteFunc_impl_Point_impl_Point.F x.1 x.2):=by intro i x;kernel_rfl
theorem slices_DeleteFunc_impl_Point_impl_Point.ok:ConOk Tryz.prog 135 c_slices_DeleteFunc_impl_Point_impl_Point:=okOf slices_DeleteFunc_impl_Point_impl_Point.eq Tryz.func135 rfl (by kernel_rfl) fun i x h hi hw=>slices_DeleteFunc_impl_Point_impl_Point.pure x.1 x.2 h hw
def slices_DeleteFunc_impl_Point_impl_Point.e:GE:=⟨135,c_slices_DeleteFunc_impl_Point_impl_Point,⟨_,Tryz.func135,rfl,rfl⟩,slices_DeleteFunc_impl_Point_impl_Point.ok⟩
def c_impl_sliced:Con:={A:=(.pair T16q T0q),shA:=[.one,.one,.one],R:=T16q,shR:=[(false,1)],fresh:=[(0,74)],pre:=fun _ a=>(pSliceD a.1 a.2.1 a.2.2),f:=some fun _ a=>((fSlice a.1 a.2.1 a.2.2),((),()))}
def impl_sliced.F (a0:U7q) (a1:Int) (a2:Int):Prop:=((pLenP a0)∧∀r1,(Eq r1 ((fIdP a0),((),())))→((pLenD r1.1 (a1,a2))∧∀r2,(Eq r2 ((fDelP r1.1 (a1,a2)),((),())))→(Eq (r2.1,((),())) ((fSlice a0 a1 a2),((),())))))
theorem impl_sliced.pure (a0:U7q) (a1:Int) (a2:Int) (h:(pSliceD a0 a1 a2)) (hw:Wf c_impl_sliced.A (a0,a1,a2)):impl_sliced.F a0 a1 a2:=by
 unfold impl_sliced.F
 simp only [forall_eq,true_and,and_true,caseB_iff,Prod.mk.injEq,decide_eq_true_eq,decide_eq_false_iff_not,Bool.not_eq_true',Bool.not_eq_false',bne_iff_ne,ne_eq,beq_iff_eq,Bool.not_true,Bool.not_false,beq_eq_false_iff_ne,bne_eq_false_iff_eq,List.length_append,List.length_cons,List.length_nil,List.append_nil,Nat.zero_add,decide_true,decide_false,eq_self_iff_true,Prod.eta,pLenD,fIdP,pLenP]
 have hl:a0.length≤1099511627776:=h
 exact⟨hl,hl,delP_slice _ _ _⟩
set_option maxRecDepth 100000 in
theorem impl_sliced.eq:EqS c_impl_sliced Tryz.f64 [27] [slices_DeleteFunc_impl_Point_impl_Point.e,slices_Clone_impl_Point_impl_Point.e,impl_sliced_1.e] [] noL (fun i x=>impl_sliced.F x.1 x.2.1 x.2.2):=by intro i x;kernel_rfl
theorem impl_sliced.ok:ConOk Tryz.prog 64 c_impl_sliced:=okOf impl_sliced.eq Tryz.func64 rfl (by kernel_rfl) fun i x h hi hw=>impl_sliced.pure x.1 x.2.1 x.2.2 h hw
def impl_sliced.e:GE:=⟨64,c_impl_sliced,⟨_,Tryz.func64,rfl,rfl⟩,impl_sliced.ok⟩
def c_spec_l8Slice:Con:={A:=(.pair T16q T0q),shA:=[.one,.one,.one],R:=T16q,shR:=[(false,1)],fresh:=[(0,74)],pre:=fun _ a=>(pSliceD a.1 a.2.1 a.2.2),f:=some fun _ a=>((fSlice a.1 a.2.1 a.2.2),((),()))}
def spec_l8Slice.F (a0:U7q) (a1:Int) (a2:Int):Prop:=(eS [(0,.val false [.lst T0q a0 none]),(1,.val false [.int .i64 a1]),(2,.val false [.int .i64 a2])] [(0,.val false [.lst T0q a0 none]),(1,.val false [.int .i64 a1]),(2,.val false [.int .i64 a2])]∧((s8I a0 a1 a2 0 ([]:List (Int×Int)))∧∀(y1:(Int×U7q)),(s8I a0 a1 a2 y1.1 y1.2)→(caseB (decide (y1.1<(ln a0))) (0≤y1.1∧(y1.1<(ln a0)∧(caseB (decide (((List.getD a0 (tN y1.1) (0,0)).1)≥a1)) (0≤y1.1∧(y1.1<(ln a0)∧(caseB (decide (((List.getD a0 (tN y1.1) (0,0)).1)<a2)) (0≤y1.1∧(y1.1<(ln a0)∧(List.length y1.2+List.length [((List.getD a0 (tN y1.1) (0,0)).1,(List.getD a0 (tN y1.1) (0,0)).2)]≤9223372036854775807∧((List.length y1.2+List.length [((List.getD a0 (tN y1.1) (0,0)).1,(List.getD a0 (tN y1.1) (0,0)).2)])*16≤140737488355328∧(eS [(0,.val false [.lst T0q a0 none]),(1,.val false [.int .i64 a1]),(2,.val false [.int .i64 a2])] [(0,.val false [.lst T0q a0 none]),(1,.val false [.int .i64 a1]),(2,.val false [.int .i64 a2])]∧(s8I a0 a1 a2 (wI (y1.1+(1:Int))) (y1.2++[((List.getD a0 (tN y1.1) (0,0)).1,(List.getD a0 (tN y1.1) (0,0)).2)]))∧(s8M a0 a1 a2 (wI (y1.1+(1:Int))) (y1.2++[((List.getD a0 (tN y1.1) (0,0)).1,(List.getD a0 (tN y1.1) (0,0)).2)]))<(s8M a0 a1 a2 y1.1 y1.2)))))) (eS [(0,.val false [.lst T0q a0 none]),(1,.val false [.int .i64 a1]),(2,.val false [.int .i64 a2])] [(0,.val false [.lst T0q a0 none]),(1,.val false [.int .i64 a1]),(2,.val false [.int .i64 a2])]∧(s8I a0 a1 a2 (wI (y1.1+(1:Int))) y1.2)∧(s8M a0 a1 a2 (wI (y1.1+(1:Int))) y1.2)<(s8M a0 a1 a2 y1.1 y1.2))))) (eS [(0,.val false [.lst T0q a0 none]),(1,.val false [.int .i64 a1]),(2,.val false [.int .i64 a2])] [(0,.val false [.lst T0q a0 none]),(1,.val false [.int .i64 a1]),(2,.val false [.int .i64 a2])]∧(s8I a0 a1 a2 (wI (y1.1+(1:Int))) y1.2)∧(s8M a0 a1 a2 (wI (y1.1+(1:Int))) y1.2)<(s8M a0 a1 a2 y1.1 y1.2))))) (Eq (y1.2,((),())) ((fSlice a0 a1 a2),((),()))))))
def spec_l8Slice.L (a0:U7q) (a1:Int) (a2:Int):Nat→Option LoopAnn:=fun p=>Go.Proofs.YtnoapekdbmpiaaaGreat.Bv.look p [(58,{kp:={hold:=[0,1,2],slots:=[7,8],boxes:=[],rows:=[{bx:=false,s:=7,i:=0,k:=1000899,e:=74,hot:=true}]},T:=T19q,I:=fun st y=>s8I a0 a1 a2 y.1 y.2,μ:=fun st y=>s8M a0 a1 a2 y.1 y.2})]
theorem spec_l8Slice.pure (a0:U7q) (a1:Int) (a2:Int) (h:(pSliceD a0 a1 a2)) (hw:Wf c_spec_l8Slice.A (a0,a1,a2)):spec_l8Slice.F a0 a1 a2:=by
 delta spec_l8Slice.F ln tN wI eS
 simp only [forall_eq,true_and,and_true,caseB_iff,Prod.mk.injEq,decide_eq_true_eq,decide_eq_false_iff_not,Bool.not_eq_true',Bool.not_eq_false',bne_iff_ne,ne_eq,beq_iff_eq,Bool.not_true,Bool.not_false,beq_eq_false_iff_ne,bne_eq_false_iff_eq,List.length_append,List.length_cons,List.length_nil,List.append_nil,Nat.zero_add,decide_true,decide_false,eq_self_iff_true,Prod.eta]
 have hl:a0.length≤1099511627776:=h
 refine⟨⟨by omega,by omega,by simp [fSlice],by simp⟩,?_⟩
 rintro⟨i,out⟩ hI
 simp only at hI ⊢
 have q1:=hI.h1
 have q2:=hI.h2
 have q4:=hI.h4
 rw [w64 (x:=i+1) (by omega) (by omega)]
 have dn:∀o,s8M a0 a1 a2 (i+1) o<s8M a0 a1 a2 i out∨¬i<(a0.length:Int):=fun o=>by unfold s8M;omega
 refine⟨fun hi=>⟨q1,hi,fun h1=>⟨q1,hi,fun h2=>⟨q1,hi,by omega,by omega,s8_yes hI hi h1 h2,by unfold s8M;omega⟩,fun h2=>⟨s8_no hI hi (fun h=>h2 h.2),by unfold s8M;omega⟩⟩,fun h1=>⟨s8_no hI hi (fun h=>h1 h.1),by unfold s8M;omega⟩⟩,fun hi=>s8_end hI hi⟩
set_option maxRecDepth 100000 in
theorem spec_l8Slice.eq:EqS c_spec_l8Slice Tryz.f58 [27] [] [] (fun i x=>spec_l8Slice.L x.1 x.2.1 x.2.2) (fun i x=>spec_l8Slice.F x.1 x.2.1 x.2.2):=by intro i x;kernel_rfl
theorem spec_l8Slice.ok:ConOk Tryz.prog 58 c_spec_l8Slice:=okOf spec_l8Slice.eq Tryz.func58 rfl (by kernel_rfl) fun i x h hi hw=>spec_l8Slice.pure x.1 x.2.1 x.2.2 h hw
def spec_l8Slice.e:GE:=⟨58,c_spec_l8Slice,⟨_,Tryz.func58,rfl,rfl⟩,spec_l8Slice.ok⟩
end Go.Proofs.YtnoapekdbmpiaaaGreat.B
