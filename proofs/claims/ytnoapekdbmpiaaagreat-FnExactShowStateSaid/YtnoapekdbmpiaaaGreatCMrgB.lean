/- Points merged. -/
import Derived.Test.YtnoapekdbmpiaaaGreatCMrgA
import Derived.Test.YtnoapekdbmpiaaaGreatCInsP
set_option linter.unusedVariables false
set_option linter.unusedSimpArgs false
namespace Go.Proofs.YtnoapekdbmpiaaaGreat.B
open Go Go.Proofs.YtnoapekdbmpiaaaGreat.Bv
def pMg (a b:List Pt):Prop:=PtsR a∧PtsR b∧a.length≤1000000000∧b.length≤1000000000
structure mgI (a b:List Pt) (i:Int) (out:List Pt):Prop where
 h1:0≤i
 h2:i≤a.length
 h3:(a.drop i.toNat).foldl mIns out=a.foldl mIns b
 h4:PtsR out
 h5:(out.length:Int)≤b.length+i
def mgM (a b:List Pt) (i:Int) (out:List Pt):Nat:=(a.length - i).toNat
theorem mg_step {a b:List Pt} {i:Int} {out out':List Pt} (ha:PtsR a) (h:mgI a b i out) (hi:i<a.length) (ho:out'=mIns out (a.getD i.toNat (0,0))):mgI a b (i+1) out':=by
 obtain⟨h1,h2,h3,h4,h5⟩:=h
 have hm:=bs_at ha (i:=i.toNat) (by omega)
 have hl:=mIns_length out (a.getD i.toNat (0,0))
 refine⟨by omega,by omega,?_,⟨by rw [ho];exact mIns_asc h4.1 _,fun x hx=>?_⟩,by rw [ho];omega⟩
 · rw [tn1 h1,ho]
   rw [drop_getD (0,0) (by omega:i.toNat<a.length)] at h3
   exact h3
 · rw [ho] at hx
   rcases mem_mIns.1 hx with hx | ⟨rfl,_⟩
   · exact h4.2 x hx
   · exact hm
theorem mg_end {a b:List Pt} {i:Int} {out:List Pt} (ha:PtsR a) (hb:PtsR b) (h:mgI a b i out) (hi:¬i<a.length):out=fMerge a b:=by
 obtain⟨h1,h2,h3,h4,h5⟩:=h
 have e:i.toNat=a.length:=by omega
 rw [e,List.drop_length] at h3
 rw [←merge_two ha.1 hb.1,←h3];rfl
def c_impl_merged:Con:={A:=(.pair T16q T16q),shA:=[.one,.one],R:=T16q,shR:=[(false,1)],fresh:=[(0,74)],pre:=fun _ a=>(pMg a.1 a.2),f:=some fun _ a=>((fMerge a.1 a.2),((),()))}
def impl_merged.F (a0:U7q) (a1:U7q):Prop:=((pLenP a1)∧∀r1,(Eq r1 ((fIdP a1),((),())))→(eS [(12,.val false [.lst T0q a0 none]),(13,.val false [.int .i64 (ln a0)])] [(12,.val false [.lst T0q a0 none]),(13,.val false [.int .i64 (ln a0)])]∧((mgI a0 a1 0 r1.1)∧∀(y2:(Int×U7q)),(mgI a0 a1 y2.1 y2.2)→(caseB (decide (y2.1<(ln a0))) (0≤y2.1∧(y2.1<(ln a0)∧((pBs y2.2 ((List.getD a0 (tN y2.1) (0,0)).1) ())∧∀r3,(Eq r3 ((fBs y2.2 ((List.getD a0 (tN y2.1) (0,0)).1) ()),((),())))→(caseB (!r3.1.2) ((pIns_slices_Insert_impl_Point_impl_Point y2.2 r3.1.1 [((List.getD a0 (tN y2.1) (0,0)).1,(List.getD a0 (tN y2.1) (0,0)).2)])∧∀r4,(Eq r4 ((fIns_slices_Insert_impl_Point_impl_Point y2.2 r3.1.1 [((List.getD a0 (tN y2.1) (0,0)).1,(List.getD a0 (tN y2.1) (0,0)).2)]),((),())))→(eS [(12,.val false [.lst T0q a0 none]),(13,.val false [.int .i64 (ln a0)])] [(12,.val false [.lst T0q a0 none]),(13,.val false [.int .i64 (ln a0)])]∧(mgI a0 a1 (wI (y2.1+(1:Int))) r4.1)∧(mgM a0 a1 (wI (y2.1+(1:Int))) r4.1)<(mgM a0 a1 y2.1 y2.2))) (eS [(12,.val false [.lst T0q a0 none]),(13,.val false [.int .i64 (ln a0)])] [(12,.val false [.lst T0q a0 none]),(13,.val false [.int .i64 (ln a0)])]∧(mgI a0 a1 (wI (y2.1+(1:Int))) y2.2)∧(mgM a0 a1 (wI (y2.1+(1:Int))) y2.2)<(mgM a0 a1 y2.1 y2.2)))))) (Eq (y2.2,((),())) ((fMerge a0 a1),((),())))))))
def impl_merged.L (a0:U7q) (a1:U7q):Nat→Option LoopAnn:=fun p=>Go.Proofs.YtnoapekdbmpiaaaGreat.Bv.look p [(58,{kp:={hold:=[12,13],slots:=[5,14],boxes:=[],rows:=[{bx:=false,s:=5,i:=0,k:=1000643,e:=74,hot:=true}]},T:=T19q,I:=fun st y=>mgI a0 a1 y.1 y.2,μ:=fun st y=>mgM a0 a1 y.1 y.2})]
theorem impl_merged.pure (a0:U7q) (a1:U7q) (h:(pMg a0 a1)) (hw:Wf c_impl_merged.A (a0,a1)):impl_merged.F a0 a1:=by
 delta impl_merged.F ln tN wI eS
 simp only [forall_eq,true_and,and_true,caseB_iff,Prod.mk.injEq,decide_eq_true_eq,decide_eq_false_iff_not,Bool.not_eq_true',Bool.not_eq_false',bne_iff_ne,ne_eq,beq_iff_eq,Bool.not_true,Bool.not_false,beq_eq_false_iff_ne,bne_eq_false_iff_eq,List.length_append,List.length_cons,List.length_nil,List.append_nil,Nat.zero_add,decide_true,decide_false,eq_self_iff_true,fIdP,pLenP,pBs]
 obtain⟨ha,hb,hal,hbl⟩:=h
 refine⟨by omega,⟨by omega,by omega,rfl,hb,by omega⟩,?_⟩
 rintro⟨i,out⟩ hI
 simp only at hI ⊢
 have q1:=hI.h1
 have q2:=hI.h2
 have q5:=hI.h5
 refine⟨fun hi=>?_,fun hi=>mg_end ha hb hI hi⟩
 have hm:=bs_at ha (i:=i.toNat) (by omega)
 have hp:=pos_le (lt:=ltI) (key:=Prod.fst) (a0.getD i.toNat (0,0)).1 out
 have dn:∀o,mgM a0 a1 (i+1) o<mgM a0 a1 i out:=fun o=>by unfold mgM;omega
 rw [w64 (x:=i+1) (by omega) (by omega)]
 refine⟨q1,hi,⟨hI.h4,hm.1,hm.2,by omega⟩,fun h6=>⟨⟨by simp only [fBs];omega,by simp only [fBs];omega,by simp,by simp;omega⟩,mg_step ha hI hi ?_,dn _⟩,fun h6=>⟨mg_step ha hI hi ?_,dn _⟩⟩
 · have h7:hasT out (a0.getD i.toNat (0,0)).1=false:=h6
   unfold mIns
   rw [if_neg (by rw [h7];decide)]
   simp only [fBs,fIns_slices_Insert_impl_Point_impl_Point,Int.toNat_natCast,Prod.eta]
   rfl
 · have h7:hasT out (a0.getD i.toNat (0,0)).1=true:=h6
   unfold mIns
   rw [if_pos h7]
set_option maxRecDepth 100000 in
theorem impl_merged.eq:EqS c_impl_merged Tryz.f144 [27] [slices_Clone_impl_Point_impl_Point.e,slices_BinarySearchFunc_impl_Point_impl_Point_int.e,impl_merged_1.e,slices_Insert_impl_Point_impl_Point.e] [] (fun i x=>impl_merged.L x.1 x.2) (fun i x=>impl_merged.F x.1 x.2):=by intro i x;kernel_rfl
theorem impl_merged.ok:ConOk Tryz.prog 144 c_impl_merged:=okOf impl_merged.eq Tryz.func144 rfl (by kernel_rfl) fun i x h hi hw=>impl_merged.pure x.1 x.2 h hw
def impl_merged.e:GE:=⟨144,c_impl_merged,⟨_,Tryz.func144,rfl,rfl⟩,impl_merged.ok⟩
def fPut8 (l:List Pt) (p:Pt):List Pt:=putP p l
def pPut8 (l:List Pt) (p:Pt):Prop:=l.length≤1000000000000
def rest8 (p:Pt) (put:Bool) (l:List Pt):List Pt:=if put then l.filter (fun y=>!(y.1==p.1)) else putP p l
structure puI (l:List Pt) (p:Pt) (put:Bool) (i:Int) (out:List Pt):Prop where
 h1:0≤i
 h2:i≤l.length
 h3:out++rest8 p put (l.drop i.toNat)=putP p l
 h4:(out.length:Int)≤i+1
 h5:put=false→(out.length:Int)≤i
def puM (l:List Pt) (p:Pt) (put:Bool) (i:Int) (out:List Pt):Nat:=(l.length - i).toNat
def puB (l:List Pt) (p:Pt) (put:Bool) (i t v:Int) (out:List Pt):Prop:=((t,v):Pt)=p∧puI l p put i out
def puN (l:List Pt) (p:Pt) (put:Bool) (i t v:Int) (out:List Pt):Nat:=puM l p put i out
theorem pu_step {l:List Pt} {p:Pt} {put put':Bool} {i:Int} {out o':List Pt} (h:puI l p put i out) (hi:i<l.length) (hl:(o'.length:Int)≤i+2∧(put'=false→(o'.length:Int)≤i+1))
 (he:∀r,o'++rest8 p put' r=out++rest8 p put (l.getD i.toNat (0,0)::r)):puI l p put' (i+1) o':=by
 obtain⟨h1,h2,h3,h4,h5⟩:=h
 refine⟨by omega,by omega,?_,by omega,hl.2⟩
 rw [tn1 h1,he,←drop_getD (0,0) (by omega)];exact h3
theorem pu_no {p x:Pt} {r:List Pt} (h:¬p.1≤x.1):rest8 p false (x::r)=x::rest8 p false r:=by simp [rest8,putP,h]
theorem pu_yes {p x:Pt} {r:List Pt} (h:p.1≤x.1):rest8 p false (x::r)=p::rest8 p true (x::r):=by simp [rest8,putP,h]
theorem pu_eq {p x:Pt} {r:List Pt} (h:x.1=p.1):rest8 p true (x::r)=rest8 p true r:=by simp [rest8,h]
theorem pu_ne {p x:Pt} {r:List Pt} (h:¬x.1=p.1):rest8 p true (x::r)=x::rest8 p true r:=by simp [rest8,h]
theorem pu_end {l:List Pt} {p:Pt} {put:Bool} {i:Int} {out:List Pt} (h:puI l p put i out) (hi:¬i<l.length):(put=true→out=fPut8 l p)∧(put=false→out++[p]=fPut8 l p):=by
 obtain⟨h1,h2,h3,h4,h5⟩:=h
 have e:i.toNat=l.length:=by omega
 rw [e,List.drop_length] at h3
 refine⟨fun hp=>?_,fun hp=>?_⟩
 · rw [hp] at h3;simpa [rest8,fPut8] using h3
 · rw [hp] at h3;simpa [rest8,putP,fPut8] using h3
def fMrg8 (a b:List Pt):List Pt:=fMerge a b
def pMrg8 (a b:List Pt):Prop:=a.length≤400000000000∧b.length≤400000000000
structure m8I (a b:List Pt) (i:Int) (out:List Pt):Prop where
 h1:0≤i
 h2:i≤b.length
 h3:fMerge out (b.drop i.toNat)=fMerge a b
 h4:(out.length:Int)≤a.length+i
def m8M (a b:List Pt) (i:Int) (out:List Pt):Nat:=(b.length - i).toNat
theorem m8_step {a b:List Pt} {i:Int} {out:List Pt} (h:m8I a b i out) (hi:i<b.length):m8I a b (i+1) (putP (b.getD i.toNat (0,0)) out):=by
 obtain⟨h1,h2,h3,h4⟩:=h
 have:=putP_length (b.getD i.toNat (0,0)) out
 refine⟨by omega,by omega,?_,by omega⟩
 rw [tn1 h1]
 rw [drop_getD (0,0) (by omega:i.toNat<b.length)] at h3
 exact h3
theorem m8_end {a b:List Pt} {i:Int} {out:List Pt} (h:m8I a b i out) (hi:¬i<b.length):out=fMrg8 a b:=by
 obtain⟨h1,h2,h3,h4⟩:=h
 have e:i.toNat=b.length:=by omega
 rw [e,List.drop_length] at h3
 exact h3
def c_spec_l8Put:Con:={A:=(.pair T16q T0q),shA:=[.one,.agg 2],R:=T16q,shR:=[(false,1)],fresh:=[(0,74)],pre:=fun _ a=>(pPut8 a.1 a.2),f:=some fun _ a=>((fPut8 a.1 a.2),((),()))}
def spec_l8Put.F (a0:U7q) (a1:(Int×Int)):Prop:=(eS [(0,.val false [.lst T0q a0 none]),(3,.box 4 0)] [(0,.val false [.lst T0q a0 none]),(3,.box 4 0)]∧((puB a0 a1 false 0 a1.1 a1.2 ([]:List (Int×Int)))∧∀(y1:(Bool×(Int×(Int×(Int×U7q))))),(puB a0 a1 y1.1 y1.2.1 y1.2.2.1 y1.2.2.2.1 y1.2.2.2.2)→(caseB (decide (y1.2.1<(ln a0))) (caseB (!y1.1) (0≤y1.2.1∧(y1.2.1<(ln a0)∧(caseB (decide (y1.2.2.1≤((List.getD a0 (tN y1.2.1) (0,0)).1))) (List.length y1.2.2.2.2+List.length [(y1.2.2.1,y1.2.2.2.1)]≤9223372036854775807∧((List.length y1.2.2.2.2+List.length [(y1.2.2.1,y1.2.2.2.1)])*16≤140737488355328∧(0≤y1.2.1∧(y1.2.1<(ln a0)∧(caseB (((List.getD a0 (tN y1.2.1) (0,0)).1)!=y1.2.2.1) (0≤y1.2.1∧(y1.2.1<(ln a0)∧(List.length (y1.2.2.2.2++[(y1.2.2.1,y1.2.2.2.1)])+List.length [((List.getD a0 (tN y1.2.1) (0,0)).1,(List.getD a0 (tN y1.2.1) (0,0)).2)]≤9223372036854775807∧((List.length (y1.2.2.2.2++[(y1.2.2.1,y1.2.2.2.1)])+List.length [((List.getD a0 (tN y1.2.1) (0,0)).1,(List.getD a0 (tN y1.2.1) (0,0)).2)])*16≤140737488355328∧(eS [(0,.val false [.lst T0q a0 none]),(3,.box 4 0)] [(0,.val false [.lst T0q a0 none]),(3,.box 4 0)]∧(puB a0 a1 true (wI (y1.2.1+(1:Int))) y1.2.2.1 y1.2.2.2.1 ((y1.2.2.2.2++[(y1.2.2.1,y1.2.2.2.1)])++[((List.getD a0 (tN y1.2.1) (0,0)).1,(List.getD a0 (tN y1.2.1) (0,0)).2)]))∧(puN a0 a1 true (wI (y1.2.1+(1:Int))) y1.2.2.1 y1.2.2.2.1 ((y1.2.2.2.2++[(y1.2.2.1,y1.2.2.2.1)])++[((List.getD a0 (tN y1.2.1) (0,0)).1,(List.getD a0 (tN y1.2.1) (0,0)).2)]))<(puN a0 a1 y1.1 y1.2.1 y1.2.2.1 y1.2.2.2.1 y1.2.2.2.2)))))) (eS [(0,.val false [.lst T0q a0 none]),(3,.box 4 0)] [(0,.val false [.lst T0q a0 none]),(3,.box 4 0)]∧(puB a0 a1 true (wI (y1.2.1+(1:Int))) y1.2.2.1 y1.2.2.2.1 (y1.2.2.2.2++[(y1.2.2.1,y1.2.2.2.1)]))∧(puN a0 a1 true (wI (y1.2.1+(1:Int))) y1.2.2.1 y1.2.2.2.1 (y1.2.2.2.2++[(y1.2.2.1,y1.2.2.2.1)]))<(puN a0 a1 y1.1 y1.2.1 y1.2.2.1 y1.2.2.2.1 y1.2.2.2.2))))))) (0≤y1.2.1∧(y1.2.1<(ln a0)∧(caseB (((List.getD a0 (tN y1.2.1) (0,0)).1)!=y1.2.2.1) (0≤y1.2.1∧(y1.2.1<(ln a0)∧(List.length y1.2.2.2.2+List.length [((List.getD a0 (tN y1.2.1) (0,0)).1,(List.getD a0 (tN y1.2.1) (0,0)).2)]≤9223372036854775807∧((List.length y1.2.2.2.2+List.length [((List.getD a0 (tN y1.2.1) (0,0)).1,(List.getD a0 (tN y1.2.1) (0,0)).2)])*16≤140737488355328∧(eS [(0,.val false [.lst T0q a0 none]),(3,.box 4 0)] [(0,.val false [.lst T0q a0 none]),(3,.box 4 0)]∧(puB a0 a1 y1.1 (wI (y1.2.1+(1:Int))) y1.2.2.1 y1.2.2.2.1 (y1.2.2.2.2++[((List.getD a0 (tN y1.2.1) (0,0)).1,(List.getD a0 (tN y1.2.1) (0,0)).2)]))∧(puN a0 a1 y1.1 (wI (y1.2.1+(1:Int))) y1.2.2.1 y1.2.2.2.1 (y1.2.2.2.2++[((List.getD a0 (tN y1.2.1) (0,0)).1,(List.getD a0 (tN y1.2.1) (0,0)).2)]))<(puN a0 a1 y1.1 y1.2.1 y1.2.2.1 y1.2.2.2.1 y1.2.2.2.2)))))) (eS [(0,.val false [.lst T0q a0 none]),(3,.box 4 0)] [(0,.val false [.lst T0q a0 none]),(3,.box 4 0)]∧(puB a0 a1 y1.1 (wI (y1.2.1+(1:Int))) y1.2.2.1 y1.2.2.2.1 y1.2.2.2.2)∧(puN a0 a1 y1.1 (wI (y1.2.1+(1:Int))) y1.2.2.1 y1.2.2.2.1 y1.2.2.2.2)<(puN a0 a1 y1.1 y1.2.1 y1.2.2.1 y1.2.2.2.1 y1.2.2.2.2)))))))) (0≤y1.2.1∧(y1.2.1<(ln a0)∧(caseB (((List.getD a0 (tN y1.2.1) (0,0)).1)!=y1.2.2.1) (0≤y1.2.1∧(y1.2.1<(ln a0)∧(List.length y1.2.2.2.2+List.length [((List.getD a0 (tN y1.2.1) (0,0)).1,(List.getD a0 (tN y1.2.1) (0,0)).2)]≤9223372036854775807∧((List.length y1.2.2.2.2+List.length [((List.getD a0 (tN y1.2.1) (0,0)).1,(List.getD a0 (tN y1.2.1) (0,0)).2)])*16≤140737488355328∧(eS [(0,.val false [.lst T0q a0 none]),(3,.box 4 0)] [(0,.val false [.lst T0q a0 none]),(3,.box 4 0)]∧(puB a0 a1 y1.1 (wI (y1.2.1+(1:Int))) y1.2.2.1 y1.2.2.2.1 (y1.2.2.2.2++[((List.getD a0 (tN y1.2.1) (0,0)).1,(List.getD a0 (tN y1.2.1) (0,0)).2)]))∧(puN a0 a1 y1.1 (wI (y1.2.1+(1:Int))) y1.2.2.1 y1.2.2.2.1 (y1.2.2.2.2++[((List.getD a0 (tN y1.2.1) (0,0)).1,(List.getD a0 (tN y1.2.1) (0,0)).2)]))<(puN a0 a1 y1.1 y1.2.1 y1.2.2.1 y1.2.2.2.1 y1.2.2.2.2)))))) (eS [(0,.val false [.lst T0q a0 none]),(3,.box 4 0)] [(0,.val false [.lst T0q a0 none]),(3,.box 4 0)]∧(puB a0 a1 y1.1 (wI (y1.2.1+(1:Int))) y1.2.2.1 y1.2.2.2.1 y1.2.2.2.2)∧(puN a0 a1 y1.1 (wI (y1.2.1+(1:Int))) y1.2.2.1 y1.2.2.2.1 y1.2.2.2.2)<(puN a0 a1 y1.1 y1.2.1 y1.2.2.1 y1.2.2.2.1 y1.2.2.2.2)))))) (caseB (!y1.1) (List.length y1.2.2.2.2+List.length [(y1.2.2.1,y1.2.2.2.1)]≤9223372036854775807∧((List.length y1.2.2.2.2+List.length [(y1.2.2.1,y1.2.2.2.1)])*16≤140737488355328∧(Eq ((y1.2.2.2.2++[(y1.2.2.1,y1.2.2.2.1)]),((),())) ((fPut8 a0 a1),((),()))))) (Eq (y1.2.2.2.2,((),())) ((fPut8 a0 a1),((),())))))))
def spec_l8Put.L (a0:U7q) (a1:(Int×Int)):Nat→Option LoopAnn:=fun p=>Go.Proofs.YtnoapekdbmpiaaaGreat.Bv.look p [(122,{kp:={hold:=[0,3],slots:=[5,6,7],boxes:=[4],rows:=[{bx:=false,s:=5,i:=0,k:=1000643,e:=74,hot:=true}]},T:=(.pair .bool (.pair (.int .i64) (.pair (.int .i64) T19q))),I:=fun st y=>puB a0 a1 y.1 y.2.1 y.2.2.1 y.2.2.2.1 y.2.2.2.2,μ:=fun st y=>puN a0 a1 y.1 y.2.1 y.2.2.1 y.2.2.2.1 y.2.2.2.2})]
theorem spec_l8Put.pure (a0:U7q) (a1:(Int×Int)) (h:(pPut8 a0 a1)) (hw:Wf c_spec_l8Put.A (a0,a1)):spec_l8Put.F a0 a1:=by
 delta spec_l8Put.F ln tN wI eS
 simp only [forall_eq,true_and,and_true,caseB_iff,Prod.mk.injEq,decide_eq_true_eq,decide_eq_false_iff_not,Bool.not_eq_true',Bool.not_eq_false',bne_iff_ne,ne_eq,beq_iff_eq,Bool.not_true,Bool.not_false,beq_eq_false_iff_ne,bne_eq_false_iff_eq,List.length_append,List.length_cons,List.length_nil,List.append_nil,Nat.zero_add,decide_true,decide_false,eq_self_iff_true]
 have hl:a0.length≤1000000000000:=h
 refine⟨⟨rfl,⟨by omega,by omega,by simp [rest8],by simp,by simp⟩⟩,?_⟩
 rintro⟨put,i,t,v,out⟩ ⟨hp,hI⟩
 simp only at hp hI ⊢
 subst hp
 have q1:=hI.h1
 have q2:=hI.h2
 have q4:=hI.h4
 have q5:=hI.h5
 have hen:=pu_end hI
 have st:∀{put' o'},i<(a0.length:Int)→_→_→puB a0 (t,v) put' (i+1) t v o':=fun h h2 h3=>⟨rfl,pu_step hI h h2 h3⟩
 have dn:∀o p,i<(a0.length:Int)→puN a0 (t,v) p (i+1) t v o<puN a0 (t,v) put i t v out:=fun o p h=>by unfold puN puM;omega
 generalize hx:a0.getD i.toNat (0,0)=x at st ⊢
 repeat' (with_reducible (first | (refine And.intro ?_ ?_) | intro _))
 all_goals (try simp (disch:=omega) only [w64,List.length_append,List.length_cons,List.length_nil] at*)
 all_goals (first
  | omega
  | exact dn _ _ ‹_›
  | (refine st ‹_› (by (try simp only [List.length_append,List.length_cons,List.length_nil]);(try have:=q5 ‹_›);(first | omega | (refine ⟨by omega,fun hh=>?_⟩;first | omega | (have:=q5 hh;omega) | (exfalso;simp_all;done)))) fun r=>?_;(try rw [‹put=true›]);(try rw [‹put=false›]);(try simp only [List.append_assoc,List.cons_append,List.nil_append,Prod.eta]);first | rw [pu_yes (p:=(t,v)) ‹t≤x.1›,pu_eq (p:=(t,v)) ‹x.1=t›] | rw [pu_yes (p:=(t,v)) ‹t≤x.1›,pu_ne (p:=(t,v)) ‹¬x.1=t›] | rw [pu_no (p:=(t,v)) ‹¬t≤x.1›] | rw [pu_eq (p:=(t,v)) ‹x.1=t›] | rw [pu_ne (p:=(t,v)) ‹¬x.1=t›])
  | exact (hen ‹_›).1 ‹_›
  | exact (hen ‹_›).2 ‹_›
  | skip)
set_option maxRecDepth 100000 in
theorem spec_l8Put.eq:EqS c_spec_l8Put Tryz.f169 [27] [] [] (fun i x=>spec_l8Put.L x.1 x.2) (fun i x=>spec_l8Put.F x.1 x.2):=by intro i x;kernel_rfl
theorem spec_l8Put.ok:ConOk Tryz.prog 169 c_spec_l8Put:=okOf spec_l8Put.eq Tryz.func169 rfl (by kernel_rfl) fun i x h hi hw=>spec_l8Put.pure x.1 x.2 h hw
def spec_l8Put.e:GE:=⟨169,c_spec_l8Put,⟨_,Tryz.func169,rfl,rfl⟩,spec_l8Put.ok⟩
def c_spec_l8Merge:Con:={A:=(.pair T16q T16q),shA:=[.one,.one],R:=T16q,shR:=[(false,1)],fresh:=[(0,74)],pre:=fun _ a=>(pMrg8 a.1 a.2),f:=some fun _ a=>((fMrg8 a.1 a.2),((),()))}
def spec_l8Merge.F (a0:U7q) (a1:U7q):Prop:=(List.length ([]:List (Int×Int))+List.length a0≤9223372036854775807∧((List.length ([]:List (Int×Int))+List.length a0)*16≤140737488355328∧(eS [(1,.val false [.lst T0q a1 none])] [(1,.val false [.lst T0q a1 none])]∧((m8I a0 a1 0 (([]:List (Int×Int))++a0))∧∀(y1:(Int×U7q)),(m8I a0 a1 y1.1 y1.2)→(caseB (decide (y1.1<(ln a1))) (0≤y1.1∧(y1.1<(ln a1)∧((pPut8 y1.2 ((List.getD a1 (tN y1.1) (0,0)).1,(List.getD a1 (tN y1.1) (0,0)).2))∧∀r2,(Eq r2 ((fPut8 y1.2 ((List.getD a1 (tN y1.1) (0,0)).1,(List.getD a1 (tN y1.1) (0,0)).2)),((),())))→(eS [(1,.val false [.lst T0q a1 none])] [(1,.val false [.lst T0q a1 none])]∧(m8I a0 a1 (wI (y1.1+(1:Int))) r2.1)∧(m8M a0 a1 (wI (y1.1+(1:Int))) r2.1)<(m8M a0 a1 y1.1 y1.2))))) (Eq (y1.2,((),())) ((fMrg8 a0 a1),((),()))))))))
def spec_l8Merge.L (a0:U7q) (a1:U7q):Nat→Option LoopAnn:=fun p=>Go.Proofs.YtnoapekdbmpiaaaGreat.Bv.look p [(58,{kp:={hold:=[1],slots:=[5,6],boxes:=[],rows:=[{bx:=false,s:=5,i:=0,k:=1000643,e:=74,hot:=true}]},T:=T19q,I:=fun st y=>m8I a0 a1 y.1 y.2,μ:=fun st y=>m8M a0 a1 y.1 y.2})]
theorem spec_l8Merge.pure (a0:U7q) (a1:U7q) (h:(pMrg8 a0 a1)) (hw:Wf c_spec_l8Merge.A (a0,a1)):spec_l8Merge.F a0 a1:=by
 delta spec_l8Merge.F ln tN wI eS
 simp only [forall_eq,true_and,and_true,caseB_iff,Prod.mk.injEq,decide_eq_true_eq,decide_eq_false_iff_not,Bool.not_eq_true',Bool.not_eq_false',bne_iff_ne,ne_eq,beq_iff_eq,Bool.not_true,Bool.not_false,beq_eq_false_iff_ne,bne_eq_false_iff_eq,List.length_append,List.length_cons,List.length_nil,List.append_nil,Nat.zero_add,decide_true,decide_false,eq_self_iff_true,fPut8,pPut8]
 obtain⟨hal,hbl⟩:=h
 refine⟨by omega,by omega,⟨by omega,by omega,rfl,by simp⟩,?_⟩
 rintro⟨i,out⟩ hI
 simp only at hI ⊢
 have q1:=hI.h1
 have q2:=hI.h2
 have q4:=hI.h4
 rw [w64 (x:=i+1) (by omega) (by omega)]
 exact⟨fun hi=>⟨q1,hi,by omega,m8_step hI hi,by unfold m8M;omega⟩,fun hi=>m8_end hI hi⟩
set_option maxRecDepth 100000 in
theorem spec_l8Merge.eq:EqS c_spec_l8Merge Tryz.f125 [27] [spec_l8Put.e] [] (fun i x=>spec_l8Merge.L x.1 x.2) (fun i x=>spec_l8Merge.F x.1 x.2):=by intro i x;kernel_rfl
theorem spec_l8Merge.ok:ConOk Tryz.prog 125 c_spec_l8Merge:=okOf spec_l8Merge.eq Tryz.func125 rfl (by kernel_rfl) fun i x h hi hw=>spec_l8Merge.pure x.1 x.2 h hw
def spec_l8Merge.e:GE:=⟨125,c_spec_l8Merge,⟨_,Tryz.func125,rfl,rfl⟩,spec_l8Merge.ok⟩
end Go.Proofs.YtnoapekdbmpiaaaGreat.B
