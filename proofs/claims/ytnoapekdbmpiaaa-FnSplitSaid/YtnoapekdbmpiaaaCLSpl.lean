/- Points dealt out:what is drawn. -/
import Derived.Test.YtnoapekdbmpiaaaCFresh
import Derived.Test.YtnoapekdbmpiaaaCSplit
namespace Go.Proofs.Ytnoapekdbmpiaaa.B
set_option linter.unusedVariables false
set_option linter.unusedSimpArgs false
open Go Go.Proofs.Ytnoapekdbmpiaaa.Bv
structure SpInv (out:List Part) (r:List Pt):Prop where
 fl:out.flatMap (fun x:Part=>x.2)=r
 ne:∀x∈out,x.2≠[]∧∀p∈x.2,p.1 / 100=x.1
 up:out.Pairwise fun x y=>x.1<y.1
theorem getD_lastP (o:List Part) (x d:Part):(o++[x]).getD ((o++[x]).length - 1) d=x:=by
 rw [List.length_append,List.length_cons,List.length_nil,Nat.zero_add,Nat.add_sub_cancel];exact getD_last o x d
theorem set_lastP (o:List Part) (x y:Part):(o++[x]).set ((o++[x]).length - 1) y=o++[y]:=by
 rw [List.length_append,List.length_cons,List.length_nil,Nat.zero_add,Nat.add_sub_cancel];exact set_last o x y
theorem sp_inv {out:List Part} {r:List Pt} {p:Pt} (h:SpInv out r) (ha:AscP (r++[p])):SpInv (spAdd out p) (r++[p]):=by
 obtain⟨h1,h2,h3⟩:=h
 rcases List.eq_nil_or_concat out with e | ⟨o,x,e⟩
 · subst e
   have e1:spAdd [] p=[(p.1 / 100,[p])]:=rfl
   have e2:r=[]:=by rw [←h1];rfl
   subst e2
   rw [e1]
   exact⟨rfl,fun x hx=>by rw [List.mem_singleton.1 hx];exact⟨by simp,fun q hq=>by rw [List.mem_singleton.1 hq]⟩,List.pairwise_singleton _ _⟩
 · rw [List.concat_eq_append] at e
   subst e
   have hx:=h2 x (by simp)
   have hle:x.1≤p.1 / 100:=by
    obtain⟨y,hy⟩:=List.exists_mem_of_ne_nil _ hx.1
    have hyr:y∈r:=by rw [←h1];exact List.mem_flatMap.2 ⟨x,by simp,hy⟩
    have:=(List.pairwise_append.1 ha).2.2 y hyr p (by simp)
    simp only [decide_eq_true_eq] at this
    have:=hx.2 y hy
    omega
   unfold spAdd
   rw [getD_lastP]
   by_cases hc:x.1=p.1 / 100
   · rw [if_pos ⟨by simp,hc⟩,set_lastP]
     refine⟨?_,fun z hz=>?_,?_⟩
     · rw [←h1];simp
     · rcases List.mem_append.1 hz with hz | hz
       · exact h2 z (by simp [hz])
       · rw [List.mem_singleton.1 hz]
         refine⟨by simp,fun q hq=>?_⟩
         rcases List.mem_append.1 hq with hq | hq
         · exact hx.2 q hq
         · rw [List.mem_singleton.1 hq];exact hc.symm
     · obtain⟨a1,a2,a3⟩:=List.pairwise_append.1 h3
       exact List.pairwise_append.2 ⟨a1,List.pairwise_singleton _ _,fun z hz y hy=>by rw [List.mem_singleton.1 hy];exact a3 z hz x (by simp)⟩
   · rw [if_neg fun h=>hc h.2]
     refine⟨by rw [List.flatMap_append,h1];rfl,fun z hz=>?_,?_⟩
     · rcases List.mem_append.1 hz with hz | hz
       · exact h2 z hz
       · rw [List.mem_singleton.1 hz];exact⟨by simp,fun q hq=>by rw [List.mem_singleton.1 hq]⟩
     · refine List.pairwise_append.2 ⟨h3,List.pairwise_singleton _ _,fun z hz y hy=>?_⟩
       rw [List.mem_singleton.1 hy]
       rcases List.mem_append.1 hz with hz | hz
       · have:=(List.pairwise_append.1 h3).2.2 z hz x (by simp)
         show z.1<p.1 / 100;omega
       · rw [List.mem_singleton.1 hz];show x.1<p.1 / 100;omega
theorem sp_fold:∀(l r:List Pt) (out:List Part),SpInv out r→AscP (r++l)→SpInv (l.foldl spAdd out) (r++l)
 | [],r,out,h,_=>by rw [List.append_nil];exact h
 | p::l,r,out,h,ha=>by
   have e:r++p::l=(r++[p])++l:=by simp
   rw [e] at ha ⊢
   rw [List.foldl_cons]
   exact sp_fold l (r++[p]) _ (sp_inv h (List.pairwise_append.1 ha).1) ha
theorem split_ok {l:List Pt} (h:fPtsOk l=true):SpInv (fSplit l) l:=by
 unfold fSplit
 rw [if_pos h]
 have:=sp_fold l [] [] ⟨rfl,fun x hx=>(by cases hx),List.Pairwise.nil⟩ (fPtsOk_R h).1.1
 simpa using this
theorem up_at {out:List Part} {r:List Pt} (h:SpInv out r) {i:Nat} (h0:0<i) (hi:i<out.length):(out.getD (i - 1) (0,[])).1<(out.getD i (0,[])).1:=by
 have:=List.pairwise_iff_getElem.1 h.up (i - 1) i (by omega) hi (by omega)
 rw [getD_lt (by omega),getD_lt hi];exact this
theorem fl_len {out:List Part} {r:List Pt} (h:SpInv out r) {i:Nat} (hi:i<out.length):((out.take i).flatMap (fun x:Part=>x.2)).length+(out.getD i (0,[])).2.length≤r.length:=by
 rw [←h.fl]
 have e:out=out.take i++out.getD i (0,[])::out.drop (i+1):=by rw [←drop_getD (0,[]) hi,List.take_append_drop]
 conv=>rhs;rw [e]
 rw [List.flatMap_append,List.length_append,List.flatMap_cons,List.length_append];omega
def p1I (code:List Int) (parts:List Part) (i:Int) (all:List Pt):Prop:=0≤i∧i≤parts.length∧all=(parts.take i.toNat).flatMap fun x:Part=>x.2
def p1M (code:List Int) (parts:List Part) (i:Int) (all:List Pt):Nat:=(parts.length - i).toNat
def p2I (code:List Int) (parts:List Part) (i k:Int) (all:List Pt):Prop:=0≤k∧all=(parts.take i.toNat).flatMap fun x:Part=>x.2
def p2M (code:List Int) (parts:List Part) (i k:Int) (all:List Pt):Nat:=((parts.getD i.toNat (0,[])).2.length - k).toNat
def p3I (code:List Int) (i:Int):Prop:=0≤i
def p3M (code:List Int) (i:Int):Nat:=(1000 - i).toNat
theorem upFrom_at {a:Int} {n i:Nat} (h:i<n):(upFrom a n).getD i 0=a+i:=by
 unfold upFrom
 rw [getD_lt (by simpa using h)]
 simp
theorem cover_parts (a b:Int):fCover a b=[]∨(0≤a∧a<b∧b≤1099511627776∧(b - 1) / 100 - a / 100<8∧fCover a b=upFrom (a / 100) ((b - 1) / 100 - a / 100+1).toNat):=by
 unfold fCover
 split
 · exact .inl rfl
 · exact .inr ⟨by omega,by omega,by omega,by omega,rfl⟩
theorem part_len:∀{out:List Part},(∀x∈out,x.2≠[])→out.length≤(out.flatMap (fun x:Part=>x.2)).length
 | [],_=>by simp
 | x::o,h=>by
   have h1:=part_len (out:=o) fun y hy=>h y (by simp [hy])
   have h2:0<x.2.length:=List.length_pos_iff.2 (h x (by simp))
   rw [List.flatMap_cons,List.length_append,List.length_cons];omega
theorem split_len {out:List Part} {r:List Pt} (h:SpInv out r):out.length≤r.length:=by
 have:=part_len fun x hx=>(h.ne x hx).1
 rw [h.fl] at this;exact this
def qDCover (code:List Int) (y:(Int×Int)×(Unit×Unit)):Prop:=-1000≤y.1.1∧y.1.1≤1099511628000∧-2000≤y.1.2∧y.1.2≤1099511640000
def c_spec_DrawCover:Con:={I:=.unit,B:=.unit,A:=(.list (.int .u8)),shA:=[.one],R:=(.pair (.int .i64) (.int .i64)),shR:=[(false,1),(false,1)],pre:=fun _ _=>True,post:=fun _ a y=>(qDCover a y)}
def spec_DrawCover.F (a0:(List Int)):Prop:=(True∧∀r1,(qNew a0 r1)→((pBelow (r1.1.1,(r1.1.2.1,r1.1.2.2)) 500)∧∀r2,(qBelow (r1.1.1,(r1.1.2.1,r1.1.2.2)) 500 r2)→((pBelow (r2.2.1.1,(r2.2.1.2.1,r2.2.1.2.2)) 1000)∧∀r3,(qBelow (r2.2.1.1,(r2.2.1.2.1,r2.2.1.2.2)) 1000 r3)→((pBelow (r3.2.1.1,(r3.2.1.2.1,r3.2.1.2.2)) 8)∧∀r4,(qOnce (r3.2.1.1,(r3.2.1.2.1,r3.2.1.2.2)) 8 r4)→(caseB r4.1 ((pBelow (r4.2.1.1,(r4.2.1.2.1,r4.2.1.2.2)) 300)∧∀r5,(qBelow (r4.2.1.1,(r4.2.1.2.1,r4.2.1.2.2)) 300 r5)→((pBelow (r5.2.1.1,(r5.2.1.2.1,r5.2.1.2.2)) 3)∧∀r6,(qBelow (r5.2.1.1,(r5.2.1.2.1,r5.2.1.2.2)) 3 r6)→((pBelow (r6.2.1.1,(r6.2.1.2.1,r6.2.1.2.2)) 10)∧∀r7,(qOnce (r6.2.1.1,(r6.2.1.2.1,r6.2.1.2.2)) 10 r7)→(caseB r7.1 ((pPickI (r7.2.1.1,(r7.2.1.2.1,r7.2.1.2.2)) [800,801,700])∧∀r8,(qPickI (r7.2.1.1,(r7.2.1.2.1,r7.2.1.2.2)) [800,801,700] r8)→(qDCover a0 (((wI ((1099511627776:Int) - r5.1)),(wI ((wI ((1099511627776:Int) - r5.1))+r8.1))),((),())))) (qDCover a0 (((wI ((1099511627776:Int) - r5.1)),(wI ((wI ((1099511627776:Int)+r6.1)) - (1:Int)))),((),()))))))) ((pBelow (r4.2.1.1,(r4.2.1.2.1,r4.2.1.2.2)) 10)∧∀r9,(qOnce (r4.2.1.1,(r4.2.1.2.1,r4.2.1.2.2)) 10 r9)→(caseB r9.1 ((pPickI (r9.2.1.1,(r9.2.1.2.1,r9.2.1.2.2)) [800,801,700])∧∀r10,(qPickI (r9.2.1.1,(r9.2.1.2.1,r9.2.1.2.2)) [800,801,700] r10)→(qDCover a0 (((wI (r2.1 - (2:Int))),(wI ((wI (r2.1 - (2:Int)))+r10.1))),((),())))) (qDCover a0 (((wI (r2.1 - (2:Int))),(wI ((wI ((wI (r2.1 - (2:Int)))+r3.1)) - (5:Int)))),((),()))))))))))
theorem spec_DrawCover.pure (a0:(List Int)) (h:True) (hw:Wf c_spec_DrawCover.A a0):spec_DrawCover.F a0:=by
 delta spec_DrawCover.F wI
 simp only [forall_eq,true_and,and_true,caseB_iff,Prod.mk.injEq,decide_eq_true_eq,decide_eq_false_iff_not,Bool.not_eq_true',Bool.not_eq_false',bne_iff_ne,ne_eq,beq_iff_eq,Bool.not_true,Bool.not_false,beq_eq_false_iff_ne,bne_eq_false_iff_eq,List.length_append,List.length_cons,List.length_nil,List.append_nil,Nat.zero_add,decide_true,decide_false,eq_self_iff_true,qBelow,qOnce,qPickI,pBelow,pPickI,CurI,qNew,qSize,qDCover,List.mem_cons,List.not_mem_nil,or_false]
 repeat' (with_reducible (first | (refine And.intro ?_ ?_) | intro _))
 all_goals (try simp (disch:=omega) only [w64,wu8,tn0,tn1,tm1,tm2,List.length_append,List.length_cons,List.length_nil] at*)
 all_goals (try simp (disch:=omega) only [w64,wu8,tn0,tn1,tm1,tm2,List.length_append,List.length_cons,List.length_nil] at*)
 all_goals (try omega)
set_option maxRecDepth 100000 in
theorem spec_DrawCover.eq:EqS c_spec_DrawCover Try.f28 [3,3] [spec_l1New.e,spec_l1Below.e,spec_l1Once.e,spec_l1PickInt.e] [] noL (fun i x=>spec_DrawCover.F x):=by intro i x;kernel_rfl
theorem spec_DrawCover.ok:ConOk Try.prog 28 c_spec_DrawCover:=okOf spec_DrawCover.eq Try.func28 rfl (by kernel_rfl) fun i x h hi hw=>spec_DrawCover.pure x h hw
def spec_DrawCover.e:GE:=⟨28,c_spec_DrawCover,⟨_,Try.func28,rfl,rfl⟩,spec_DrawCover.ok⟩
def c_impl_BucketOf:Con:={A:=(.int .i64),shA:=[.one],R:=(.int .i64),shR:=[(false,1)],pre:=fun _ _=>True,f:=some fun _ a=>((fBucket a),((),()))}
def impl_BucketOf.F (a0:Int):Prop:=(True∧∀r1,(Eq r1 ((fIn a0 0 1099511627776),((),())))→(caseB (!r1.1) (Eq ((-1),((),())) ((fBucket a0),((),()))) ((100:Int)≠0∧(Eq ((wI (Int.tdiv a0 (100:Int))),((),())) ((fBucket a0),((),()))))))
theorem impl_BucketOf.pure (a0:Int) (h:True) (hw:Wf c_impl_BucketOf.A a0):impl_BucketOf.F a0:=by
 unfold impl_BucketOf.F fBucket
 simp only [forall_eq,true_and,and_true,caseB_iff,Prod.mk.injEq,Bool.not_eq_true',Bool.not_eq_false']
 refine⟨fun h1=>by simp [h1],fun h1=>⟨by omega,?_⟩⟩
 have h2:=h1
 simp only [fIn,Bool.and_eq_true,decide_eq_true_eq] at h2
 rw [if_pos h1,Int.tdiv_eq_ediv_of_nonneg h2.1]
 exact Go.IntWalk.i64_in _ (by omega)
set_option maxRecDepth 100000 in
theorem impl_BucketOf.eq:EqS c_impl_BucketOf Try.f27 [3] [impl_from.e] [] noL (fun i x=>impl_BucketOf.F x):=by intro i x;kernel_rfl
theorem impl_BucketOf.ok:ConOk Try.prog 27 c_impl_BucketOf:=okOf impl_BucketOf.eq Try.func27 rfl (by kernel_rfl) fun i x h hi hw=>impl_BucketOf.pure x h hw
def impl_BucketOf.e:GE:=⟨27,c_impl_BucketOf,⟨_,Try.func27,rfl,rfl⟩,impl_BucketOf.ok⟩
end Go.Proofs.Ytnoapekdbmpiaaa.B
