/- A code that follows from another. -/
import Derived.Test.YtnoapekdbmpiaaaCSame
namespace Go.Proofs.Ytnoapekdbmpiaaa.B
set_option linter.unusedVariables false
set_option linter.unusedSimpArgs false
open Go Go.Proofs.Ytnoapekdbmpiaaa.Bv
def qFresh (code:List Int) (salt:Int) (y:List Int×(Unit×Unit)):Prop:=y.1.length≤601
def frI (code:List Int) (salt i:Int) (out:List Int):Prop:=0≤i∧i≤600∧out.length=i+1
def frM (code:List Int) (salt i:Int) (out:List Int):Nat:=(600 - i).toNat
def c_laws_fresh:Con:={I:=.unit,B:=.unit,A:=(.pair (.list (.int .u8)) (.int .i64)),shA:=[.one,.one],R:=(.list (.int .u8)),shR:=[(false,1)],pre:=fun _ _=>True,post:=fun _ a y=>(qFresh a.1 a.2 y)}
def laws_fresh.F (a0:(List Int)) (a1:Int):Prop:=(eS [(0,.val false [.lst (.int .u8) a0 none]),(1,.val false [.int .i64 a1])] [(0,.val false [.lst (.int .u8) a0 none]),(1,.val false [.int .i64 a1])]∧((frI a0 a1 0 [(IntKind.wrap .u8 a1)])∧∀(y1:(Int×(List Int))),(frI a0 a1 y1.1 y1.2)→(caseB (decide (y1.1<(ln a0))) (caseB (decide (y1.1<(600:Int))) (0≤y1.1∧(y1.1<(ln a0)∧((7:Int)≠0∧(List.length y1.2+List.length [(IntKind.wrap .u8 (wI ((wI ((wI (List.getD a0 (tN y1.1) 0))*(3:Int)))+(wI (a1*(wI ((Int.tmod y1.1 (7:Int))+(1:Int))))))))]≤9223372036854775807∧((List.length y1.2+List.length [(IntKind.wrap .u8 (wI ((wI ((wI (List.getD a0 (tN y1.1) 0))*(3:Int)))+(wI (a1*(wI ((Int.tmod y1.1 (7:Int))+(1:Int))))))))])*1≤140737488355328∧(eS [(0,.val false [.lst (.int .u8) a0 none]),(1,.val false [.int .i64 a1])] [(0,.val false [.lst (.int .u8) a0 none]),(1,.val false [.int .i64 a1])]∧(frI a0 a1 (wI (y1.1+(1:Int))) (y1.2++[(IntKind.wrap .u8 (wI ((wI ((wI (List.getD a0 (tN y1.1) 0))*(3:Int)))+(wI (a1*(wI ((Int.tmod y1.1 (7:Int))+(1:Int))))))))]))∧(frM a0 a1 (wI (y1.1+(1:Int))) (y1.2++[(IntKind.wrap .u8 (wI ((wI ((wI (List.getD a0 (tN y1.1) 0))*(3:Int)))+(wI (a1*(wI ((Int.tmod y1.1 (7:Int))+(1:Int))))))))]))<(frM a0 a1 y1.1 y1.2))))))) (qFresh a0 a1 (y1.2,((),())))) (qFresh a0 a1 (y1.2,((),()))))))
def laws_fresh.L (a0:(List Int)) (a1:Int):Nat→Option LoopAnn:=fun p=>Go.Proofs.Ytnoapekdbmpiaaa.Bv.look p [(58,{kp:={hold:=[0,1],slots:=[5,6],boxes:=[],rows:=[{bx:=false,s:=5,i:=0,k:=1000643,e:=5,hot:=true}]},T:=(.pair (.int .i64) (.list (.int .u8))),I:=fun st y=>frI a0 a1 y.1 y.2,μ:=fun st y=>frM a0 a1 y.1 y.2})]
theorem laws_fresh.pure (a0:(List Int)) (a1:Int) (h:True) (hw:Wf c_laws_fresh.A (a0,a1)):laws_fresh.F a0 a1:=by
 delta laws_fresh.F ln tN wI eS
 have hl:a0.length≤9223372036854775807:=hw.1.1
 simp only [forall_eq,true_and,and_true,caseB_iff,Prod.mk.injEq,decide_eq_true_eq,decide_eq_false_iff_not,Bool.not_eq_true',Bool.not_eq_false',bne_iff_ne,ne_eq,beq_iff_eq,Bool.not_true,Bool.not_false,beq_eq_false_iff_ne,bne_eq_false_iff_eq,List.length_append,List.length_cons,List.length_nil,List.append_nil,Nat.zero_add,decide_true,decide_false,eq_self_iff_true,frI,frM,qFresh]
 repeat' (with_reducible (first | (refine And.intro ?_ ?_) | intro _))
 all_goals (try simp (disch:=omega) only [w64,wu8,tn0,tn1,tm1,tm2,List.length_append,List.length_cons,List.length_nil] at*)
 all_goals (try simp (disch:=omega) only [w64,wu8,tn0,tn1,tm1,tm2,List.length_append,List.length_cons,List.length_nil] at*)
 all_goals (try omega)
set_option maxRecDepth 100000 in
theorem laws_fresh.eq:EqS c_laws_fresh Try.f23 [28] [] [] (fun i x=>laws_fresh.L x.1 x.2) (fun i x=>laws_fresh.F x.1 x.2):=by intro i x;kernel_rfl
theorem laws_fresh.ok:ConOk Try.prog 23 c_laws_fresh:=okOf laws_fresh.eq Try.func23 rfl (by kernel_rfl) fun i x h hi hw=>laws_fresh.pure x.1 x.2 h hw
def laws_fresh.e:GE:=⟨23,c_laws_fresh,⟨_,Try.func23,rfl,rfl⟩,laws_fresh.ok⟩
theorem asc_inj:∀{l:List Pt},AscP l→∀{x y:Pt},x∈l→y∈l→x.1=y.1→x=y
 | [],_,_,_,h,_,_=>by cases h
 | z::l,h,x,y,hx,hy,e=>by
   obtain⟨h1,h2⟩:=List.pairwise_cons.1 h
   rcases List.mem_cons.1 hx with ex | hx'
   · rcases List.mem_cons.1 hy with ey | hy'
     · rw [ex,ey]
     · have:=h1 y hy';simp only [decide_eq_true_eq] at this;rw [ex] at e;omega
   · rcases List.mem_cons.1 hy with ey | hy'
     · have:=h1 x hx';simp only [decide_eq_true_eq] at this;rw [ey] at e;omega
     · exact asc_inj h2 hx' hy' e
theorem slice_one {l:List Pt} (h:AscP l) {p:Pt} (hp:p∈l):fSlice l p.1 (p.1+1)=[p]:=by
 refine asc_ext intOrd (fSlice_asc h _ _) (List.pairwise_singleton _ _) fun x=>?_
 rw [mem_fSlice,List.mem_singleton]
 constructor
 · rintro⟨h1,h2,h3⟩;exact asc_inj h h1 hp (by omega)
 · rintro rfl;exact⟨hp,by omega,by omega⟩
theorem slice_has {l:List Pt} {t:Int}:fSlice l t (t+1)=[]↔hasT l t=false:=by
 rw [Bool.eq_false_iff]
 constructor
 · intro h hh
   obtain⟨x,hx,e⟩:=hasT_iff.1 hh
   have:x∈fSlice l t (t+1):=mem_fSlice.2 ⟨hx,by omega,by omega⟩
   rw [h] at this;cases this
 · intro h
   refine List.eq_nil_iff_forall_not_mem.2 fun x hx=>?_
   obtain⟨h1,h2,h3⟩:=mem_fSlice.1 hx
   exact h (hasT_iff.2 ⟨x,h1,by omega⟩)
theorem ptsOk_mk {l:List Pt} (h:PtsR l) (h2:∀x∈l,-1099511627776≤x.2∧x.2≤1099511627776) (h3:l.length≤60):fPtsOk l=true:=by
 unfold fPtsOk
 rw [Bool.and_eq_true,decide_eq_true_eq]
 refine⟨h3,all_yes fun j hj=>?_⟩
 have m:=getD_mem (d:=((0,0):Pt)) hj
 have r:=h.2 _ m
 have s:=h2 _ m
 unfold ptAt fIn
 simp only [Bool.and_eq_true,Bool.or_eq_true,decide_eq_true_eq]
 refine⟨r,s,?_⟩
 by_cases e:j=0
 · exact .inl e
 · right
   have:=asc_getD (0,0) h.1 (i:=j - 1) (j:=j) (by omega) hj
   simpa [ltI] using this
theorem ptsOk_vals {l:List Pt} (h:fPtsOk l=true):∀x∈l,-1099511627776≤x.2∧x.2≤1099511627776:=fun x hx=>by
 unfold fPtsOk at h
 simp only [Bool.and_eq_true,decide_eq_true_eq,allB,List.all_eq_true,List.mem_range] at h
 obtain⟨i,hi,e⟩:=List.getElem_of_mem hx
 have:=h.2 i hi
 unfold ptAt fIn at this
 simp only [Bool.and_eq_true,decide_eq_true_eq] at this
 rw [getD_lt hi,e] at this
 exact this.2.1
theorem merge_ok {a b:List Pt} (ha:fPtsOk a=true) (hb:fPtsOk b=true) (hl:(fMerge a b).length≤60):fPtsOk (fMerge a b)=true:=by
 have ra:=(fPtsOk_R ha).1
 have rb:=(fPtsOk_R hb).1
 refine ptsOk_mk (PtsR_merge ra rb) (fun x hx=>?_) hl
 rcases (mem_fMerge rb.1).1 hx with h | ⟨h,_⟩
 · exact ptsOk_vals hb x h
 · exact ptsOk_vals ha x h
theorem merge_count {a b:List Pt} (ha:AscP a) (hb:AscP b):(fMerge a b).length=b.length+(a.filter fun x=>!hasT b x.1).length:=by
 have hL:=fMerge_asc (b:=b) ha
 have e1:(fMerge a b).filter (fun x=>hasT b x.1)=b:=by
  refine asc_ext intOrd (List.Pairwise.sublist List.filter_sublist hL) hb fun x=>?_
  rw [List.mem_filter,mem_fMerge hb,hasT_iff]
  constructor
  · rintro⟨h1 | ⟨_,h1⟩,y,hy,e⟩
    · exact h1
    · exact absurd e (h1 y hy)
  · intro h;exact⟨.inl h,x,h,rfl⟩
 have e2:(fMerge a b).filter (fun x=>!hasT b x.1)=a.filter fun x=>!hasT b x.1:=by
  refine asc_ext intOrd (List.Pairwise.sublist List.filter_sublist hL) (List.Pairwise.sublist List.filter_sublist ha) fun x=>?_
  rw [List.mem_filter,List.mem_filter,mem_fMerge hb,Bool.not_eq_true',Bool.eq_false_iff]
  constructor
  · rintro⟨h1 | ⟨h1,_⟩,h2⟩
    · exact absurd (hasT_iff.2 ⟨x,h1,rfl⟩) h2
    · exact⟨h1,h2⟩
  · rintro⟨h1,h2⟩
    exact⟨.inr ⟨h1,fun y hy e=>h2 (hasT_iff.2 ⟨y,hy,e⟩)⟩,h2⟩
 have h:=List.length_eq_countP_add_countP (fun x:Pt=>hasT b x.1) (l:=fMerge a b)
 rw [List.countP_eq_length_filter,List.countP_eq_length_filter,e1] at h
 have e3:(fMerge a b).filter (fun x=>decide (¬hasT b x.1=true))=a.filter fun x=>!hasT b x.1:=by
  rw [←e2];congr 1;funext x;cases hasT b x.1<;>rfl
 rw [e3] at h
 exact h
theorem merge_assoc {a b c:List Pt} (ha:AscP a) (hb:AscP b) (hc:AscP c):fMerge (fMerge a b) c=fMerge a (fMerge b c):=by
 have hbc:=fMerge_asc (b:=c) hb
 refine asc_ext intOrd (fMerge_asc (fMerge_asc ha)) (fMerge_asc ha) fun x=>?_
 rw [mem_fMerge hc,mem_fMerge hb,mem_fMerge hbc,mem_fMerge hc]
 constructor
 · rintro (h1 | ⟨h1 | ⟨h1,h2⟩,h3⟩)
   · exact .inl (.inl h1)
   · exact .inl (.inr ⟨h1,h3⟩)
   · refine .inr ⟨h1,fun y hy=>?_⟩
     rcases (mem_fMerge hc).1 hy with hy | ⟨hy,_⟩
     · exact h3 y hy
     · exact h2 y hy
 · rintro ((h1 | ⟨h1,h2⟩) | ⟨h1,h2⟩)
   · exact .inl h1
   · exact .inr ⟨.inl h1,h2⟩
   · refine .inr ⟨.inr ⟨h1,fun y hy e=>?_⟩,fun y hy=>h2 y ((mem_fMerge hc).2 (.inl hy))⟩
     by_cases hz:∀z∈c,z.1≠y.1
     · exact h2 y ((mem_fMerge hc).2 (.inr ⟨hy,hz⟩)) e
     · simp only [ne_eq,Classical.not_forall,Classical.not_not] at hz
       obtain⟨z,hz1,hz2⟩:=hz
       exact h2 z ((mem_fMerge hc).2 (.inl hz1)) (hz2.trans e)
theorem merge_self {a:List Pt} (ha:AscP a):fMerge a a=a:=asc_ext intOrd (fMerge_asc ha) ha fun x=>by
 rw [mem_fMerge ha]
 exact⟨fun h=>h.elim id fun h=>h.1,.inl⟩
theorem mergeT_yes {a b:List Pt} (h:(fMergeT a b).2=true):fPtsOk a=true∧fPtsOk b=true∧(fMerge a b).length≤60∧fMergeT a b=(fMerge a b,true):=by
 unfold fMergeT at h ⊢
 split at h
 · rename_i hc;rw [if_pos hc];exact⟨hc.1,hc.2.1,hc.2.2,rfl⟩
 · cases h
theorem mergeT_no {a b:List Pt} (h:¬(fPtsOk a=true∧fPtsOk b=true)):fMergeT a b=([],false):=by
 unfold fMergeT;rw [if_neg fun hc=>h ⟨hc.1,hc.2.1⟩]
def m1I (code:List Int) (i:Int):Prop:=0≤i
def m1M (code:List Int) (i:Int):Nat:=(2000 - i).toNat
def m2I (code:List Int) (a b:List Pt) (n i:Int):Prop:=0≤i∧i≤a.length∧n=b.length+((a.take i.toNat).filter fun x=>!hasT b x.1).length
def m2M (code:List Int) (a b:List Pt) (n i:Int):Nat:=(a.length - i).toNat
theorem m2_yes {code:List Int} {a b:List Pt} {n i:Int} (h:m2I code a b n i) (hi:i<a.length) (hb:hasT b (a.getD i.toNat (0,0)).1=false):m2I code a b (n+1) (i+1):=by
 obtain⟨h1,h2,h3⟩:=h
 refine⟨by omega,by omega,?_⟩
 rw [tn1 h1,take_getD (0,0) (by omega),List.filter_append]
 generalize a.getD i.toNat (0,0)=x at hb ⊢
 simp [hb];omega
theorem m2_no {code:List Int} {a b:List Pt} {n i:Int} (h:m2I code a b n i) (hi:i<a.length) (hb:hasT b (a.getD i.toNat (0,0)).1=true):m2I code a b n (i+1):=by
 obtain⟨h1,h2,h3⟩:=h
 refine⟨by omega,by omega,?_⟩
 rw [tn1 h1,take_getD (0,0) (by omega),List.filter_append]
 generalize a.getD i.toNat (0,0)=x at hb ⊢
 simp [hb];omega
theorem m2_end {code:List Int} {a b:List Pt} {n i:Int} (ha:AscP a) (hb:AscP b) (h:m2I code a b n i) (hi:¬i<a.length):n=(fMerge a b).length:=by
 obtain⟨h1,h2,h3⟩:=h
 rw [show i.toNat=a.length by omega,List.take_length] at h3
 rw [merge_count ha hb];omega
end Go.Proofs.Ytnoapekdbmpiaaa.B
