/- States:right or not. -/
import Derived.Test.YtnoapekdbmpiaaaGreatCEngE
import Derived.Test.YtnoapekdbmpiaaaGreatCTypes
set_option linter.unusedVariables false
set_option linter.unusedSimpArgs false
namespace Go.Proofs.YtnoapekdbmpiaaaGreat.B
open Go Go.Proofs.YtnoapekdbmpiaaaGreat.Bv
abbrev Ans:=U13q
abbrev Sess:=U8q
abbrev Bkt:=Int×Int
abbrev Stt:=U4q
def fAnsOk (a:Ans):Bool:=fIn a.1 0 4&&(fIn a.2.1 0 100000&&(fTime a.2.2.1&&decide (a.2.2.2.length≤900)))
def fPast (n mark:Int):Bool:=decide (IntKind.wrap .i64 (IntKind.wrap .i64 (n+1)*100)≤mark)
def ss1 (x:Sess):Bool:=fIn x.1 1 4&&(fIn x.2.1 1 1000000&&fAnsOk x.2.2)
def zSess:Sess:=(0,(0,(0,(0,(0,[])))))
def ssAt (l:List Sess) (i:Nat):Bool:=ss1 (l.getD i zSess)&&(decide (i=0)||decide ((l.getD (i - 1) zSess).1<(l.getD i zSess).1))
def fSessOk (l:List Sess):Bool:=allB (ssAt l) l.length
def sxI (l:List Sess) (i:Int):Prop:=0≤i∧i≤l.length∧∀j,j<i.toNat→ssAt l j=true
def sxM (l:List Sess) (i:Int):Nat:=(l.length - i).toNat
def bk1 (mark:Int) (b:Bkt):Bool:=fIn b.1 0 10995116277&&(!fPast b.1 mark&&fIn b.2 0 1)
def bkAt (l:List Bkt) (mark:Int) (i:Nat):Bool:=bk1 mark (l.getD i (0,0))&&(decide (i=0)||decide ((l.getD (i - 1) (0,0)).1<(l.getD i (0,0)).1))
def fBktOk (l:List Bkt) (mark:Int):Bool:=decide (l.length≤12)&&allB (bkAt l mark) l.length
def bkI (l:List Bkt) (mark i:Int):Prop:=0≤i∧i≤l.length∧∀j,j<i.toNat→bkAt l mark j=true
def bkM (l:List Bkt) (mark i:Int):Nat:=(l.length - i).toNat
def fZeroE (e:Eng):Bool:=decide (e.1=0)&&(decide (e.2.1.length=0)&&decide (e.2.2.length=0))
def fStOk (s:Stt):Bool:=fSessOk s.2.2.2.2.2&&(if s.1=1 then fIn s.2.1 0 100000&&(fTime s.2.2.1&&(fBktOk s.2.2.2.1 s.2.2.1&&fZeroE s.2.2.2.2.1)) else if s.1=2 then decide (s.2.1=0)&&(decide (s.2.2.1=0)&&(decide (s.2.2.2.1.length=0)&&fEngOk s.2.2.2.2.1)) else false)
def pSt (s:Stt):Prop:=pEng s.2.2.2.2.1∧s.2.2.2.2.1.2.1.length≤1000000000∧s.2.2.2.2.1.2.2.length≤1000000000
theorem sess_yes {l:List Sess} (h:fSessOk l=true):∀j,j<l.length→ssAt l j=true:=fun j hj=>by
 simp only [fSessOk,allB,List.all_eq_true,List.mem_range] at h;exact h j hj
theorem sess_len {l:List Sess} (h:fSessOk l=true):l.length≤4:=by
 have key:∀j,j<l.length→(j:Int)+1≤(l.getD j zSess).1∧(l.getD j zSess).1≤4:=by
  intro j
  induction j with
  | zero=>
    intro hj
    have:=sess_yes h 0 hj
    simp only [ssAt,ss1,fIn,Bool.and_eq_true,decide_eq_true_eq] at this
    omega
  | succ j ih=>
    intro hj
    have h1:=ih (by omega)
    have:=sess_yes h (j+1) hj
    simp only [ssAt,ss1,fIn,Bool.and_eq_true,Bool.or_eq_true,decide_eq_true_eq,Nat.add_sub_cancel] at this
    omega
 by_cases hc:l.length≤4
 · exact hc
 · have:=key 4 (by omega);omega
theorem bkt_end {l:List Bkt} {mark i:Int} (h:bkI l mark i) (hi:¬i<l.length):decide ((l.length:Int)≤12)=fBktOk l mark:=by
 obtain⟨h1,h2,h3⟩:=h
 unfold fBktOk
 rw [all_yes fun j hj=>h3 j (by omega),Bool.and_true]
 exact decide_eq_decide.2 (by omega)
theorem ss_end {l:List Sess} {i:Int} (h:sxI l i) (hi:¬i<l.length):true=fSessOk l:=by
 obtain⟨h1,h2,h3⟩:=h
 exact (all_yes fun j hj=>h3 j (by omega)).symm
structure SsK (l:List Sess) (i:Int) (x y:Sess):Prop where
 n1:fIn x.1 1 4=false→fSessOk l=false
 n2:fIn x.2.1 1 1000000=false→fSessOk l=false
 n3:fAnsOk x.2.2=false→fSessOk l=false
 n4:0<i→y.1≥x.1→fSessOk l=false
 ok:fIn x.1 1 4=true→fIn x.2.1 1 1000000=true→fAnsOk x.2.2=true→(¬0<i∨¬y.1≥x.1)→sxI l (i+1)
theorem ss_all {l:List Sess} {i:Int} (h:sxI l i) (hi:i<l.length):SsK l i (l.getD i.toNat zSess) (l.getD (i.toNat - 1) zSess):=by
 obtain⟨h1,h2,h3⟩:=h
 have no:ssAt l i.toNat=false→fSessOk l=false:=fun hp=>all_no (p:=ssAt l) (n:=l.length) (by omega) hp
 refine⟨fun h=>no (by unfold ssAt ss1;simp only [h,Bool.false_and,Bool.and_false]),fun h=>no (by unfold ssAt ss1;simp only [h,Bool.false_and,Bool.and_false]),fun h=>no (by unfold ssAt ss1;simp only [h,Bool.false_and,Bool.and_false]),fun h h'=>no ?_,fun c1 c2 c3 c4=>⟨by omega,by omega,all_more h1 h3 ?_⟩⟩
 · unfold ssAt
   rw [decide_eq_false (by omega:¬i.toNat=0),decide_eq_false (by omega:¬(l.getD (i.toNat - 1) zSess).1<(l.getD i.toNat zSess).1)];simp
 · unfold ssAt ss1
   rw [c1,c2,c3]
   simp only [Bool.and_true,Bool.true_and,Bool.or_eq_true,decide_eq_true_eq]
   omega
structure BkK (l:List Bkt) (mark i:Int) (x y:Bkt):Prop where
 n1:fIn x.1 0 10995116277=false→fBktOk l mark=false
 n2:fPast x.1 mark=true→fBktOk l mark=false
 n3:fIn x.2 0 1=false→fBktOk l mark=false
 n4:0<i→y.1≥x.1→fBktOk l mark=false
 ok:fIn x.1 0 10995116277=true→fPast x.1 mark=false→fIn x.2 0 1=true→(¬0<i∨¬y.1≥x.1)→bkI l mark (i+1)
theorem bk_all {l:List Bkt} {mark i:Int} (h:bkI l mark i) (hi:i<l.length):BkK l mark i (l.getD i.toNat (0,0)) (l.getD (i.toNat - 1) (0,0)):=by
 obtain⟨h1,h2,h3⟩:=h
 have no:bkAt l mark i.toNat=false→fBktOk l mark=false:=fun hp=>by
  unfold fBktOk;rw [all_no (p:=bkAt l mark) (n:=l.length) (by omega) hp,Bool.and_false]
 refine⟨fun h=>no (by unfold bkAt bk1;simp only [h,Bool.not_true,Bool.false_and,Bool.and_false]),fun h=>no (by unfold bkAt bk1;simp only [h,Bool.not_true,Bool.false_and,Bool.and_false]),fun h=>no (by unfold bkAt bk1;simp only [h,Bool.not_true,Bool.false_and,Bool.and_false]),fun h h'=>no ?_,fun c1 c2 c3 c4=>⟨by omega,by omega,all_more h1 h3 ?_⟩⟩
 · unfold bkAt
   rw [decide_eq_false (by omega:¬i.toNat=0),decide_eq_false (by omega:¬(l.getD (i.toNat - 1) (0,0)).1<(l.getD i.toNat (0,0)).1)];simp
 · unfold bkAt bk1
   rw [c1,c2,c3]
   simp only [Bool.and_true,Bool.true_and,Bool.not_false,Bool.or_eq_true,decide_eq_true_eq]
   omega
theorem bucket_max:fBucket 1099511627776=10995116277:=by decide
def stI (a:Stt) (i k h m:Int) (b:List Bkt) (f:Int) (c:List Ser) (g:List Str) (s:List Sess):Prop:=a=(k,(h,(m,(b,((f,(c,g)),s)))))∧sxI s i
def stM (a:Stt) (i k h m:Int) (b:List Bkt) (f:Int) (c:List Ser) (g:List Str) (s:List Sess):Nat:=sxM s i
def suI (a:Stt) (i k h m:Int) (b:List Bkt) (f:Int) (c:List Ser) (g:List Str) (s:List Sess):Prop:=a=(k,(h,(m,(b,((f,(c,g)),s)))))∧bkI b m i
def suM (a:Stt) (i k h m:Int) (b:List Bkt) (f:Int) (c:List Ser) (g:List Str) (s:List Sess):Nat:=bkM b m i
def c_impl_BucketOf:Con:={A:=(.int .i64),shA:=[.one],R:=(.int .i64),shR:=[(false,1)],pre:=fun _ _=>True,f:=some fun _ a=>((fBucket a),((),()))}
def impl_BucketOf.F (a0:Int):Prop:=(True∧∀r1,(Eq r1 ((fIn a0 0 1099511627776),((),())))→(caseB (!r1.1) (Eq ((-1),((),())) ((fBucket a0),((),()))) ((100:Int)≠0∧(Eq ((wI (Int.tdiv a0 (100:Int))),((),())) ((fBucket a0),((),()))))))
theorem impl_BucketOf.pure (a0:Int) (h:True) (hw:Wf c_impl_BucketOf.A a0):impl_BucketOf.F a0:=by
 unfold impl_BucketOf.F fBucket
 simp only [forall_eq,true_and,and_true,caseB_iff,Prod.mk.injEq,Bool.not_eq_true',Bool.not_eq_false']
 refine⟨fun h1=>by simp [h1],fun h1=>⟨by omega,?_⟩⟩
 have h2:=h1
 simp only [fIn,Bool.and_eq_true,decide_eq_true_eq] at h2
 rw [if_pos h1,Int.tdiv_eq_ediv_of_nonneg h2.1]
 exact Go.IntWalk.i64_in _ (by omega)
set_option maxRecDepth 100000 in
theorem impl_BucketOf.eq:EqS c_impl_BucketOf Tryz.f152 [3] [impl_from.e] [] noL (fun i x=>impl_BucketOf.F x):=by intro i x;kernel_rfl
theorem impl_BucketOf.ok:ConOk Tryz.prog 152 c_impl_BucketOf:=okOf impl_BucketOf.eq Tryz.func152 rfl (by kernel_rfl) fun i x h hi hw=>impl_BucketOf.pure x h hw
def impl_BucketOf.e:GE:=⟨152,c_impl_BucketOf,⟨_,Tryz.func152,rfl,rfl⟩,impl_BucketOf.ok⟩
def c_spec_AnswerOk:Con:={A:=T12q,shA:=[.agg 4],R:=.bool,shR:=[(false,1)],pre:=fun _ _=>True,f:=some fun _ a=>((fAnsOk a),((),()))}
def spec_AnswerOk.F (a0:U13q):Prop:=(True∧∀r1,(Eq r1 ((fIn a0.1 0 4),((),())))→(caseB r1.1 (True∧∀r2,(Eq r2 ((fIn a0.2.1 0 100000),((),())))→(caseB r2.1 (True∧∀r3,(Eq r3 ((fIn a0.2.2.1 0 1099511627776),((),())))→(caseB r3.1 (Eq ((decide ((ln a0.2.2.2)≤(900:Int))),((),())) ((fAnsOk a0),((),()))) (Eq (false,((),())) ((fAnsOk a0),((),()))))) (Eq (false,((),())) ((fAnsOk a0),((),()))))) (Eq (false,((),())) ((fAnsOk a0),((),())))))
theorem spec_AnswerOk.pure (a0:U13q) (h:True) (hw:Wf c_spec_AnswerOk.A a0):spec_AnswerOk.F a0:=by
 delta spec_AnswerOk.F ln
 simp only [forall_eq,true_and,and_true,caseB_iff,Prod.mk.injEq,decide_eq_true_eq,decide_eq_false_iff_not,Bool.not_eq_true',Bool.not_eq_false',bne_iff_ne,ne_eq,beq_iff_eq,Bool.not_true,Bool.not_false,beq_eq_false_iff_ne,bne_eq_false_iff_eq,List.length_append,List.length_cons,List.length_nil,List.append_nil,Nat.zero_add,decide_true,decide_false,eq_self_iff_true]
 unfold fAnsOk fTime
 refine⟨fun h1=>⟨fun h2=>⟨fun h3=>?_,fun h3=>?_⟩,fun h2=>?_⟩,fun h1=>?_⟩
 · try unfold fTime at h3
   rw [h1,h2,h3,Bool.true_and,Bool.true_and,Bool.true_and];exact decide_eq_decide.2 (by omega)
 · try unfold fTime at h3
   rw [h3];simp
 · rw [h2];simp
 · rw [h1];simp
set_option maxRecDepth 100000 in
theorem spec_AnswerOk.eq:EqS c_spec_AnswerOk Tryz.f92 [4] [spec_l1In.e] [] noL (fun i x=>spec_AnswerOk.F x):=by intro i x;kernel_rfl
theorem spec_AnswerOk.ok:ConOk Tryz.prog 92 c_spec_AnswerOk:=okOf spec_AnswerOk.eq Tryz.func92 rfl (by kernel_rfl) fun i x h hi hw=>spec_AnswerOk.pure x h hw
def spec_AnswerOk.e:GE:=⟨92,c_spec_AnswerOk,⟨_,Tryz.func92,rfl,rfl⟩,spec_AnswerOk.ok⟩
def c_impl_AnswerOk:Con:={A:=T12q,shA:=[.agg 4],R:=.bool,shR:=[(false,1)],pre:=fun _ _=>True,f:=some fun _ a=>((fAnsOk a),((),()))}
def impl_AnswerOk.F (a0:U13q):Prop:=(True∧∀r1,(Eq r1 ((fIn a0.1 0 4),((),())))→(caseB r1.1 (True∧∀r2,(Eq r2 ((fIn a0.2.1 0 100000),((),())))→(caseB r2.1 (True∧∀r3,(Eq r3 ((fTime a0.2.2.1),((),())))→(caseB r3.1 (Eq ((decide ((ln a0.2.2.2)≤(900:Int))),((),())) ((fAnsOk a0),((),()))) (Eq (false,((),())) ((fAnsOk a0),((),()))))) (Eq (false,((),())) ((fAnsOk a0),((),()))))) (Eq (false,((),())) ((fAnsOk a0),((),())))))
theorem impl_AnswerOk.pure (a0:U13q) (h:True) (hw:Wf c_impl_AnswerOk.A a0):impl_AnswerOk.F a0:=by
 delta impl_AnswerOk.F ln
 simp only [forall_eq,true_and,and_true,caseB_iff,Prod.mk.injEq,decide_eq_true_eq,decide_eq_false_iff_not,Bool.not_eq_true',Bool.not_eq_false',bne_iff_ne,ne_eq,beq_iff_eq,Bool.not_true,Bool.not_false,beq_eq_false_iff_ne,bne_eq_false_iff_eq,List.length_append,List.length_cons,List.length_nil,List.append_nil,Nat.zero_add,decide_true,decide_false,eq_self_iff_true]
 unfold fAnsOk fTime
 refine⟨fun h1=>⟨fun h2=>⟨fun h3=>?_,fun h3=>?_⟩,fun h2=>?_⟩,fun h1=>?_⟩
 · try unfold fTime at h3
   rw [h1,h2,h3,Bool.true_and,Bool.true_and,Bool.true_and];exact decide_eq_decide.2 (by omega)
 · try unfold fTime at h3
   rw [h3];simp
 · rw [h2];simp
 · rw [h1];simp
set_option maxRecDepth 100000 in
theorem impl_AnswerOk.eq:EqS c_impl_AnswerOk Tryz.f151 [4] [impl_from.e,impl_isTime.e] [] noL (fun i x=>impl_AnswerOk.F x):=by intro i x;kernel_rfl
theorem impl_AnswerOk.ok:ConOk Tryz.prog 151 c_impl_AnswerOk:=okOf impl_AnswerOk.eq Tryz.func151 rfl (by kernel_rfl) fun i x h hi hw=>impl_AnswerOk.pure x h hw
def impl_AnswerOk.e:GE:=⟨151,c_impl_AnswerOk,⟨_,Tryz.func151,rfl,rfl⟩,impl_AnswerOk.ok⟩
def c_spec_l12Past:Con:={A:=T0q,shA:=[.one,.one],R:=.bool,shR:=[(false,1)],pre:=fun _ _=>True,f:=some fun _ a=>((fPast a.1 a.2),((),()))}
def spec_l12Past.F (a0:Int) (a1:Int):Prop:=(Eq ((decide ((wI ((wI (a0+(1:Int)))*(100:Int)))≤a1)),((),())) ((fPast a0 a1),((),())))
theorem spec_l12Past.pure (a0:Int) (a1:Int) (h:True) (hw:Wf c_spec_l12Past.A (a0,a1)):spec_l12Past.F a0 a1:=by
 delta spec_l12Past.F wI
 simp only [forall_eq,true_and,and_true,caseB_iff,Prod.mk.injEq,decide_eq_true_eq,decide_eq_false_iff_not,Bool.not_eq_true',Bool.not_eq_false',bne_iff_ne,ne_eq,beq_iff_eq,Bool.not_true,Bool.not_false,beq_eq_false_iff_ne,bne_eq_false_iff_eq,List.length_append,List.length_cons,List.length_nil,List.append_nil,Nat.zero_add,decide_true,decide_false,eq_self_iff_true,fPast]
set_option maxRecDepth 100000 in
theorem spec_l12Past.eq:EqS c_spec_l12Past Tryz.f95 [4] [] [] noL (fun i x=>spec_l12Past.F x.1 x.2):=by intro i x;kernel_rfl
theorem spec_l12Past.ok:ConOk Tryz.prog 95 c_spec_l12Past:=okOf spec_l12Past.eq Tryz.func95 rfl (by kernel_rfl) fun i x h hi hw=>spec_l12Past.pure x.1 x.2 h hw
def spec_l12Past.e:GE:=⟨95,c_spec_l12Past,⟨_,Tryz.func95,rfl,rfl⟩,spec_l12Past.ok⟩
def c_impl_past:Con:={A:=T0q,shA:=[.one,.one],R:=.bool,shR:=[(false,1)],pre:=fun _ _=>True,f:=some fun _ a=>((fPast a.1 a.2),((),()))}
def impl_past.F (a0:Int) (a1:Int):Prop:=(Eq ((decide ((wI ((wI (a0+(1:Int)))*(100:Int)))≤a1)),((),())) ((fPast a0 a1),((),())))
theorem impl_past.pure (a0:Int) (a1:Int) (h:True) (hw:Wf c_impl_past.A (a0,a1)):impl_past.F a0 a1:=by
 delta impl_past.F wI
 simp only [forall_eq,true_and,and_true,caseB_iff,Prod.mk.injEq,decide_eq_true_eq,decide_eq_false_iff_not,Bool.not_eq_true',Bool.not_eq_false',bne_iff_ne,ne_eq,beq_iff_eq,Bool.not_true,Bool.not_false,beq_eq_false_iff_ne,bne_eq_false_iff_eq,List.length_append,List.length_cons,List.length_nil,List.append_nil,Nat.zero_add,decide_true,decide_false,eq_self_iff_true,fPast]
set_option maxRecDepth 100000 in
theorem impl_past.eq:EqS c_impl_past Tryz.f153 [4] [] [] noL (fun i x=>impl_past.F x.1 x.2):=by intro i x;kernel_rfl
theorem impl_past.ok:ConOk Tryz.prog 153 c_impl_past:=okOf impl_past.eq Tryz.func153 rfl (by kernel_rfl) fun i x h hi hw=>impl_past.pure x.1 x.2 h hw
def impl_past.e:GE:=⟨153,c_impl_past,⟨_,Tryz.func153,rfl,rfl⟩,impl_past.ok⟩
def c_impl_isClient:Con:={A:=(.int .i64),shA:=[.one],R:=.bool,shR:=[(false,1)],pre:=fun _ _=>True,f:=some fun _ a=>(((fun a=>fIn a 1 4) a),((),()))}
def impl_isClient.F (a0:Int):Prop:=(True∧∀r1,(Eq r1 ((fIn a0 1 4),((),())))→(Eq (r1.1,((),())) (((fun a=>fIn a 1 4) a0),((),()))))
theorem impl_isClient.pure (a0:Int) (h:True) (hw:Wf c_impl_isClient.A a0):impl_isClient.F a0:=by
 unfold impl_isClient.F
 simp only [forall_eq,true_and,and_true,caseB_iff,Prod.mk.injEq,decide_eq_true_eq,decide_eq_false_iff_not,Bool.not_eq_true',Bool.not_eq_false',bne_iff_ne,ne_eq,beq_iff_eq,Bool.not_true,Bool.not_false,beq_eq_false_iff_ne,bne_eq_false_iff_eq,List.length_append,List.length_cons,List.length_nil,List.append_nil,Nat.zero_add,decide_true,decide_false,eq_self_iff_true]
set_option maxRecDepth 100000 in
theorem impl_isClient.eq:EqS c_impl_isClient Tryz.f149 [4] [impl_from.e] [] noL (fun i x=>impl_isClient.F x):=by intro i x;kernel_rfl
theorem impl_isClient.ok:ConOk Tryz.prog 149 c_impl_isClient:=okOf impl_isClient.eq Tryz.func149 rfl (by kernel_rfl) fun i x h hi hw=>impl_isClient.pure x h hw
def impl_isClient.e:GE:=⟨149,c_impl_isClient,⟨_,Tryz.func149,rfl,rfl⟩,impl_isClient.ok⟩
def c_impl_isSerial:Con:={A:=(.int .i64),shA:=[.one],R:=.bool,shR:=[(false,1)],pre:=fun _ _=>True,f:=some fun _ a=>(((fun a=>fIn a 1 1000000) a),((),()))}
def impl_isSerial.F (a0:Int):Prop:=(True∧∀r1,(Eq r1 ((fIn a0 1 1000000),((),())))→(Eq (r1.1,((),())) (((fun a=>fIn a 1 1000000) a0),((),()))))
theorem impl_isSerial.pure (a0:Int) (h:True) (hw:Wf c_impl_isSerial.A a0):impl_isSerial.F a0:=by
 unfold impl_isSerial.F
 simp only [forall_eq,true_and,and_true,caseB_iff,Prod.mk.injEq,decide_eq_true_eq,decide_eq_false_iff_not,Bool.not_eq_true',Bool.not_eq_false',bne_iff_ne,ne_eq,beq_iff_eq,Bool.not_true,Bool.not_false,beq_eq_false_iff_ne,bne_eq_false_iff_eq,List.length_append,List.length_cons,List.length_nil,List.append_nil,Nat.zero_add,decide_true,decide_false,eq_self_iff_true]
set_option maxRecDepth 100000 in
theorem impl_isSerial.eq:EqS c_impl_isSerial Tryz.f150 [4] [impl_from.e] [] noL (fun i x=>impl_isSerial.F x):=by intro i x;kernel_rfl
theorem impl_isSerial.ok:ConOk Tryz.prog 150 c_impl_isSerial:=okOf impl_isSerial.eq Tryz.func150 rfl (by kernel_rfl) fun i x h hi hw=>impl_isSerial.pure x h hw
def impl_isSerial.e:GE:=⟨150,c_impl_isSerial,⟨_,Tryz.func150,rfl,rfl⟩,impl_isSerial.ok⟩
def c_impl_sessionsOk:Con:={A:=(.list T1q),shA:=[.one],R:=.bool,shR:=[(false,1)],pre:=fun _ _=>True,f:=some fun _ a=>((fSessOk a),((),()))}
def impl_sessionsOk.F (a0:(List U8q)):Prop:=(eS [(0,.val false [.lst T1q a0 none]),(5,.val false [.lst T1q a0 none]),(6,.val false [.int .i64 (ln a0)])] [(0,.val false [.lst T1q a0 none]),(5,.val false [.lst T1q a0 none]),(6,.val false [.int .i64 (ln a0)])]∧((sxI a0 0)∧∀(y1:Int),(sxI a0 y1)→(caseB (decide (y1<(ln a0))) (0≤y1∧(y1<(ln a0)∧(True∧∀r2,(Eq r2 (((fun a=>fIn a 1 4) ((List.getD a0 (tN y1) (0,(0,(0,(0,(0,[])))))).1)),((),())))→(caseB (!r2.1) (Eq (false,((),())) ((fSessOk a0),((),()))) (True∧∀r3,(Eq r3 (((fun a=>fIn a 1 1000000) ((List.getD a0 (tN y1) (0,(0,(0,(0,(0,[])))))).2.1)),((),())))→(caseB (!r3.1) (Eq (false,((),())) ((fSessOk a0),((),()))) (True∧∀r4,(Eq r4 ((fAnsOk ((List.getD a0 (tN y1) (0,(0,(0,(0,(0,[])))))).2.2.1,((List.getD a0 (tN y1) (0,(0,(0,(0,(0,[])))))).2.2.2.1,((List.getD a0 (tN y1) (0,(0,(0,(0,(0,[])))))).2.2.2.2.1,(List.getD a0 (tN y1) (0,(0,(0,(0,(0,[])))))).2.2.2.2.2)))),((),())))→(caseB (!r4.1) (Eq (false,((),())) ((fSessOk a0),((),()))) (caseB (decide (y1>(0:Int))) (0≤(wI (y1 - (1:Int)))∧((wI (y1 - (1:Int)))<(ln a0)∧(caseB (decide (((List.getD a0 (tN (wI (y1 - (1:Int)))) (0,(0,(0,(0,(0,[])))))).1)≥((List.getD a0 (tN y1) (0,(0,(0,(0,(0,[])))))).1))) (Eq (false,((),())) ((fSessOk a0),((),()))) (eS [(0,.val false [.lst T1q a0 none]),(5,.val false [.lst T1q a0 none]),(6,.val false [.int .i64 (ln a0)])] [(0,.val false [.lst T1q a0 none]),(5,.val false [.lst T1q a0 none]),(6,.val false [.int .i64 (ln a0)])]∧(sxI a0 (wI (y1+(1:Int))))∧(sxM a0 (wI (y1+(1:Int))))<(sxM a0 y1))))) (eS [(0,.val false [.lst T1q a0 none]),(5,.val false [.lst T1q a0 none]),(6,.val false [.int .i64 (ln a0)])] [(0,.val false [.lst T1q a0 none]),(5,.val false [.lst T1q a0 none]),(6,.val false [.int .i64 (ln a0)])]∧(sxI a0 (wI (y1+(1:Int))))∧(sxM a0 (wI (y1+(1:Int))))<(sxM a0 y1))))))))))) (Eq (true,((),())) ((fSessOk a0),((),()))))))
def impl_sessionsOk.L (a0:(List U8q)):Nat→Option LoopAnn:=fun p=>Go.Proofs.YtnoapekdbmpiaaaGreat.Bv.look p [(26,{kp:={hold:=[0,5,6],slots:=[7],boxes:=[],rows:=[]},T:=(.int .i64),I:=fun st y=>sxI a0 y,μ:=fun st y=>sxM a0 y})]
theorem impl_sessionsOk.pure (a0:(List U8q)) (h:True) (hw:Wf c_impl_sessionsOk.A a0):impl_sessionsOk.F a0:=by
 delta impl_sessionsOk.F ln tN wI eS
 simp only [forall_eq,true_and,and_true,caseB_iff,Prod.mk.injEq,decide_eq_true_eq,decide_eq_false_iff_not,Bool.not_eq_true',Bool.not_eq_false',bne_iff_ne,ne_eq,beq_iff_eq,Bool.not_true,Bool.not_false,beq_eq_false_iff_ne,bne_eq_false_iff_eq,List.length_append,List.length_cons,List.length_nil,List.append_nil,Nat.zero_add,decide_true,decide_false,eq_self_iff_true,Prod.eta]
 have hl:a0.length≤9223372036854775807:=hw.1
 refine⟨⟨by omega,by omega,fun j hj=>absurd hj (by simp)⟩,?_⟩
 rintro i hI
 have q1:=hI.1
 have q2:=hI.2.1
 refine⟨fun hi=>?_,fun hi=>ss_end hI hi⟩
 have K:=ss_all hI hi
 have dn:sxM a0 (i+1)<sxM a0 i:=by unfold sxM;omega
 rw [w64 (x:=i+1) (by omega) (by omega),w64 (x:=i - 1) (by omega) (by omega),show (i - 1).toNat=i.toNat - 1 by omega]
 refine⟨q1,hi,fun c=>(K.n1 c).symm,fun c1=>⟨fun c=>(K.n2 c).symm,fun c2=>⟨fun c=>(K.n3 c).symm,fun c3=>⟨fun c4=>⟨by omega,by omega,fun c=>(K.n4 c4 c).symm,fun c=>⟨K.ok c1 c2 c3 (.inr c),dn⟩⟩,fun c=>⟨K.ok c1 c2 c3 (.inl c),dn⟩⟩⟩⟩⟩
set_option maxRecDepth 100000 in
theorem impl_sessionsOk.eq:EqS c_impl_sessionsOk Tryz.f98 [4] [impl_isClient.e,impl_isSerial.e,impl_AnswerOk.e] [] (fun i x=>impl_sessionsOk.L x) (fun i x=>impl_sessionsOk.F x):=by intro i x;kernel_rfl
theorem impl_sessionsOk.ok:ConOk Tryz.prog 98 c_impl_sessionsOk:=okOf impl_sessionsOk.eq Tryz.func98 rfl (by kernel_rfl) fun i x h hi hw=>impl_sessionsOk.pure x h hw
def impl_sessionsOk.e:GE:=⟨98,c_impl_sessionsOk,⟨_,Tryz.func98,rfl,rfl⟩,impl_sessionsOk.ok⟩
def c_impl_bucketsOk:Con:={A:=(.pair T16q (.int .i64)),shA:=[.one,.one],R:=.bool,shR:=[(false,1)],pre:=fun _ _=>True,f:=some fun _ a=>((fBktOk a.1 a.2),((),()))}
def impl_bucketsOk.F (a0:U7q) (a1:Int):Prop:=(eS [(0,.val false [.lst T0q a0 none]),(1,.val false [.int .i64 a1]),(7,.val false [.lst T0q a0 none]),(8,.val false [.int .i64 (ln a0)])] [(0,.val false [.lst T0q a0 none]),(1,.val false [.int .i64 a1]),(7,.val false [.lst T0q a0 none]),(8,.val false [.int .i64 (ln a0)])]∧((bkI a0 a1 0)∧∀(y1:Int),(bkI a0 a1 y1)→(caseB (decide (y1<(ln a0))) (0≤y1∧(y1<(ln a0)∧(True∧∀r2,(Eq r2 ((fBucket 1099511627776),((),())))→(True∧∀r3,(Eq r3 ((fIn ((List.getD a0 (tN y1) (0,0)).1) 0 r2.1),((),())))→(caseB (!r3.1) (Eq (false,((),())) ((fBktOk a0 a1),((),()))) (True∧∀r4,(Eq r4 ((fPast ((List.getD a0 (tN y1) (0,0)).1) a1),((),())))→(caseB r4.1 (Eq (false,((),())) ((fBktOk a0 a1),((),()))) (True∧∀r5,(Eq r5 ((fIn ((List.getD a0 (tN y1) (0,0)).2) 0 1),((),())))→(caseB (!r5.1) (Eq (false,((),())) ((fBktOk a0 a1),((),()))) (caseB (decide (y1>(0:Int))) (0≤(wI (y1 - (1:Int)))∧((wI (y1 - (1:Int)))<(ln a0)∧(caseB (decide (((List.getD a0 (tN (wI (y1 - (1:Int)))) (0,0)).1)≥((List.getD a0 (tN y1) (0,0)).1))) (Eq (false,((),())) ((fBktOk a0 a1),((),()))) (eS [(0,.val false [.lst T0q a0 none]),(1,.val false [.int .i64 a1]),(7,.val false [.lst T0q a0 none]),(8,.val false [.int .i64 (ln a0)])] [(0,.val false [.lst T0q a0 none]),(1,.val false [.int .i64 a1]),(7,.val false [.lst T0q a0 none]),(8,.val false [.int .i64 (ln a0)])]∧(bkI a0 a1 (wI (y1+(1:Int))))∧(bkM a0 a1 (wI (y1+(1:Int))))<(bkM a0 a1 y1))))) (eS [(0,.val false [.lst T0q a0 none]),(1,.val false [.int .i64 a1]),(7,.val false [.lst T0q a0 none]),(8,.val false [.int .i64 (ln a0)])] [(0,.val false [.lst T0q a0 none]),(1,.val false [.int .i64 a1]),(7,.val false [.lst T0q a0 none]),(8,.val false [.int .i64 (ln a0)])]∧(bkI a0 a1 (wI (y1+(1:Int))))∧(bkM a0 a1 (wI (y1+(1:Int))))<(bkM a0 a1 y1)))))))))))) (Eq ((decide ((ln a0)≤(12:Int))),((),())) ((fBktOk a0 a1),((),()))))))
def impl_bucketsOk.L (a0:U7q) (a1:Int):Nat→Option LoopAnn:=fun p=>Go.Proofs.YtnoapekdbmpiaaaGreat.Bv.look p [(26,{kp:={hold:=[0,1,7,8],slots:=[9],boxes:=[],rows:=[]},T:=(.int .i64),I:=fun st y=>bkI a0 a1 y,μ:=fun st y=>bkM a0 a1 y})]
theorem impl_bucketsOk.pure (a0:U7q) (a1:Int) (h:True) (hw:Wf c_impl_bucketsOk.A (a0,a1)):impl_bucketsOk.F a0 a1:=by
 delta impl_bucketsOk.F ln tN wI eS
 simp only [forall_eq,true_and,and_true,caseB_iff,Prod.mk.injEq,decide_eq_true_eq,decide_eq_false_iff_not,Bool.not_eq_true',Bool.not_eq_false',bne_iff_ne,ne_eq,beq_iff_eq,Bool.not_true,Bool.not_false,beq_eq_false_iff_ne,bne_eq_false_iff_eq,List.length_append,List.length_cons,List.length_nil,List.append_nil,Nat.zero_add,decide_true,decide_false,eq_self_iff_true,Prod.eta,bucket_max]
 have hl:a0.length≤9223372036854775807:=hw.1.1
 refine⟨⟨by omega,by omega,fun j hj=>absurd hj (by simp)⟩,?_⟩
 rintro i hI
 have q1:=hI.1
 have q2:=hI.2.1
 refine⟨fun hi=>?_,fun hi=>bkt_end hI hi⟩
 have K:=bk_all hI hi
 have dn:bkM a0 a1 (i+1)<bkM a0 a1 i:=by unfold bkM;omega
 rw [w64 (x:=i+1) (by omega) (by omega),w64 (x:=i - 1) (by omega) (by omega),show (i - 1).toNat=i.toNat - 1 by omega]
 refine⟨q1,hi,fun c=>(K.n1 c).symm,fun c1=>⟨fun c=>(K.n2 c).symm,fun c2=>⟨fun c=>(K.n3 c).symm,fun c3=>⟨fun c4=>⟨by omega,by omega,fun c=>(K.n4 c4 c).symm,fun c=>⟨K.ok c1 c2 c3 (.inr c),dn⟩⟩,fun c=>⟨K.ok c1 c2 c3 (.inl c),dn⟩⟩⟩⟩⟩
set_option maxRecDepth 100000 in
theorem impl_bucketsOk.eq:EqS c_impl_bucketsOk Tryz.f101 [4] [impl_from.e,impl_BucketOf.e,impl_past.e] [] (fun i x=>impl_bucketsOk.L x.1 x.2) (fun i x=>impl_bucketsOk.F x.1 x.2):=by intro i x;kernel_rfl
theorem impl_bucketsOk.ok:ConOk Tryz.prog 101 c_impl_bucketsOk:=okOf impl_bucketsOk.eq Tryz.func101 rfl (by kernel_rfl) fun i x h hi hw=>impl_bucketsOk.pure x.1 x.2 h hw
def impl_bucketsOk.e:GE:=⟨101,c_impl_bucketsOk,⟨_,Tryz.func101,rfl,rfl⟩,impl_bucketsOk.ok⟩
def c_spec_l12ZeroEngine:Con:={A:=T10q,shA:=[.agg 3],R:=.bool,shR:=[(false,1)],pre:=fun _ _=>True,f:=some fun _ a=>((fZeroE a),((),()))}
def spec_l12ZeroEngine.F (a0:U11q):Prop:=(caseB (a0.1==(0:Int)) (caseB ((ln a0.2.1)==(0:Int)) (Eq (((ln a0.2.2)==(0:Int)),((),())) ((fZeroE a0),((),()))) (Eq (false,((),())) ((fZeroE a0),((),())))) (Eq (false,((),())) ((fZeroE a0),((),()))))
theorem spec_l12ZeroEngine.pure (a0:U11q) (h:True) (hw:Wf c_spec_l12ZeroEngine.A a0):spec_l12ZeroEngine.F a0:=by
 delta spec_l12ZeroEngine.F ln
 simp only [forall_eq,true_and,and_true,caseB_iff,Prod.mk.injEq,decide_eq_true_eq,decide_eq_false_iff_not,Bool.not_eq_true',Bool.not_eq_false',bne_iff_ne,ne_eq,beq_iff_eq,Bool.not_true,Bool.not_false,beq_eq_false_iff_ne,bne_eq_false_iff_eq,List.length_append,List.length_cons,List.length_nil,List.append_nil,Nat.zero_add,decide_true,decide_false,eq_self_iff_true]
 unfold fZeroE
 refine⟨fun h1=>⟨fun h2=>?_,fun h2=>?_⟩,fun h1=>?_⟩
 · rw [decide_eq_true h1,decide_eq_true (by omega:a0.2.1.length=0),Bool.true_and,Bool.true_and,Bool.eq_iff_iff];simp
 · rw [decide_eq_false (by omega:¬a0.2.1.length=0)];simp
 · rw [decide_eq_false h1];simp
set_option maxRecDepth 100000 in
theorem spec_l12ZeroEngine.eq:EqS c_spec_l12ZeroEngine Tryz.f93 [4] [] [] noL (fun i x=>spec_l12ZeroEngine.F x):=by intro i x;kernel_rfl
theorem spec_l12ZeroEngine.ok:ConOk Tryz.prog 93 c_spec_l12ZeroEngine:=okOf spec_l12ZeroEngine.eq Tryz.func93 rfl (by kernel_rfl) fun i x h hi hw=>spec_l12ZeroEngine.pure x h hw
def spec_l12ZeroEngine.e:GE:=⟨93,c_spec_l12ZeroEngine,⟨_,Tryz.func93,rfl,rfl⟩,spec_l12ZeroEngine.ok⟩
def c_impl_StateOk:Con:={A:=T6q,shA:=[.agg 8],R:=.bool,shR:=[(false,1)],pre:=fun _ a=>(pSt a),f:=some fun _ a=>((fStOk a),((),()))}
def impl_StateOk.F (a0:U4q):Prop:=(True∧∀r1,(Eq r1 ((fSessOk a0.2.2.2.2.2),((),())))→(caseB (!r1.1) (Eq (false,((),())) ((fStOk a0),((),()))) (caseB (a0.1==(1:Int)) (True∧∀r2,(Eq r2 ((fIn a0.2.1 0 100000),((),())))→(caseB r2.1 (True∧∀r3,(Eq r3 ((fTime a0.2.2.1),((),())))→(caseB r3.1 (True∧∀r4,(Eq r4 ((fBktOk a0.2.2.2.1 a0.2.2.1),((),())))→(caseB r4.1 (caseB (a0.2.2.2.2.1.1==(0:Int)) (Eq (((wI ((ln a0.2.2.2.2.1.2.1)+(ln a0.2.2.2.2.1.2.2)))==(0:Int)),((),())) ((fStOk a0),((),()))) (Eq (false,((),())) ((fStOk a0),((),())))) (Eq (false,((),())) ((fStOk a0),((),()))))) (Eq (false,((),())) ((fStOk a0),((),()))))) (Eq (false,((),())) ((fStOk a0),((),()))))) (caseB (a0.1==(2:Int)) (caseB (a0.2.1==(0:Int)) (caseB (a0.2.2.1==(0:Int)) (caseB ((ln a0.2.2.2.1)==(0:Int)) ((pEng (a0.2.2.2.2.1.1,(a0.2.2.2.2.1.2.1,a0.2.2.2.2.1.2.2)))∧∀r5,(Eq r5 ((fEngOk (a0.2.2.2.2.1.1,(a0.2.2.2.2.1.2.1,a0.2.2.2.2.1.2.2))),((),())))→(Eq (r5.1,((),())) ((fStOk a0),((),())))) (Eq (false,((),())) ((fStOk a0),((),())))) (Eq (false,((),())) ((fStOk a0),((),())))) (Eq (false,((),())) ((fStOk a0),((),())))) (Eq (false,((),())) ((fStOk a0),((),())))))))
theorem impl_StateOk.pure (a0:U4q) (h:(pSt a0)) (hw:Wf c_impl_StateOk.A a0):impl_StateOk.F a0:=by
 delta impl_StateOk.F ln wI
 simp only [forall_eq,true_and,and_true,caseB_iff,Prod.mk.injEq,decide_eq_true_eq,decide_eq_false_iff_not,Bool.not_eq_true',Bool.not_eq_false',bne_iff_ne,ne_eq,beq_iff_eq,Bool.not_true,Bool.not_false,beq_eq_false_iff_ne,bne_eq_false_iff_eq,List.length_append,List.length_cons,List.length_nil,List.append_nil,Nat.zero_add,decide_true,decide_false,eq_self_iff_true,Prod.eta]
 obtain⟨hp,hl1,hl2⟩:=h
 have no:∀b,fSessOk a0.2.2.2.2.2=true→a0.1=1→(fIn a0.2.1 0 100000&&(fTime a0.2.2.1&&(fBktOk a0.2.2.2.1 a0.2.2.1&&fZeroE a0.2.2.2.2.1)))=b→b=fStOk a0:=fun b h h1 h2=>by unfold fStOk;rw [h,if_pos h1,h2,Bool.true_and]
 have no2:∀b,fSessOk a0.2.2.2.2.2=true→a0.1=2→(decide (a0.2.1=0)&&(decide (a0.2.2.1=0)&&(decide (a0.2.2.2.1.length=0)&&fEngOk a0.2.2.2.2.1)))=b→b=fStOk a0:=fun b h h1 h2=>by unfold fStOk;rw [h,if_neg (by omega),if_pos h1,h2,Bool.true_and]
 have no3:¬a0.1=1→¬a0.1=2→false=fStOk a0:=fun h1 h2=>by unfold fStOk;rw [if_neg h1,if_neg h2,Bool.and_false]
 have no0:fSessOk a0.2.2.2.2.2=false→false=fStOk a0:=fun h=>by unfold fStOk;rw [h,Bool.false_and]
 rw [w64 (x:=(a0.2.2.2.2.1.2.1.length:Int)+a0.2.2.2.2.1.2.2.length) (by omega) (by omega)]
 refine⟨no0,fun h0=>⟨fun h1=>⟨fun h2=>⟨fun h3=>⟨fun h4=>⟨fun h5=>no _ h0 h1 ?_,fun h5=>no _ h0 h1 ?_⟩,fun h4=>no _ h0 h1 (by simp [h4])⟩,fun h3=>no _ h0 h1 (by simp [h3])⟩,fun h2=>no _ h0 h1 (by simp [h2])⟩,fun h1=>⟨fun h1b=>⟨fun h2=>⟨fun h3=>⟨fun h4=>⟨hp,no2 _ h0 h1b ?_⟩,fun h4=>no2 _ h0 h1b ?_⟩,fun h3=>no2 _ h0 h1b (by simp [h3])⟩,fun h2=>no2 _ h0 h1b (by simp [h2])⟩,fun h1b=>no3 h1 h1b⟩⟩⟩
 · rw [h2,h3,h4]
   unfold fZeroE
   rw [decide_eq_true h5]
   simp only [Bool.true_and]
   rw [Bool.eq_iff_iff]
   simp only [beq_iff_eq,Bool.and_eq_true,decide_eq_true_eq]
   omega
 · rw [h2,h3,h4];unfold fZeroE;rw [decide_eq_false h5];rfl
 · rw [decide_eq_true h2,decide_eq_true h3,decide_eq_true (by omega:a0.2.2.2.1.length=0)];simp
 · rw [decide_eq_false (by omega:¬a0.2.2.2.1.length=0)];simp
set_option maxRecDepth 100000 in
theorem impl_StateOk.eq:EqS c_impl_StateOk Tryz.f42 [4] [impl_EngineOk.e,impl_sessionsOk.e,impl_from.e,impl_isTime.e,impl_bucketsOk.e] [] noL (fun i x=>impl_StateOk.F x):=by intro i x;kernel_rfl
theorem impl_StateOk.ok:ConOk Tryz.prog 42 c_impl_StateOk:=okOf impl_StateOk.eq Tryz.func42 rfl (by kernel_rfl) fun i x h hi hw=>impl_StateOk.pure x h hw
def impl_StateOk.e:GE:=⟨42,c_impl_StateOk,⟨_,Tryz.func42,rfl,rfl⟩,impl_StateOk.ok⟩
def c_spec_StateOk:Con:={A:=T6q,shA:=[.agg 8],R:=.bool,shR:=[(false,1)],pre:=fun _ a=>(pSt a),f:=some fun _ a=>((fStOk a),((),()))}
def spec_StateOk.F (a0:U4q):Prop:=(caseB (decide ((ln a0.2.2.2.2.2)>(4:Int))) (Eq (false,((),())) ((fStOk a0),((),()))) (eS [(1,.box 2 0)] [(1,.box 2 0)]∧((stI a0 0 a0.1 a0.2.1 a0.2.2.1 a0.2.2.2.1 a0.2.2.2.2.1.1 a0.2.2.2.2.1.2.1 a0.2.2.2.2.1.2.2 a0.2.2.2.2.2)∧∀(y1:U14q),(stI a0 y1.1 y1.2.1 y1.2.2.1 y1.2.2.2.1 y1.2.2.2.2.1 y1.2.2.2.2.2.1 y1.2.2.2.2.2.2.1 y1.2.2.2.2.2.2.2.1 y1.2.2.2.2.2.2.2.2)→(caseB (decide (y1.1<(ln y1.2.2.2.2.2.2.2.2))) (0≤y1.1∧(y1.1<(ln y1.2.2.2.2.2.2.2.2)∧(True∧∀r2,(Eq r2 ((fIn ((List.getD y1.2.2.2.2.2.2.2.2 (tN y1.1) (0,(0,(0,(0,(0,[])))))).1) 1 4),((),())))→(caseB (!r2.1) (Eq (false,((),())) ((fStOk a0),((),()))) (caseB (decide (y1.1>(0:Int))) (0≤(wI (y1.1 - (1:Int)))∧((wI (y1.1 - (1:Int)))<(ln y1.2.2.2.2.2.2.2.2)∧(caseB (decide (((List.getD y1.2.2.2.2.2.2.2.2 (tN (wI (y1.1 - (1:Int)))) (0,(0,(0,(0,(0,[])))))).1)≥((List.getD y1.2.2.2.2.2.2.2.2 (tN y1.1) (0,(0,(0,(0,(0,[])))))).1))) (Eq (false,((),())) ((fStOk a0),((),()))) (True∧∀r3,(Eq r3 ((fIn ((List.getD y1.2.2.2.2.2.2.2.2 (tN y1.1) (0,(0,(0,(0,(0,[])))))).2.1) 1 1000000),((),())))→(caseB (!r3.1) (Eq (false,((),())) ((fStOk a0),((),()))) (True∧∀r4,(Eq r4 ((fAnsOk ((List.getD y1.2.2.2.2.2.2.2.2 (tN y1.1) (0,(0,(0,(0,(0,[])))))).2.2.1,((List.getD y1.2.2.2.2.2.2.2.2 (tN y1.1) (0,(0,(0,(0,(0,[])))))).2.2.2.1,((List.getD y1.2.2.2.2.2.2.2.2 (tN y1.1) (0,(0,(0,(0,(0,[])))))).2.2.2.2.1,(List.getD y1.2.2.2.2.2.2.2.2 (tN y1.1) (0,(0,(0,(0,(0,[])))))).2.2.2.2.2)))),((),())))→(caseB (!r4.1) (Eq (false,((),())) ((fStOk a0),((),()))) (eS [(1,.box 2 0)] [(1,.box 2 0)]∧(stI a0 (wI (y1.1+(1:Int))) y1.2.1 y1.2.2.1 y1.2.2.2.1 y1.2.2.2.2.1 y1.2.2.2.2.2.1 y1.2.2.2.2.2.2.1 y1.2.2.2.2.2.2.2.1 y1.2.2.2.2.2.2.2.2)∧(stM a0 (wI (y1.1+(1:Int))) y1.2.1 y1.2.2.1 y1.2.2.2.1 y1.2.2.2.2.1 y1.2.2.2.2.2.1 y1.2.2.2.2.2.2.1 y1.2.2.2.2.2.2.2.1 y1.2.2.2.2.2.2.2.2)<(stM a0 y1.1 y1.2.1 y1.2.2.1 y1.2.2.2.1 y1.2.2.2.2.1 y1.2.2.2.2.2.1 y1.2.2.2.2.2.2.1 y1.2.2.2.2.2.2.2.1 y1.2.2.2.2.2.2.2.2))))))))) (True∧∀r5,(Eq r5 ((fIn ((List.getD y1.2.2.2.2.2.2.2.2 (tN y1.1) (0,(0,(0,(0,(0,[])))))).2.1) 1 1000000),((),())))→(caseB (!r5.1) (Eq (false,((),())) ((fStOk a0),((),()))) (True∧∀r6,(Eq r6 ((fAnsOk ((List.getD y1.2.2.2.2.2.2.2.2 (tN y1.1) (0,(0,(0,(0,(0,[])))))).2.2.1,((List.getD y1.2.2.2.2.2.2.2.2 (tN y1.1) (0,(0,(0,(0,(0,[])))))).2.2.2.1,((List.getD y1.2.2.2.2.2.2.2.2 (tN y1.1) (0,(0,(0,(0,(0,[])))))).2.2.2.2.1,(List.getD y1.2.2.2.2.2.2.2.2 (tN y1.1) (0,(0,(0,(0,(0,[])))))).2.2.2.2.2)))),((),())))→(caseB (!r6.1) (Eq (false,((),())) ((fStOk a0),((),()))) (eS [(1,.box 2 0)] [(1,.box 2 0)]∧(stI a0 (wI (y1.1+(1:Int))) y1.2.1 y1.2.2.1 y1.2.2.2.1 y1.2.2.2.2.1 y1.2.2.2.2.2.1 y1.2.2.2.2.2.2.1 y1.2.2.2.2.2.2.2.1 y1.2.2.2.2.2.2.2.2)∧(stM a0 (wI (y1.1+(1:Int))) y1.2.1 y1.2.2.1 y1.2.2.2.1 y1.2.2.2.2.1 y1.2.2.2.2.2.1 y1.2.2.2.2.2.2.1 y1.2.2.2.2.2.2.2.1 y1.2.2.2.2.2.2.2.2)<(stM a0 y1.1 y1.2.1 y1.2.2.1 y1.2.2.2.1 y1.2.2.2.2.1 y1.2.2.2.2.2.1 y1.2.2.2.2.2.2.1 y1.2.2.2.2.2.2.2.1 y1.2.2.2.2.2.2.2.2))))))))))) (caseB (y1.2.1==(1:Int)) (True∧∀r7,(Eq r7 ((fIn y1.2.2.1 0 100000),((),())))→(caseB (!r7.1) (Eq (false,((),())) ((fStOk a0),((),()))) (True∧∀r8,(Eq r8 ((fIn y1.2.2.2.1 0 1099511627776),((),())))→(caseB (!r8.1) (Eq (false,((),())) ((fStOk a0),((),()))) (caseB (decide ((ln y1.2.2.2.2.1)>(12:Int))) (Eq (false,((),())) ((fStOk a0),((),()))) (True∧∀r9,(Eq r9 ((fZeroE (y1.2.2.2.2.2.1,(y1.2.2.2.2.2.2.1,y1.2.2.2.2.2.2.2.1))),((),())))→(caseB (!r9.1) (Eq (false,((),())) ((fStOk a0),((),()))) (eS [(1,.box 2 0)] [(1,.box 2 0)]∧((suI a0 0 y1.2.1 y1.2.2.1 y1.2.2.2.1 y1.2.2.2.2.1 y1.2.2.2.2.2.1 y1.2.2.2.2.2.2.1 y1.2.2.2.2.2.2.2.1 y1.2.2.2.2.2.2.2.2)∧∀(y10:U14q),(suI a0 y10.1 y10.2.1 y10.2.2.1 y10.2.2.2.1 y10.2.2.2.2.1 y10.2.2.2.2.2.1 y10.2.2.2.2.2.2.1 y10.2.2.2.2.2.2.2.1 y10.2.2.2.2.2.2.2.2)→(caseB (decide (y10.1<(ln y10.2.2.2.2.1))) (0≤y10.1∧(y10.1<(ln y10.2.2.2.2.1)∧(True∧∀r11,(Eq r11 ((fBucket 1099511627776),((),())))→(True∧∀r12,(Eq r12 ((fIn ((List.getD y10.2.2.2.2.1 (tN y10.1) (0,0)).1) 0 r11.1),((),())))→(caseB (!r12.1) (Eq (false,((),())) ((fStOk a0),((),()))) (caseB (decide (y10.1>(0:Int))) (0≤(wI (y10.1 - (1:Int)))∧((wI (y10.1 - (1:Int)))<(ln y10.2.2.2.2.1)∧(caseB (decide (((List.getD y10.2.2.2.2.1 (tN (wI (y10.1 - (1:Int)))) (0,0)).1)≥((List.getD y10.2.2.2.2.1 (tN y10.1) (0,0)).1))) (Eq (false,((),())) ((fStOk a0),((),()))) (True∧∀r13,(Eq r13 ((fPast ((List.getD y10.2.2.2.2.1 (tN y10.1) (0,0)).1) y10.2.2.2.1),((),())))→(caseB r13.1 (Eq (false,((),())) ((fStOk a0),((),()))) (True∧∀r14,(Eq r14 ((fIn ((List.getD y10.2.2.2.2.1 (tN y10.1) (0,0)).2) 0 1),((),())))→(caseB (!r14.1) (Eq (false,((),())) ((fStOk a0),((),()))) (eS [(1,.box 2 0)] [(1,.box 2 0)]∧(suI a0 (wI (y10.1+(1:Int))) y10.2.1 y10.2.2.1 y10.2.2.2.1 y10.2.2.2.2.1 y10.2.2.2.2.2.1 y10.2.2.2.2.2.2.1 y10.2.2.2.2.2.2.2.1 y10.2.2.2.2.2.2.2.2)∧(suM a0 (wI (y10.1+(1:Int))) y10.2.1 y10.2.2.1 y10.2.2.2.1 y10.2.2.2.2.1 y10.2.2.2.2.2.1 y10.2.2.2.2.2.2.1 y10.2.2.2.2.2.2.2.1 y10.2.2.2.2.2.2.2.2)<(suM a0 y10.1 y10.2.1 y10.2.2.1 y10.2.2.2.1 y10.2.2.2.2.1 y10.2.2.2.2.2.1 y10.2.2.2.2.2.2.1 y10.2.2.2.2.2.2.2.1 y10.2.2.2.2.2.2.2.2))))))))) (True∧∀r15,(Eq r15 ((fPast ((List.getD y10.2.2.2.2.1 (tN y10.1) (0,0)).1) y10.2.2.2.1),((),())))→(caseB r15.1 (Eq (false,((),())) ((fStOk a0),((),()))) (True∧∀r16,(Eq r16 ((fIn ((List.getD y10.2.2.2.2.1 (tN y10.1) (0,0)).2) 0 1),((),())))→(caseB (!r16.1) (Eq (false,((),())) ((fStOk a0),((),()))) (eS [(1,.box 2 0)] [(1,.box 2 0)]∧(suI a0 (wI (y10.1+(1:Int))) y10.2.1 y10.2.2.1 y10.2.2.2.1 y10.2.2.2.2.1 y10.2.2.2.2.2.1 y10.2.2.2.2.2.2.1 y10.2.2.2.2.2.2.2.1 y10.2.2.2.2.2.2.2.2)∧(suM a0 (wI (y10.1+(1:Int))) y10.2.1 y10.2.2.1 y10.2.2.2.1 y10.2.2.2.2.1 y10.2.2.2.2.2.1 y10.2.2.2.2.2.2.1 y10.2.2.2.2.2.2.2.1 y10.2.2.2.2.2.2.2.2)<(suM a0 y10.1 y10.2.1 y10.2.2.1 y10.2.2.2.1 y10.2.2.2.2.1 y10.2.2.2.2.2.1 y10.2.2.2.2.2.2.1 y10.2.2.2.2.2.2.2.1 y10.2.2.2.2.2.2.2.2)))))))))))) (Eq (true,((),())) ((fStOk a0),((),()))))))))))))) (caseB (y1.2.1==(2:Int)) (caseB (y1.2.2.1==(0:Int)) (caseB (y1.2.2.2.1==(0:Int)) (caseB ((ln y1.2.2.2.2.1)==(0:Int)) ((pEng (y1.2.2.2.2.2.1,(y1.2.2.2.2.2.2.1,y1.2.2.2.2.2.2.2.1)))∧∀r17,(Eq r17 ((fEngOk (y1.2.2.2.2.2.1,(y1.2.2.2.2.2.2.1,y1.2.2.2.2.2.2.2.1))),((),())))→(Eq (r17.1,((),())) ((fStOk a0),((),())))) (Eq (false,((),())) ((fStOk a0),((),())))) (Eq (false,((),())) ((fStOk a0),((),())))) (Eq (false,((),())) ((fStOk a0),((),())))) (Eq (false,((),())) ((fStOk a0),((),())))))))))
def spec_StateOk.L (a0:U4q):Nat→Option LoopAnn:=fun p=>Go.Proofs.YtnoapekdbmpiaaaGreat.Bv.look p [(58,{kp:={hold:=[1],slots:=[3],boxes:=[2],rows:=[]},T:=T9q,I:=fun st y=>stI a0 y.1 y.2.1 y.2.2.1 y.2.2.2.1 y.2.2.2.2.1 y.2.2.2.2.2.1 y.2.2.2.2.2.2.1 y.2.2.2.2.2.2.2.1 y.2.2.2.2.2.2.2.2,μ:=fun st y=>stM a0 y.1 y.2.1 y.2.2.1 y.2.2.2.1 y.2.2.2.2.1 y.2.2.2.2.2.1 y.2.2.2.2.2.2.1 y.2.2.2.2.2.2.2.1 y.2.2.2.2.2.2.2.2}),(7850,{kp:={hold:=[1],slots:=[5],boxes:=[2],rows:=[]},T:=T9q,I:=fun st y=>suI a0 y.1 y.2.1 y.2.2.1 y.2.2.2.1 y.2.2.2.2.1 y.2.2.2.2.2.1 y.2.2.2.2.2.2.1 y.2.2.2.2.2.2.2.1 y.2.2.2.2.2.2.2.2,μ:=fun st y=>suM a0 y.1 y.2.1 y.2.2.1 y.2.2.2.1 y.2.2.2.2.1 y.2.2.2.2.2.1 y.2.2.2.2.2.2.1 y.2.2.2.2.2.2.2.1 y.2.2.2.2.2.2.2.2})]
theorem spec_StateOk.pure (a0:U4q) (h:(pSt a0)) (hw:Wf c_spec_StateOk.A a0):spec_StateOk.F a0:=by
 delta spec_StateOk.F ln tN wI eS
 simp only [forall_eq,true_and,and_true,caseB_iff,Prod.mk.injEq,decide_eq_true_eq,decide_eq_false_iff_not,Bool.not_eq_true',Bool.not_eq_false',bne_iff_ne,ne_eq,beq_iff_eq,Bool.not_true,Bool.not_false,beq_eq_false_iff_ne,bne_eq_false_iff_eq,List.length_append,List.length_cons,List.length_nil,List.append_nil,Nat.zero_add,decide_true,decide_false,eq_self_iff_true,Prod.eta,bucket_max]
 obtain⟨hp,hl1,hl2⟩:=h
 have no:∀b,fSessOk a0.2.2.2.2.2=true→a0.1=1→(fIn a0.2.1 0 100000&&(fTime a0.2.2.1&&(fBktOk a0.2.2.2.1 a0.2.2.1&&fZeroE a0.2.2.2.2.1)))=b→b=fStOk a0:=fun b h h1 h2=>by unfold fStOk;rw [h,if_pos h1,h2,Bool.true_and]
 have no2:∀b,fSessOk a0.2.2.2.2.2=true→a0.1=2→(decide (a0.2.1=0)&&(decide (a0.2.2.1=0)&&(decide (a0.2.2.2.1.length=0)&&fEngOk a0.2.2.2.2.1)))=b→b=fStOk a0:=fun b h h1 h2=>by unfold fStOk;rw [h,if_neg (by omega),if_pos h1,h2,Bool.true_and]
 have no3:¬a0.1=1→¬a0.1=2→false=fStOk a0:=fun h1 h2=>by unfold fStOk;rw [if_neg h1,if_neg h2,Bool.and_false]
 have no0:fSessOk a0.2.2.2.2.2=false→false=fStOk a0:=fun h=>by unfold fStOk;rw [h,Bool.false_and]
 have hw1:a0.2.2.2.2.2.length≤9223372036854775807:=hw.2.2.2.2.2.1
 have hw2:a0.2.2.2.1.length≤9223372036854775807:=hw.2.2.2.1.1
 refine⟨fun h0=>no0 ?_,fun h0=>⟨⟨rfl,by omega,by omega,fun j hj=>absurd hj (by simp)⟩,?_⟩⟩
 · rw [Bool.eq_false_iff];intro hs;have:=sess_len hs;omega
 rintro⟨i,k,hh,m,b,f,c,g,s⟩ ⟨ea,hI⟩
 simp only at ea hI ⊢
 subst ea
 simp only at*
 have q1:=hI.1
 have q2:=hI.2.1
 refine⟨fun hi=>?_,fun hi=>?_⟩
 · have K:=ss_all hI hi
   have st:∀{P:Prop},P→sxM s (i+1)<sxM s i∧P:=fun h=>⟨by unfold sxM;omega,h⟩
   have dn:sxM s (i+1)<sxM s i:=by unfold sxM;omega
   rw [w64 (x:=i+1) (by omega) (by omega),w64 (x:=i - 1) (by omega) (by omega),show (i - 1).toNat=i.toNat - 1 by omega]
   refine⟨q1,hi,fun c=>no0 (K.n1 c),fun c1=>⟨fun c4=>⟨by omega,by omega,fun c=>no0 (K.n4 c4 c),fun c5=>⟨fun c=>no0 (K.n2 c),fun c2=>⟨fun c=>no0 (K.n3 c),fun c3=>⟨⟨rfl,K.ok c1 c2 c3 (.inr c5)⟩,dn⟩⟩⟩⟩,fun c4=>⟨fun c=>no0 (K.n2 c),fun c2=>⟨fun c=>no0 (K.n3 c),fun c3=>⟨⟨rfl,K.ok c1 c2 c3 (.inl c4)⟩,dn⟩⟩⟩⟩⟩
 have hs:fSessOk s=true:=(ss_end hI hi).symm
 refine⟨fun h1=>⟨fun h2=>no _ hs h1 (by simp [h2]),fun h2=>⟨fun h3=>no _ hs h1 (by unfold fTime;simp [h3]),fun h3=>⟨fun h4=>no _ hs h1 ?_,fun h4=>⟨fun h5=>no _ hs h1 (by simp [h5]),fun h5=>⟨⟨rfl,by omega,by omega,fun j hj=>absurd hj (by simp)⟩,?_⟩⟩⟩⟩⟩,fun h1=>⟨fun h1b=>⟨fun h2=>⟨fun h3=>⟨fun h4=>⟨hp,no2 _ hs h1b ?_⟩,fun h4=>no2 _ hs h1b ?_⟩,fun h3=>no2 _ hs h1b (by simp [h3])⟩,fun h2=>no2 _ hs h1b (by simp [h2])⟩,fun h1b=>no3 h1 h1b⟩⟩
 · unfold fBktOk;rw [decide_eq_false (by omega:¬b.length≤12)];simp
 · rintro⟨i',k',hh',m',b',f',c',g',s'⟩ ⟨ea,hJ⟩
   simp only at ea hJ ⊢
   obtain⟨rfl,rfl,rfl,rfl,⟨rfl,rfl,rfl⟩,rfl⟩:k=k'∧hh=hh'∧m=m'∧b=b'∧(f=f'∧c=c'∧g=g')∧s=s':=by
    simp only [Prod.mk.injEq] at ea;exact⟨ea.1,ea.2.1,ea.2.2.1,ea.2.2.2.1,⟨ea.2.2.2.2.1.1,ea.2.2.2.2.1.2.1,ea.2.2.2.2.1.2.2⟩,ea.2.2.2.2.2⟩
   have r1:=hJ.1
   have r2:=hJ.2.1
   refine⟨fun hi'=>?_,fun hi'=>?_⟩
   · have K:=bk_all hJ hi'
     have bad:fBktOk b m=false→false=fStOk (k,hh,m,b,(f,c,g),s):=fun h=>no _ hs h1 (by simp [h])
     have dn:bkM b m (i'+1)<bkM b m i':=by unfold bkM;omega
     rw [w64 (x:=i'+1) (by omega) (by omega),w64 (x:=i' - 1) (by omega) (by omega),show (i' - 1).toNat=i'.toNat - 1 by omega]
     refine⟨r1,hi',fun c=>bad (K.n1 c),fun c1=>⟨fun c4=>⟨by omega,by omega,fun c=>bad (K.n4 c4 c),fun c5=>⟨fun c=>bad (K.n2 c),fun c2=>⟨fun c=>bad (K.n3 c),fun c3=>⟨⟨rfl,K.ok c1 c2 c3 (.inr c5)⟩,dn⟩⟩⟩⟩,fun c4=>⟨fun c=>bad (K.n2 c),fun c2=>⟨fun c=>bad (K.n3 c),fun c3=>⟨⟨rfl,K.ok c1 c2 c3 (.inl c4)⟩,dn⟩⟩⟩⟩⟩
   · have hb:fBktOk b m=true:=by rw [←bkt_end hJ hi'];exact decide_eq_true (by omega)
     exact no _ hs h1 (by rw [h2,hb,h5];unfold fTime;rw [h3];rfl)
 · rw [decide_eq_true h2,decide_eq_true h3,decide_eq_true (by omega:b.length=0)];simp
 · rw [decide_eq_false (by omega:¬b.length=0)];simp
set_option maxRecDepth 100000 in
theorem spec_StateOk.eq:EqS c_spec_StateOk Tryz.f40 [4] [spec_EngineOk.e,spec_l1In.e,spec_AnswerOk.e,spec_l12ZeroEngine.e,spec_BucketOf.e,spec_l12Past.e] [] (fun i x=>spec_StateOk.L x) (fun i x=>spec_StateOk.F x):=by intro i x;kernel_rfl
theorem spec_StateOk.ok:ConOk Tryz.prog 40 c_spec_StateOk:=okOf spec_StateOk.eq Tryz.func40 rfl (by kernel_rfl) fun i x h hi hw=>spec_StateOk.pure x h hw
def spec_StateOk.e:GE:=⟨40,c_spec_StateOk,⟨_,Tryz.func40,rfl,rfl⟩,spec_StateOk.ok⟩
end Go.Proofs.YtnoapekdbmpiaaaGreat.B
