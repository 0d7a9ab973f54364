/- States shown. -/
import Derived.Test.YtnoapekdbmpiaaaGreatCSt
import Derived.Test.YtnoapekdbmpiaaaGreatCFile
import Derived.Test.YtnoapekdbmpiaaaGreatCNum
set_option linter.unusedVariables false
set_option linter.unusedSimpArgs false
namespace Go.Proofs.YtnoapekdbmpiaaaGreat.B
open Go Go.Proofs.YtnoapekdbmpiaaaGreat.Bv
def fShAns (a:Ans):List UInt8:=if fAnsOk a=true then fVar a.1++(fVar a.2.1++(fVar a.2.2.1++a.2.2.2)) else []
def fPce (s:List UInt8):List UInt8:=fVar s.length++s
def pPce (s:List UInt8):Prop:=s.length≤1000000
def shB (b:Bkt):List UInt8:=fVar b.1++fVar b.2
def shS (x:Sess):List UInt8:=fVar x.1++(fVar x.2.1++fPce (fShAns x.2.2))
def sh1 (s:Stt):List UInt8:=[UInt8.ofNat s.1.toNat]++(fVar s.2.1++(fVar s.2.2.1++fVar s.2.2.2.1.length))
def sh2 (s:Stt):List UInt8:=fVar s.2.2.2.2.1.1++(fPce (fFileText s.2.2.2.2.1.2.1)++fVar s.2.2.2.2.1.2.2.length)
def shAll (s:Stt):List UInt8:=sh1 s++(s.2.2.2.1.flatMap shB++(sh2 s++(s.2.2.2.2.1.2.2.flatMap fPce++(fVar s.2.2.2.2.2.length++s.2.2.2.2.2.flatMap shS))))
def fShSt (s:Stt):List UInt8:=if fStOk s=true then shAll s else []
def pShSt (s:Stt):Prop:=pSt s∧∀x∈s.2.2.2.2.2,x.2.2.2.2.2.length≤maxLen
theorem ixF_len2:∀(l:List Ser) (n:Nat),(∀x∈l,x.1.length≤8)→(ixF l n).length≤100*l.length
 | [],n,_=>by simp [ixF]
 | x::l,n,h=>by
   have h1:=ixF_len2 l (n+(fShowBlock x.2).length) fun y hy=>h y (by simp [hy])
   have h2:=h x (by simp)
   have v1:=fVar_length x.1.length
   have v2:=fVar_length n
   have v3:=fVar_length (fShowBlock x.2).length
   have v4:=fVar_length (x.2.getD 0 (0,0)).1
   have v5:=fVar_length (x.2.getD (x.2.length - 1) (0,0)).1
   rw [ixF,List.length_append,List.length_cons]
   simp only [ftPiece,List.length_append]
   omega
theorem text_len2 (l:List Ser):(fFileText l).length≤20000:=by
 by_cases hc:fSerOk l=true∧l≠[]
 · have L:=RF.lay (s:=fFileText l) (l:=l) ⟨hc,rfl⟩
   have h1:=L.len
   have h2:=tF_length l
   have h3:=txF_length l
   have h4:=L.five
   have h5:=ixF_len2 l 4 fun x hx=>((fSerOk_R hc.1).2.2.2 x hx).1
   omega
 · unfold fFileText;rw [if_neg hc];simp
theorem file_len2 {f:Str} (h:(fReadFile f).2=true):f.length≤20000:=by
 unfold fReadFile at h
 split at h
 · rename_i hr;rw [←hr.2];exact text_len2 _
 · cases h
structure StK (s:Stt):Prop where
 kind:s.1=1∨s.1=2
 nb:s.2.2.2.1.length≤12
 nf:s.2.2.2.2.1.2.2.length≤4
 ns:s.2.2.2.2.2.length≤4
 fl:∀f∈s.2.2.2.2.1.2.2,f.length≤20000
 da:∀x∈s.2.2.2.2.2,x.2.2.2.2.2.length≤900
theorem st_parts {s:Stt} (h:fStOk s=true):StK s:=by
 unfold fStOk at h
 rw [Bool.and_eq_true] at h
 obtain⟨h0,h⟩:=h
 have hs:=sess_len h0
 have hd:∀x∈s.2.2.2.2.2,x.2.2.2.2.2.length≤900:=fun x hx=>by
  obtain⟨j,hj,e⟩:=List.getElem_of_mem hx
  have:=sess_yes h0 j hj
  simp only [ssAt,ss1,fAnsOk,Bool.and_eq_true,decide_eq_true_eq] at this
  rw [getD_lt hj,e] at this
  exact this.1.2.2.2.2.2
 split at h
 · rename_i hk
   simp only [Bool.and_eq_true,fBktOk,fZeroE,decide_eq_true_eq] at h
   obtain⟨_,_,⟨hb,_⟩,_,_,hf⟩:=h
   refine⟨.inl hk,hb,by omega,hs,fun f hx=>?_,hd⟩
   rw [List.length_eq_zero_iff.1 hf] at hx;cases hx
 · split at h
   · rename_i hk
     simp only [Bool.and_eq_true,decide_eq_true_eq] at h
     obtain⟨_,_,hb,he⟩:=h
     unfold fEngOk fEngRead at he
     split at he
     · rename_i h1
       unfold fHead at h1
       simp only [Bool.and_eq_true,decide_eq_true_eq] at h1
       split at he
       · rename_i h2
         rw [okF_plain] at h2
         exact⟨.inr hk,by omega,h1.2.2.2.1,hs,fun f hx=>file_len2 (List.all_eq_true.1 h2 f hx),hd⟩
       · cases he
     · cases he
   · cases h
theorem fm_step {α:Type} (F:α→List UInt8) (d:α) {l:List α} {i:Int} (h0:0≤i) (hi:i<l.length):(l.take (i+1).toNat).flatMap F=(l.take i.toNat).flatMap F++F (l.getD i.toNat d):=by
 rw [tn1 h0,take_getD d (by omega),List.flatMap_append];simp
theorem pce_len (s:List UInt8):(fPce s).length≤7+s.length:=by
 have h1:=fVar_length s.length
 unfold fPce;rw [List.length_append];omega
theorem shAns_len (a:Ans):(fShAns a).length≤1000:=by
 have h1:=fVar_length a.1
 have h2:=fVar_length a.2.1
 have h3:=fVar_length a.2.2.1
 unfold fShAns;split
 · rename_i h
   simp only [fAnsOk,Bool.and_eq_true,decide_eq_true_eq] at h
   simp only [List.length_append];omega
 · simp
theorem shS_len (x:Sess):(shS x).length≤1100:=by
 have h1:=fVar_length x.1
 have h2:=fVar_length x.2.1
 have h3:=pce_len (fShAns x.2.2)
 have h4:=shAns_len x.2.2
 unfold shS;simp only [List.length_append];omega
def h1I (a:Stt) (out:List UInt8) (i k h m:Int) (b:List Bkt) (f:Int) (c:List Ser) (g:List Str) (s:List Sess):Prop:=
 a=(k,(h,(m,(b,((f,(c,g)),s)))))∧0≤i∧i≤b.length∧out=sh1 a++(b.take i.toNat).flatMap shB∧(out.length:Int)≤22+14*i
def h1M (a:Stt) (out:List UInt8) (i k h m:Int) (b:List Bkt) (f:Int) (c:List Ser) (g:List Str) (s:List Sess):Nat:=(b.length - i).toNat
def h2I (a:Stt) (out:List UInt8) (i k h m:Int) (b:List Bkt) (f:Int) (c:List Ser) (g:List Str) (s:List Sess):Prop:=
 a=(k,(h,(m,(b,((f,(c,g)),s)))))∧0≤i∧i≤g.length∧out=sh1 a++(b.flatMap shB++(sh2 a++(g.take i.toNat).flatMap fPce))∧(out.length:Int)≤21000+20007*i
def h2M (a:Stt) (out:List UInt8) (i k h m:Int) (b:List Bkt) (f:Int) (c:List Ser) (g:List Str) (s:List Sess):Nat:=(g.length - i).toNat
def h3I (a:Stt) (out:List UInt8) (i k h m:Int) (b:List Bkt) (f:Int) (c:List Ser) (g:List Str) (s:List Sess):Prop:=
 a=(k,(h,(m,(b,((f,(c,g)),s)))))∧0≤i∧i≤s.length∧out=sh1 a++(b.flatMap shB++(sh2 a++(g.flatMap fPce++(fVar s.length++(s.take i.toNat).flatMap shS))))∧(out.length:Int)≤110000+1100*i
def h3M (a:Stt) (out:List UInt8) (i k h m:Int) (b:List Bkt) (f:Int) (c:List Ser) (g:List Str) (s:List Sess):Nat:=(s.length - i).toNat
def h4I (a:Stt) (out:List UInt8) (i:Int):Prop:=h3I a out i a.1 a.2.1 a.2.2.1 a.2.2.2.1 a.2.2.2.2.1.1 a.2.2.2.2.1.2.1 a.2.2.2.2.1.2.2 a.2.2.2.2.2
def h4M (a:Stt) (out:List UInt8) (i:Int):Nat:=(a.2.2.2.2.2.length - i).toNat
def c_spec_ShowAnswer:Con:={A:=T12q,shA:=[.agg 4],R:=.str,shR:=[(false,1)],pre:=fun _ _=>True,f:=some fun _ a=>((fShAns a),((),()))}
def spec_ShowAnswer.F (a0:U13q):Prop:=(True∧∀r1,(Eq r1 ((fAnsOk (a0.1,(a0.2.1,(a0.2.2.1,a0.2.2.2)))),((),())))→(caseB (!r1.1) (Eq ([],((),())) ((fShAns a0),((),()))) (True∧∀r2,(Eq r2 ((fVar a0.1),((),())))→(True∧∀r3,(Eq r3 ((fVar a0.2.1),((),())))→(List.length r2.1+List.length r3.1≤9223372036854775807∧(True∧∀r4,(Eq r4 ((fVar a0.2.2.1),((),())))→(List.length (r2.1++r3.1)+List.length r4.1≤9223372036854775807∧(List.length ((r2.1++r3.1)++r4.1)+List.length a0.2.2.2≤9223372036854775807∧(Eq ((((r2.1++r3.1)++r4.1)++a0.2.2.2),((),())) ((fShAns a0),((),())))))))))))
theorem spec_ShowAnswer.pure (a0:U13q) (h:True) (hw:Wf c_spec_ShowAnswer.A a0):spec_ShowAnswer.F a0:=by
 unfold spec_ShowAnswer.F
 simp only [forall_eq,true_and,and_true,caseB_iff,Prod.mk.injEq,decide_eq_true_eq,decide_eq_false_iff_not,Bool.not_eq_true',Bool.not_eq_false',bne_iff_ne,ne_eq,beq_iff_eq,Bool.not_true,Bool.not_false,beq_eq_false_iff_ne,bne_eq_false_iff_eq,List.length_append,List.length_cons,List.length_nil,List.append_nil,Nat.zero_add,decide_true,decide_false,eq_self_iff_true,Prod.eta]
 have v1:=fVar_length a0.1
 have v2:=fVar_length a0.2.1
 have v3:=fVar_length a0.2.2.1
 refine⟨fun h1=>?_,fun h1=>?_⟩
 · unfold fShAns;rw [if_neg (by rw [h1];decide)]
 · have h2:=h1
   simp only [fAnsOk,Bool.and_eq_true,decide_eq_true_eq] at h2
   refine⟨by omega,by omega,by omega,?_⟩
   unfold fShAns;rw [if_pos h1];simp only [List.append_assoc]
set_option maxRecDepth 100000 in
theorem spec_ShowAnswer.eq:EqS c_spec_ShowAnswer Tryz.f107 [9] [spec_AnswerOk.e,spec_Var.e] [] noL (fun i x=>spec_ShowAnswer.F x):=by intro i x;kernel_rfl
theorem spec_ShowAnswer.ok:ConOk Tryz.prog 107 c_spec_ShowAnswer:=okOf spec_ShowAnswer.eq Tryz.func107 rfl (by kernel_rfl) fun i x h hi hw=>spec_ShowAnswer.pure x h hw
def spec_ShowAnswer.e:GE:=⟨107,c_spec_ShowAnswer,⟨_,Tryz.func107,rfl,rfl⟩,spec_ShowAnswer.ok⟩
def c_impl_ShowAnswer:Con:={A:=T12q,shA:=[.agg 4],R:=.str,shR:=[(false,1)],pre:=fun _ _=>True,f:=some fun _ a=>((fShAns a),((),()))}
def impl_ShowAnswer.F (a0:U13q):Prop:=(True∧∀r1,(Eq r1 ((fAnsOk (a0.1,(a0.2.1,(a0.2.2.1,a0.2.2.2)))),((),())))→(caseB (!r1.1) (Eq ([],((),())) ((fShAns a0),((),()))) (True∧∀r2,(Eq r2 ((fVar a0.1),((),())))→(True∧∀r3,(Eq r3 ((fVar a0.2.1),((),())))→(List.length r2.1+List.length r3.1≤9223372036854775807∧(True∧∀r4,(Eq r4 ((fVar a0.2.2.1),((),())))→(List.length (r2.1++r3.1)+List.length r4.1≤9223372036854775807∧(List.length ((r2.1++r3.1)++r4.1)+List.length a0.2.2.2≤9223372036854775807∧(Eq ((((r2.1++r3.1)++r4.1)++a0.2.2.2),((),())) ((fShAns a0),((),())))))))))))
theorem impl_ShowAnswer.pure (a0:U13q) (h:True) (hw:Wf c_impl_ShowAnswer.A a0):impl_ShowAnswer.F a0:=by
 unfold impl_ShowAnswer.F
 simp only [forall_eq,true_and,and_true,caseB_iff,Prod.mk.injEq,decide_eq_true_eq,decide_eq_false_iff_not,Bool.not_eq_true',Bool.not_eq_false',bne_iff_ne,ne_eq,beq_iff_eq,Bool.not_true,Bool.not_false,beq_eq_false_iff_ne,bne_eq_false_iff_eq,List.length_append,List.length_cons,List.length_nil,List.append_nil,Nat.zero_add,decide_true,decide_false,eq_self_iff_true,Prod.eta]
 have v1:=fVar_length a0.1
 have v2:=fVar_length a0.2.1
 have v3:=fVar_length a0.2.2.1
 refine⟨fun h1=>?_,fun h1=>?_⟩
 · unfold fShAns;rw [if_neg (by rw [h1];decide)]
 · have h2:=h1
   simp only [fAnsOk,Bool.and_eq_true,decide_eq_true_eq] at h2
   refine⟨by omega,by omega,by omega,?_⟩
   unfold fShAns;rw [if_pos h1];simp only [List.append_assoc]
set_option maxRecDepth 100000 in
theorem impl_ShowAnswer.eq:EqS c_impl_ShowAnswer Tryz.f111 [9] [impl_Var.e,impl_AnswerOk.e] [] noL (fun i x=>impl_ShowAnswer.F x):=by intro i x;kernel_rfl
theorem impl_ShowAnswer.ok:ConOk Tryz.prog 111 c_impl_ShowAnswer:=okOf impl_ShowAnswer.eq Tryz.func111 rfl (by kernel_rfl) fun i x h hi hw=>impl_ShowAnswer.pure x h hw
def impl_ShowAnswer.e:GE:=⟨111,c_impl_ShowAnswer,⟨_,Tryz.func111,rfl,rfl⟩,impl_ShowAnswer.ok⟩
def c_spec_l14Text:Con:={A:=.str,shA:=[.one],R:=.str,shR:=[(false,1)],pre:=fun _ a=>(pPce a),f:=some fun _ a=>((fPce a),((),()))}
def spec_l14Text.F (a0:U5q):Prop:=(True∧∀r1,(Eq r1 ((fVar (ln a0)),((),())))→(List.length r1.1+List.length a0≤9223372036854775807∧(Eq ((r1.1++a0),((),())) ((fPce a0),((),())))))
theorem spec_l14Text.pure (a0:U5q) (h:(pPce a0)) (hw:Wf c_spec_l14Text.A a0):spec_l14Text.F a0:=by
 delta spec_l14Text.F ln
 simp only [forall_eq,true_and,and_true,caseB_iff,Prod.mk.injEq,decide_eq_true_eq,decide_eq_false_iff_not,Bool.not_eq_true',Bool.not_eq_false',bne_iff_ne,ne_eq,beq_iff_eq,Bool.not_true,Bool.not_false,beq_eq_false_iff_ne,bne_eq_false_iff_eq,List.length_append,List.length_cons,List.length_nil,List.append_nil,Nat.zero_add,decide_true,decide_false,eq_self_iff_true]
 have hl:a0.length≤1000000:=h
 have v1:=fVar_length a0.length
 exact⟨by omega,rfl⟩
set_option maxRecDepth 100000 in
theorem spec_l14Text.eq:EqS c_spec_l14Text Tryz.f105 [9] [spec_Var.e] [] noL (fun i x=>spec_l14Text.F x):=by intro i x;kernel_rfl
theorem spec_l14Text.ok:ConOk Tryz.prog 105 c_spec_l14Text:=okOf spec_l14Text.eq Tryz.func105 rfl (by kernel_rfl) fun i x h hi hw=>spec_l14Text.pure x h hw
def spec_l14Text.e:GE:=⟨105,c_spec_l14Text,⟨_,Tryz.func105,rfl,rfl⟩,spec_l14Text.ok⟩
def c_impl_pieced:Con:={A:=.str,shA:=[.one],R:=.str,shR:=[(false,1)],pre:=fun _ a=>(pPce a),f:=some fun _ a=>((fPce a),((),()))}
def impl_pieced.F (a0:U5q):Prop:=(True∧∀r1,(Eq r1 ((fVar (ln a0)),((),())))→(List.length r1.1+List.length a0≤9223372036854775807∧(Eq ((r1.1++a0),((),())) ((fPce a0),((),())))))
theorem impl_pieced.pure (a0:U5q) (h:(pPce a0)) (hw:Wf c_impl_pieced.A a0):impl_pieced.F a0:=by
 delta impl_pieced.F ln
 simp only [forall_eq,true_and,and_true,caseB_iff,Prod.mk.injEq,decide_eq_true_eq,decide_eq_false_iff_not,Bool.not_eq_true',Bool.not_eq_false',bne_iff_ne,ne_eq,beq_iff_eq,Bool.not_true,Bool.not_false,beq_eq_false_iff_ne,bne_eq_false_iff_eq,List.length_append,List.length_cons,List.length_nil,List.append_nil,Nat.zero_add,decide_true,decide_false,eq_self_iff_true]
 have hl:a0.length≤1000000:=h
 have v1:=fVar_length a0.length
 exact⟨by omega,rfl⟩
set_option maxRecDepth 100000 in
theorem impl_pieced.eq:EqS c_impl_pieced Tryz.f109 [9] [impl_Var.e] [] noL (fun i x=>impl_pieced.F x):=by intro i x;kernel_rfl
theorem impl_pieced.ok:ConOk Tryz.prog 109 c_impl_pieced:=okOf impl_pieced.eq Tryz.func109 rfl (by kernel_rfl) fun i x h hi hw=>impl_pieced.pure x h hw
def impl_pieced.e:GE:=⟨109,c_impl_pieced,⟨_,Tryz.func109,rfl,rfl⟩,impl_pieced.ok⟩
def c_impl_ShowState:Con:={A:=T6q,shA:=[.agg 8],R:=.str,shR:=[(false,1)],pre:=fun _ a=>(pShSt a),f:=some fun _ a=>((fShSt a),((),()))}
def impl_ShowState.F (a0:U4q):Prop:=((pSt (a0.1,(a0.2.1,(a0.2.2.1,(a0.2.2.2.1,((a0.2.2.2.2.1.1,(a0.2.2.2.2.1.2.1,a0.2.2.2.2.1.2.2)),a0.2.2.2.2.2))))))∧∀r1,(Eq r1 ((fStOk (a0.1,(a0.2.1,(a0.2.2.1,(a0.2.2.2.1,((a0.2.2.2.2.1.1,(a0.2.2.2.2.1.2.1,a0.2.2.2.2.1.2.2)),a0.2.2.2.2.2)))))),((),())))→(caseB (!r1.1) (Eq ([],((),())) ((fShSt a0),((),()))) (True∧∀r2,(Eq r2 ((fVar a0.2.1),((),())))→(List.length (List.map (fun n=>UInt8.ofNat (Int.toNat n)) [(IntKind.wrap .u8 a0.1)])+List.length r2.1≤9223372036854775807∧(True∧∀r3,(Eq r3 ((fVar a0.2.2.1),((),())))→(List.length ((List.map (fun n=>UInt8.ofNat (Int.toNat n)) [(IntKind.wrap .u8 a0.1)])++r2.1)+List.length r3.1≤9223372036854775807∧(True∧∀r4,(Eq r4 ((fVar (ln a0.2.2.2.1)),((),())))→(List.length (((List.map (fun n=>UInt8.ofNat (Int.toNat n)) [(IntKind.wrap .u8 a0.1)])++r2.1)++r3.1)+List.length r4.1≤9223372036854775807∧(eS [(1,.box 2 0),(32,.val false [.lst T0q a0.2.2.2.1 none]),(33,.val false [.int .i64 (ln a0.2.2.2.1)])] [(1,.box 2 0),(32,.val false [.lst T0q a0.2.2.2.1 none]),(33,.val false [.int .i64 (ln a0.2.2.2.1)])]∧((h1I a0 ((((List.map (fun n=>UInt8.ofNat (Int.toNat n)) [(IntKind.wrap .u8 a0.1)])++r2.1)++r3.1)++r4.1) 0 a0.1 a0.2.1 a0.2.2.1 a0.2.2.2.1 a0.2.2.2.2.1.1 a0.2.2.2.2.1.2.1 a0.2.2.2.2.1.2.2 a0.2.2.2.2.2)∧∀(y5:(U5q×U14q)),(h1I a0 y5.1 y5.2.1 y5.2.2.1 y5.2.2.2.1 y5.2.2.2.2.1 y5.2.2.2.2.2.1 y5.2.2.2.2.2.2.1 y5.2.2.2.2.2.2.2.1 y5.2.2.2.2.2.2.2.2.1 y5.2.2.2.2.2.2.2.2.2)→(caseB (decide (y5.2.1<(ln a0.2.2.2.1))) (0≤y5.2.1∧(y5.2.1<(ln a0.2.2.2.1)∧(True∧∀r6,(Eq r6 ((fVar ((List.getD a0.2.2.2.1 (tN y5.2.1) (0,0)).1)),((),())))→(True∧∀r7,(Eq r7 ((fVar ((List.getD a0.2.2.2.1 (tN y5.2.1) (0,0)).2)),((),())))→(List.length r6.1+List.length r7.1≤9223372036854775807∧(List.length y5.1+List.length (r6.1++r7.1)≤9223372036854775807∧(eS [(1,.box 2 0),(32,.val false [.lst T0q a0.2.2.2.1 none]),(33,.val false [.int .i64 (ln a0.2.2.2.1)])] [(1,.box 2 0),(32,.val false [.lst T0q a0.2.2.2.1 none]),(33,.val false [.int .i64 (ln a0.2.2.2.1)])]∧(h1I a0 (y5.1++(r6.1++r7.1)) (wI (y5.2.1+(1:Int))) y5.2.2.1 y5.2.2.2.1 y5.2.2.2.2.1 y5.2.2.2.2.2.1 y5.2.2.2.2.2.2.1 y5.2.2.2.2.2.2.2.1 y5.2.2.2.2.2.2.2.2.1 y5.2.2.2.2.2.2.2.2.2)∧(h1M a0 (y5.1++(r6.1++r7.1)) (wI (y5.2.1+(1:Int))) y5.2.2.1 y5.2.2.2.1 y5.2.2.2.2.1 y5.2.2.2.2.2.1 y5.2.2.2.2.2.2.1 y5.2.2.2.2.2.2.2.1 y5.2.2.2.2.2.2.2.2.1 y5.2.2.2.2.2.2.2.2.2)<(h1M a0 y5.1 y5.2.1 y5.2.2.1 y5.2.2.2.1 y5.2.2.2.2.1 y5.2.2.2.2.2.1 y5.2.2.2.2.2.2.1 y5.2.2.2.2.2.2.2.1 y5.2.2.2.2.2.2.2.2.1 y5.2.2.2.2.2.2.2.2.2)))))))) (True∧∀r8,(Eq r8 ((fVar y5.2.2.2.2.2.2.1),((),())))→((pSerOk y5.2.2.2.2.2.2.2.1)∧∀r9,(Eq r9 ((fFileText y5.2.2.2.2.2.2.2.1),((),())))→((pPce r9.1)∧∀r10,(Eq r10 ((fPce r9.1),((),())))→(List.length r8.1+List.length r10.1≤9223372036854775807∧(True∧∀r11,(Eq r11 ((fVar (ln y5.2.2.2.2.2.2.2.2.1)),((),())))→(List.length (r8.1++r10.1)+List.length r11.1≤9223372036854775807∧(List.length y5.1+List.length ((r8.1++r10.1)++r11.1)≤9223372036854775807∧(eS [(1,.box 2 0),(68,.val false [.lst .str y5.2.2.2.2.2.2.2.2.1 none]),(69,.val false [.int .i64 (ln y5.2.2.2.2.2.2.2.2.1)])] [(1,.box 2 0),(68,.val false [.lst .str y5.2.2.2.2.2.2.2.2.1 none]),(69,.val false [.int .i64 (ln y5.2.2.2.2.2.2.2.2.1)])]∧((h2I a0 (y5.1++((r8.1++r10.1)++r11.1)) 0 y5.2.2.1 y5.2.2.2.1 y5.2.2.2.2.1 y5.2.2.2.2.2.1 y5.2.2.2.2.2.2.1 y5.2.2.2.2.2.2.2.1 y5.2.2.2.2.2.2.2.2.1 y5.2.2.2.2.2.2.2.2.2)∧∀(y12:(U5q×U14q)),(h2I a0 y12.1 y12.2.1 y12.2.2.1 y12.2.2.2.1 y12.2.2.2.2.1 y12.2.2.2.2.2.1 y12.2.2.2.2.2.2.1 y12.2.2.2.2.2.2.2.1 y12.2.2.2.2.2.2.2.2.1 y12.2.2.2.2.2.2.2.2.2)→(caseB (decide (y12.2.1<(ln y5.2.2.2.2.2.2.2.2.1))) (0≤y12.2.1∧(y12.2.1<(ln y5.2.2.2.2.2.2.2.2.1)∧((pPce (List.getD y5.2.2.2.2.2.2.2.2.1 (tN y12.2.1) []))∧∀r13,(Eq r13 ((fPce (List.getD y5.2.2.2.2.2.2.2.2.1 (tN y12.2.1) [])),((),())))→(List.length y12.1+List.length r13.1≤9223372036854775807∧(eS [(1,.box 2 0),(68,.val false [.lst .str y5.2.2.2.2.2.2.2.2.1 none]),(69,.val false [.int .i64 (ln y5.2.2.2.2.2.2.2.2.1)])] [(1,.box 2 0),(68,.val false [.lst .str y5.2.2.2.2.2.2.2.2.1 none]),(69,.val false [.int .i64 (ln y5.2.2.2.2.2.2.2.2.1)])]∧(h2I a0 (y12.1++r13.1) (wI (y12.2.1+(1:Int))) y12.2.2.1 y12.2.2.2.1 y12.2.2.2.2.1 y12.2.2.2.2.2.1 y12.2.2.2.2.2.2.1 y12.2.2.2.2.2.2.2.1 y12.2.2.2.2.2.2.2.2.1 y12.2.2.2.2.2.2.2.2.2)∧(h2M a0 (y12.1++r13.1) (wI (y12.2.1+(1:Int))) y12.2.2.1 y12.2.2.2.1 y12.2.2.2.2.1 y12.2.2.2.2.2.1 y12.2.2.2.2.2.2.1 y12.2.2.2.2.2.2.2.1 y12.2.2.2.2.2.2.2.2.1 y12.2.2.2.2.2.2.2.2.2)<(h2M a0 y12.1 y12.2.1 y12.2.2.1 y12.2.2.2.1 y12.2.2.2.2.1 y12.2.2.2.2.2.1 y12.2.2.2.2.2.2.1 y12.2.2.2.2.2.2.2.1 y12.2.2.2.2.2.2.2.2.1 y12.2.2.2.2.2.2.2.2.2)))))) (True∧∀r14,(Eq r14 ((fVar (ln y12.2.2.2.2.2.2.2.2.2)),((),())))→(List.length y12.1+List.length r14.1≤9223372036854775807∧(eS [(86,.val false [.lst T1q y12.2.2.2.2.2.2.2.2.2 none]),(87,.val false [.int .i64 (ln y12.2.2.2.2.2.2.2.2.2)])] [(86,.val false [.lst T1q y12.2.2.2.2.2.2.2.2.2 none]),(87,.val false [.int .i64 (ln y12.2.2.2.2.2.2.2.2.2)])]∧((h4I a0 (y12.1++r14.1) 0)∧∀(y15:(U5q×Int)),(h4I a0 y15.1 y15.2)→(caseB (decide (y15.2<(ln y12.2.2.2.2.2.2.2.2.2))) (0≤y15.2∧(y15.2<(ln y12.2.2.2.2.2.2.2.2.2)∧(True∧∀r16,(Eq r16 ((fVar ((List.getD y12.2.2.2.2.2.2.2.2.2 (tN y15.2) (0,(0,(0,(0,(0,[])))))).1)),((),())))→(True∧∀r17,(Eq r17 ((fVar ((List.getD y12.2.2.2.2.2.2.2.2.2 (tN y15.2) (0,(0,(0,(0,(0,[])))))).2.1)),((),())))→(List.length r16.1+List.length r17.1≤9223372036854775807∧(True∧∀r18,(Eq r18 ((fShAns ((List.getD y12.2.2.2.2.2.2.2.2.2 (tN y15.2) (0,(0,(0,(0,(0,[])))))).2.2.1,((List.getD y12.2.2.2.2.2.2.2.2.2 (tN y15.2) (0,(0,(0,(0,(0,[])))))).2.2.2.1,((List.getD y12.2.2.2.2.2.2.2.2.2 (tN y15.2) (0,(0,(0,(0,(0,[])))))).2.2.2.2.1,(List.getD y12.2.2.2.2.2.2.2.2.2 (tN y15.2) (0,(0,(0,(0,(0,[])))))).2.2.2.2.2)))),((),())))→((pPce r18.1)∧∀r19,(Eq r19 ((fPce r18.1),((),())))→(List.length (r16.1++r17.1)+List.length r19.1≤9223372036854775807∧(List.length y15.1+List.length ((r16.1++r17.1)++r19.1)≤9223372036854775807∧(eS [(86,.val false [.lst T1q y12.2.2.2.2.2.2.2.2.2 none]),(87,.val false [.int .i64 (ln y12.2.2.2.2.2.2.2.2.2)])] [(86,.val false [.lst T1q y12.2.2.2.2.2.2.2.2.2 none]),(87,.val false [.int .i64 (ln y12.2.2.2.2.2.2.2.2.2)])]∧(h4I a0 (y15.1++((r16.1++r17.1)++r19.1)) (wI (y15.2+(1:Int))))∧(h4M a0 (y15.1++((r16.1++r17.1)++r19.1)) (wI (y15.2+(1:Int))))<(h4M a0 y15.1 y15.2))))))))))) (Eq (y15.1,((),())) ((fShSt a0),((),())))))))))))))))))))))))))))))
def impl_ShowState.L (a0:U4q):Nat→Option LoopAnn:=fun p=>Go.Proofs.YtnoapekdbmpiaaaGreat.Bv.look p [(122,{kp:={hold:=[1,32,33],slots:=[3,34],boxes:=[2],rows:=[]},T:=(.pair .str T9q),I:=fun st y=>h1I a0 y.1 y.2.1 y.2.2.1 y.2.2.2.1 y.2.2.2.2.1 y.2.2.2.2.2.1 y.2.2.2.2.2.2.1 y.2.2.2.2.2.2.2.1 y.2.2.2.2.2.2.2.2.1 y.2.2.2.2.2.2.2.2.2,μ:=fun st y=>h1M a0 y.1 y.2.1 y.2.2.1 y.2.2.2.1 y.2.2.2.2.1 y.2.2.2.2.2.1 y.2.2.2.2.2.2.1 y.2.2.2.2.2.2.2.1 y.2.2.2.2.2.2.2.2.1 y.2.2.2.2.2.2.2.2.2}),(506,{kp:={hold:=[1,68,69],slots:=[3,70],boxes:=[2],rows:=[]},T:=(.pair .str T9q),I:=fun st y=>h2I a0 y.1 y.2.1 y.2.2.1 y.2.2.2.1 y.2.2.2.2.1 y.2.2.2.2.2.1 y.2.2.2.2.2.2.1 y.2.2.2.2.2.2.2.1 y.2.2.2.2.2.2.2.2.1 y.2.2.2.2.2.2.2.2.2,μ:=fun st y=>h2M a0 y.1 y.2.1 y.2.2.1 y.2.2.2.1 y.2.2.2.2.1 y.2.2.2.2.2.1 y.2.2.2.2.2.2.1 y.2.2.2.2.2.2.2.1 y.2.2.2.2.2.2.2.2.1 y.2.2.2.2.2.2.2.2.2}),(2042,{kp:={hold:=[86,87],slots:=[3,88],boxes:=[],rows:=[]},T:=T18q,I:=fun st y=>h4I a0 y.1 y.2,μ:=fun st y=>h4M a0 y.1 y.2})]
theorem impl_ShowState.pure (a0:U4q) (h:(pShSt a0)) (hw:Wf c_impl_ShowState.A a0):impl_ShowState.F a0:=by
 delta impl_ShowState.F ln tN wI eS
 simp only [forall_eq,true_and,and_true,caseB_iff,Prod.mk.injEq,decide_eq_true_eq,decide_eq_false_iff_not,Bool.not_eq_true',Bool.not_eq_false',bne_iff_ne,ne_eq,beq_iff_eq,Bool.not_true,Bool.not_false,beq_eq_false_iff_ne,bne_eq_false_iff_eq,List.length_append,List.length_cons,List.length_nil,List.append_nil,Nat.zero_add,decide_true,decide_false,eq_self_iff_true,Prod.eta,List.map_cons,List.map_nil]
 obtain⟨hp,hd⟩:=h
 refine⟨hp,fun h1=>?_,fun h1=>?_⟩
 · unfold fShSt;rw [if_neg (by rw [h1];decide)]
 have K:=st_parts h1
 have fin:shAll a0=fShSt a0:=by unfold fShSt;rw [if_pos h1]
 have eK:IntKind.wrap .u8 a0.1=a0.1:=by rcases K.kind with e | e<;>rw [e]<;>rfl
 rw [eK]
 have v:∀n,(fVar n).length≤7:=fVar_length
 have v1:=v a0.2.1
 have v2:=v a0.2.2.1
 have v3:=v a0.2.2.2.1.length
 refine⟨by omega,by omega,by omega,⟨rfl,by omega,by omega,by simp [sh1],by simp only [List.length_append,List.length_cons,List.length_nil];omega⟩,?_⟩
 rintro⟨out,i,k,hh,m,b,f,c,g,s⟩ ⟨ea,q1,q2,q3,q4⟩
 simp only at ea q1 q2 q3 q4 ⊢
 subst ea
 simp only at*
 have n1:=K.nb
 have n2:=K.nf
 have n3:=K.ns
 simp only at n1 n2 n3
 refine⟨fun hi=>?_,fun hi=>?_⟩
 · have st:=fm_step shB (0,0) q1 hi
   generalize b.getD i.toNat (0,0)=x at st ⊢
   have w1:=v x.1
   have w2:=v x.2
   rw [w64 (x:=i+1) (by omega) (by omega)]
   refine⟨q1,hi,by omega,by omega,⟨rfl,by omega,by omega,by rw [q3,st];simp [shB],by simp only [List.length_append];omega⟩,by unfold h1M;omega⟩
 have u1:=v f
 have u2:=pce_len (fFileText c)
 have u3:=text_len2 c
 have u4:=v g.length
 have full:b.take i.toNat=b:=by rw [show i.toNat=b.length by omega,List.take_length]
 rw [full] at q3
 refine⟨hp.1.1,by unfold pPce;omega,by omega,by omega,by omega,⟨rfl,by omega,by omega,by rw [q3];simp [sh2],by simp only [List.length_append];omega⟩,?_⟩
 rintro⟨out2,i2,k2,hh2,m2,b2,f2,c2,g2,s2⟩ ⟨ea,r1,r2,r3,r4⟩
 simp only at ea r1 r2 r3 r4 ⊢
 obtain⟨rfl,rfl,rfl,rfl,⟨rfl,rfl,rfl⟩,rfl⟩:k=k2∧hh=hh2∧m=m2∧b=b2∧(f=f2∧c=c2∧g=g2)∧s=s2:=by
  simp only [Prod.mk.injEq] at ea;exact⟨ea.1,ea.2.1,ea.2.2.1,ea.2.2.2.1,⟨ea.2.2.2.2.1.1,ea.2.2.2.2.1.2.1,ea.2.2.2.2.1.2.2⟩,ea.2.2.2.2.2⟩
 refine⟨fun hi2=>?_,fun hi2=>?_⟩
 · have st:=fm_step fPce [] r1 hi2
   have w0:=K.fl _ (getD_mem (d:=([]:Str)) (by omega:i2.toNat<g.length))
   generalize g.getD i2.toNat []=x at st w0 ⊢
   have w1:=pce_len x
   rw [w64 (x:=i2+1) (by omega) (by omega)]
   refine⟨r1,hi2,by unfold pPce;omega,by omega,⟨rfl,by omega,by omega,by rw [r3,st];simp,by simp only [List.length_append];omega⟩,by unfold h2M;omega⟩
 have full2:g.take i2.toNat=g:=by rw [show i2.toNat=g.length by omega,List.take_length]
 rw [full2] at r3
 have u5:=v s.length
 refine⟨by omega,⟨rfl,by omega,by omega,by rw [r3];simp,by simp only [List.length_append];omega⟩,?_⟩
 rintro⟨out3,i3⟩ ⟨ea,t1,t2,t3,t4⟩
 simp only at ea t1 t2 t3 t4 ⊢
 refine⟨fun hi3=>?_,fun hi3=>?_⟩
 · have st:=fm_step shS (0,(0,(0,(0,(0,[]))))) t1 hi3
   generalize s.getD i3.toNat (0,(0,(0,(0,(0,[])))))=x at st ⊢
   have w1:=v x.1
   have w2:=v x.2.1
   have w3:=shAns_len x.2.2
   have w4:=pce_len (fShAns x.2.2)
   have w5:=shS_len x
   rw [w64 (x:=i3+1) (by omega) (by omega)]
   refine⟨t1,hi3,by omega,by unfold pPce;omega,by omega,by omega,⟨rfl,by omega,(by show i3+1≤(s.length:Int);omega),by rw [t3,st];simp [shS],by simp only [List.length_append];omega⟩,by unfold h4M;simp only;omega⟩
 have full3:s.take i3.toNat=s:=by rw [show i3.toNat=s.length by omega,List.take_length]
 rw [full3] at t3
 rw [t3,←fin];rfl
set_option maxRecDepth 100000 in
theorem impl_ShowState.eq:EqS c_impl_ShowState Tryz.f45 [9] [impl_StateOk.e,impl_Var.e,impl_pieced.e,impl_FileText.e,impl_ShowAnswer.e] [] (fun i x=>impl_ShowState.L x) (fun i x=>impl_ShowState.F x):=by intro i x;kernel_rfl
theorem impl_ShowState.ok:ConOk Tryz.prog 45 c_impl_ShowState:=okOf impl_ShowState.eq Tryz.func45 rfl (by kernel_rfl) fun i x h hi hw=>impl_ShowState.pure x h hw
def impl_ShowState.e:GE:=⟨45,c_impl_ShowState,⟨_,Tryz.func45,rfl,rfl⟩,impl_ShowState.ok⟩
def c_spec_ShowState:Con:={A:=T6q,shA:=[.agg 8],R:=.str,shR:=[(false,1)],pre:=fun _ a=>(pShSt a),f:=some fun _ a=>((fShSt a),((),()))}
def spec_ShowState.F (a0:U4q):Prop:=((pSt (a0.1,(a0.2.1,(a0.2.2.1,(a0.2.2.2.1,((a0.2.2.2.2.1.1,(a0.2.2.2.2.1.2.1,a0.2.2.2.2.1.2.2)),a0.2.2.2.2.2))))))∧∀r1,(Eq r1 ((fStOk (a0.1,(a0.2.1,(a0.2.2.1,(a0.2.2.2.1,((a0.2.2.2.2.1.1,(a0.2.2.2.2.1.2.1,a0.2.2.2.2.1.2.2)),a0.2.2.2.2.2)))))),((),())))→(caseB (!r1.1) (Eq ([],((),())) ((fShSt a0),((),()))) (True∧∀r2,(Eq r2 ((fVar a0.2.1),((),())))→(List.length (List.map (fun n=>UInt8.ofNat (Int.toNat n)) [(IntKind.wrap .u8 a0.1)])+List.length r2.1≤9223372036854775807∧(True∧∀r3,(Eq r3 ((fVar a0.2.2.1),((),())))→(List.length ((List.map (fun n=>UInt8.ofNat (Int.toNat n)) [(IntKind.wrap .u8 a0.1)])++r2.1)+List.length r3.1≤9223372036854775807∧(True∧∀r4,(Eq r4 ((fVar (ln a0.2.2.2.1)),((),())))→(List.length (((List.map (fun n=>UInt8.ofNat (Int.toNat n)) [(IntKind.wrap .u8 a0.1)])++r2.1)++r3.1)+List.length r4.1≤9223372036854775807∧(eS [(1,.box 2 0)] [(1,.box 2 0)]∧((h1I a0 ((((List.map (fun n=>UInt8.ofNat (Int.toNat n)) [(IntKind.wrap .u8 a0.1)])++r2.1)++r3.1)++r4.1) 0 a0.1 a0.2.1 a0.2.2.1 a0.2.2.2.1 a0.2.2.2.2.1.1 a0.2.2.2.2.1.2.1 a0.2.2.2.2.1.2.2 a0.2.2.2.2.2)∧∀(y5:(U5q×U14q)),(h1I a0 y5.1 y5.2.1 y5.2.2.1 y5.2.2.2.1 y5.2.2.2.2.1 y5.2.2.2.2.2.1 y5.2.2.2.2.2.2.1 y5.2.2.2.2.2.2.2.1 y5.2.2.2.2.2.2.2.2.1 y5.2.2.2.2.2.2.2.2.2)→(caseB (decide (y5.2.1<(ln y5.2.2.2.2.2.1))) (0≤y5.2.1∧(y5.2.1<(ln y5.2.2.2.2.2.1)∧(True∧∀r6,(Eq r6 ((fVar ((List.getD y5.2.2.2.2.2.1 (tN y5.2.1) (0,0)).1)),((),())))→(List.length y5.1+List.length r6.1≤9223372036854775807∧(0≤y5.2.1∧(y5.2.1<(ln y5.2.2.2.2.2.1)∧(True∧∀r7,(Eq r7 ((fVar ((List.getD y5.2.2.2.2.2.1 (tN y5.2.1) (0,0)).2)),((),())))→(List.length (y5.1++r6.1)+List.length r7.1≤9223372036854775807∧(eS [(1,.box 2 0)] [(1,.box 2 0)]∧(h1I a0 ((y5.1++r6.1)++r7.1) (wI (y5.2.1+(1:Int))) y5.2.2.1 y5.2.2.2.1 y5.2.2.2.2.1 y5.2.2.2.2.2.1 y5.2.2.2.2.2.2.1 y5.2.2.2.2.2.2.2.1 y5.2.2.2.2.2.2.2.2.1 y5.2.2.2.2.2.2.2.2.2)∧(h1M a0 ((y5.1++r6.1)++r7.1) (wI (y5.2.1+(1:Int))) y5.2.2.1 y5.2.2.2.1 y5.2.2.2.2.1 y5.2.2.2.2.2.1 y5.2.2.2.2.2.2.1 y5.2.2.2.2.2.2.2.1 y5.2.2.2.2.2.2.2.2.1 y5.2.2.2.2.2.2.2.2.2)<(h1M a0 y5.1 y5.2.1 y5.2.2.1 y5.2.2.2.1 y5.2.2.2.2.1 y5.2.2.2.2.2.1 y5.2.2.2.2.2.2.1 y5.2.2.2.2.2.2.2.1 y5.2.2.2.2.2.2.2.2.1 y5.2.2.2.2.2.2.2.2.2)))))))))) (True∧∀r8,(Eq r8 ((fVar y5.2.2.2.2.2.2.1),((),())))→(List.length y5.1+List.length r8.1≤9223372036854775807∧((pSerOk y5.2.2.2.2.2.2.2.1)∧∀r9,(Eq r9 ((fFileText y5.2.2.2.2.2.2.2.1),((),())))→((pPce r9.1)∧∀r10,(Eq r10 ((fPce r9.1),((),())))→(List.length (y5.1++r8.1)+List.length r10.1≤9223372036854775807∧(True∧∀r11,(Eq r11 ((fVar (ln y5.2.2.2.2.2.2.2.2.1)),((),())))→(List.length ((y5.1++r8.1)++r10.1)+List.length r11.1≤9223372036854775807∧(eS [(1,.box 2 0)] [(1,.box 2 0)]∧((h2I a0 (((y5.1++r8.1)++r10.1)++r11.1) 0 y5.2.2.1 y5.2.2.2.1 y5.2.2.2.2.1 y5.2.2.2.2.2.1 y5.2.2.2.2.2.2.1 y5.2.2.2.2.2.2.2.1 y5.2.2.2.2.2.2.2.2.1 y5.2.2.2.2.2.2.2.2.2)∧∀(y12:(U5q×U14q)),(h2I a0 y12.1 y12.2.1 y12.2.2.1 y12.2.2.2.1 y12.2.2.2.2.1 y12.2.2.2.2.2.1 y12.2.2.2.2.2.2.1 y12.2.2.2.2.2.2.2.1 y12.2.2.2.2.2.2.2.2.1 y12.2.2.2.2.2.2.2.2.2)→(caseB (decide (y12.2.1<(ln y12.2.2.2.2.2.2.2.2.1))) (0≤y12.2.1∧(y12.2.1<(ln y12.2.2.2.2.2.2.2.2.1)∧((pPce (List.getD y12.2.2.2.2.2.2.2.2.1 (tN y12.2.1) []))∧∀r13,(Eq r13 ((fPce (List.getD y12.2.2.2.2.2.2.2.2.1 (tN y12.2.1) [])),((),())))→(List.length y12.1+List.length r13.1≤9223372036854775807∧(eS [(1,.box 2 0)] [(1,.box 2 0)]∧(h2I a0 (y12.1++r13.1) (wI (y12.2.1+(1:Int))) y12.2.2.1 y12.2.2.2.1 y12.2.2.2.2.1 y12.2.2.2.2.2.1 y12.2.2.2.2.2.2.1 y12.2.2.2.2.2.2.2.1 y12.2.2.2.2.2.2.2.2.1 y12.2.2.2.2.2.2.2.2.2)∧(h2M a0 (y12.1++r13.1) (wI (y12.2.1+(1:Int))) y12.2.2.1 y12.2.2.2.1 y12.2.2.2.2.1 y12.2.2.2.2.2.1 y12.2.2.2.2.2.2.1 y12.2.2.2.2.2.2.2.1 y12.2.2.2.2.2.2.2.2.1 y12.2.2.2.2.2.2.2.2.2)<(h2M a0 y12.1 y12.2.1 y12.2.2.1 y12.2.2.2.1 y12.2.2.2.2.1 y12.2.2.2.2.2.1 y12.2.2.2.2.2.2.1 y12.2.2.2.2.2.2.2.1 y12.2.2.2.2.2.2.2.2.1 y12.2.2.2.2.2.2.2.2.2)))))) (True∧∀r14,(Eq r14 ((fVar (ln y12.2.2.2.2.2.2.2.2.2)),((),())))→(List.length y12.1+List.length r14.1≤9223372036854775807∧(eS [(1,.box 2 0)] [(1,.box 2 0)]∧((h3I a0 (y12.1++r14.1) 0 y12.2.2.1 y12.2.2.2.1 y12.2.2.2.2.1 y12.2.2.2.2.2.1 y12.2.2.2.2.2.2.1 y12.2.2.2.2.2.2.2.1 y12.2.2.2.2.2.2.2.2.1 y12.2.2.2.2.2.2.2.2.2)∧∀(y15:(U5q×U14q)),(h3I a0 y15.1 y15.2.1 y15.2.2.1 y15.2.2.2.1 y15.2.2.2.2.1 y15.2.2.2.2.2.1 y15.2.2.2.2.2.2.1 y15.2.2.2.2.2.2.2.1 y15.2.2.2.2.2.2.2.2.1 y15.2.2.2.2.2.2.2.2.2)→(caseB (decide (y15.2.1<(ln y15.2.2.2.2.2.2.2.2.2))) (0≤y15.2.1∧(y15.2.1<(ln y15.2.2.2.2.2.2.2.2.2)∧(True∧∀r16,(Eq r16 ((fVar ((List.getD y15.2.2.2.2.2.2.2.2.2 (tN y15.2.1) (0,(0,(0,(0,(0,[])))))).1)),((),())))→(List.length y15.1+List.length r16.1≤9223372036854775807∧(0≤y15.2.1∧(y15.2.1<(ln y15.2.2.2.2.2.2.2.2.2)∧(True∧∀r17,(Eq r17 ((fVar ((List.getD y15.2.2.2.2.2.2.2.2.2 (tN y15.2.1) (0,(0,(0,(0,(0,[])))))).2.1)),((),())))→(List.length (y15.1++r16.1)+List.length r17.1≤9223372036854775807∧(0≤y15.2.1∧(y15.2.1<(ln y15.2.2.2.2.2.2.2.2.2)∧(True∧∀r18,(Eq r18 ((fShAns ((List.getD y15.2.2.2.2.2.2.2.2.2 (tN y15.2.1) (0,(0,(0,(0,(0,[])))))).2.2.1,((List.getD y15.2.2.2.2.2.2.2.2.2 (tN y15.2.1) (0,(0,(0,(0,(0,[])))))).2.2.2.1,((List.getD y15.2.2.2.2.2.2.2.2.2 (tN y15.2.1) (0,(0,(0,(0,(0,[])))))).2.2.2.2.1,(List.getD y15.2.2.2.2.2.2.2.2.2 (tN y15.2.1) (0,(0,(0,(0,(0,[])))))).2.2.2.2.2)))),((),())))→((pPce r18.1)∧∀r19,(Eq r19 ((fPce r18.1),((),())))→(List.length ((y15.1++r16.1)++r17.1)+List.length r19.1≤9223372036854775807∧(eS [(1,.box 2 0)] [(1,.box 2 0)]∧(h3I a0 (((y15.1++r16.1)++r17.1)++r19.1) (wI (y15.2.1+(1:Int))) y15.2.2.1 y15.2.2.2.1 y15.2.2.2.2.1 y15.2.2.2.2.2.1 y15.2.2.2.2.2.2.1 y15.2.2.2.2.2.2.2.1 y15.2.2.2.2.2.2.2.2.1 y15.2.2.2.2.2.2.2.2.2)∧(h3M a0 (((y15.1++r16.1)++r17.1)++r19.1) (wI (y15.2.1+(1:Int))) y15.2.2.1 y15.2.2.2.1 y15.2.2.2.2.1 y15.2.2.2.2.2.1 y15.2.2.2.2.2.2.1 y15.2.2.2.2.2.2.2.1 y15.2.2.2.2.2.2.2.2.1 y15.2.2.2.2.2.2.2.2.2)<(h3M a0 y15.1 y15.2.1 y15.2.2.1 y15.2.2.2.1 y15.2.2.2.2.1 y15.2.2.2.2.2.1 y15.2.2.2.2.2.2.1 y15.2.2.2.2.2.2.2.1 y15.2.2.2.2.2.2.2.2.1 y15.2.2.2.2.2.2.2.2.2))))))))))))))) (Eq (y15.1,((),())) ((fShSt a0),((),())))))))))))))))))))))))))))))
def spec_ShowState.L (a0:U4q):Nat→Option LoopAnn:=fun p=>Go.Proofs.YtnoapekdbmpiaaaGreat.Bv.look p [(122,{kp:={hold:=[1],slots:=[3,4],boxes:=[2],rows:=[]},T:=(.pair .str T9q),I:=fun st y=>h1I a0 y.1 y.2.1 y.2.2.1 y.2.2.2.1 y.2.2.2.2.1 y.2.2.2.2.2.1 y.2.2.2.2.2.2.1 y.2.2.2.2.2.2.2.1 y.2.2.2.2.2.2.2.2.1 y.2.2.2.2.2.2.2.2.2,μ:=fun st y=>h1M a0 y.1 y.2.1 y.2.2.1 y.2.2.2.1 y.2.2.2.2.1 y.2.2.2.2.2.1 y.2.2.2.2.2.2.1 y.2.2.2.2.2.2.2.1 y.2.2.2.2.2.2.2.2.1 y.2.2.2.2.2.2.2.2.2}),(506,{kp:={hold:=[1],slots:=[3,5],boxes:=[2],rows:=[]},T:=(.pair .str T9q),I:=fun st y=>h2I a0 y.1 y.2.1 y.2.2.1 y.2.2.2.1 y.2.2.2.2.1 y.2.2.2.2.2.1 y.2.2.2.2.2.2.1 y.2.2.2.2.2.2.2.1 y.2.2.2.2.2.2.2.2.1 y.2.2.2.2.2.2.2.2.2,μ:=fun st y=>h2M a0 y.1 y.2.1 y.2.2.1 y.2.2.2.1 y.2.2.2.2.1 y.2.2.2.2.2.1 y.2.2.2.2.2.2.1 y.2.2.2.2.2.2.2.1 y.2.2.2.2.2.2.2.2.1 y.2.2.2.2.2.2.2.2.2}),(2042,{kp:={hold:=[1],slots:=[3,6],boxes:=[2],rows:=[]},T:=(.pair .str T9q),I:=fun st y=>h3I a0 y.1 y.2.1 y.2.2.1 y.2.2.2.1 y.2.2.2.2.1 y.2.2.2.2.2.1 y.2.2.2.2.2.2.1 y.2.2.2.2.2.2.2.1 y.2.2.2.2.2.2.2.2.1 y.2.2.2.2.2.2.2.2.2,μ:=fun st y=>h3M a0 y.1 y.2.1 y.2.2.1 y.2.2.2.1 y.2.2.2.2.1 y.2.2.2.2.2.1 y.2.2.2.2.2.2.1 y.2.2.2.2.2.2.2.1 y.2.2.2.2.2.2.2.2.1 y.2.2.2.2.2.2.2.2.2})]
theorem spec_ShowState.pure (a0:U4q) (h:(pShSt a0)) (hw:Wf c_spec_ShowState.A a0):spec_ShowState.F a0:=by
 delta spec_ShowState.F ln tN wI eS
 simp only [forall_eq,true_and,and_true,caseB_iff,Prod.mk.injEq,decide_eq_true_eq,decide_eq_false_iff_not,Bool.not_eq_true',Bool.not_eq_false',bne_iff_ne,ne_eq,beq_iff_eq,Bool.not_true,Bool.not_false,beq_eq_false_iff_ne,bne_eq_false_iff_eq,List.length_append,List.length_cons,List.length_nil,List.append_nil,Nat.zero_add,decide_true,decide_false,eq_self_iff_true,Prod.eta,List.map_cons,List.map_nil]
 obtain⟨hp,hd⟩:=h
 refine⟨hp,fun h1=>?_,fun h1=>?_⟩
 · unfold fShSt;rw [if_neg (by rw [h1];decide)]
 have K:=st_parts h1
 have fin:shAll a0=fShSt a0:=by unfold fShSt;rw [if_pos h1]
 have eK:IntKind.wrap .u8 a0.1=a0.1:=by rcases K.kind with e | e<;>rw [e]<;>rfl
 rw [eK]
 have v:∀n,(fVar n).length≤7:=fVar_length
 have v1:=v a0.2.1
 have v2:=v a0.2.2.1
 have v3:=v a0.2.2.2.1.length
 refine⟨by omega,by omega,by omega,⟨rfl,by omega,by omega,by simp [sh1],by simp only [List.length_append,List.length_cons,List.length_nil];omega⟩,?_⟩
 rintro⟨out,i,k,hh,m,b,f,c,g,s⟩ ⟨ea,q1,q2,q3,q4⟩
 simp only at ea q1 q2 q3 q4 ⊢
 subst ea
 simp only at*
 have n1:=K.nb
 have n2:=K.nf
 have n3:=K.ns
 simp only at n1 n2 n3
 refine⟨fun hi=>?_,fun hi=>?_⟩
 · have st:=fm_step shB (0,0) q1 hi
   generalize b.getD i.toNat (0,0)=x at st ⊢
   have w1:=v x.1
   have w2:=v x.2
   rw [w64 (x:=i+1) (by omega) (by omega)]
   refine⟨q1,hi,by omega,q1,hi,by omega,⟨rfl,by omega,by omega,by rw [q3,st];simp [shB],by simp only [List.length_append];omega⟩,by unfold h1M;omega⟩
 have u1:=v f
 have u2:=pce_len (fFileText c)
 have u3:=text_len2 c
 have u4:=v g.length
 have full:b.take i.toNat=b:=by rw [show i.toNat=b.length by omega,List.take_length]
 rw [full] at q3
 refine⟨by omega,hp.1.1,by unfold pPce;omega,by omega,by omega,⟨rfl,by omega,by omega,by rw [q3];simp [sh2],by simp only [List.length_append];omega⟩,?_⟩
 rintro⟨out2,i2,k2,hh2,m2,b2,f2,c2,g2,s2⟩ ⟨ea,r1,r2,r3,r4⟩
 simp only at ea r1 r2 r3 r4 ⊢
 obtain⟨rfl,rfl,rfl,rfl,⟨rfl,rfl,rfl⟩,rfl⟩:k=k2∧hh=hh2∧m=m2∧b=b2∧(f=f2∧c=c2∧g=g2)∧s=s2:=by
  simp only [Prod.mk.injEq] at ea;exact⟨ea.1,ea.2.1,ea.2.2.1,ea.2.2.2.1,⟨ea.2.2.2.2.1.1,ea.2.2.2.2.1.2.1,ea.2.2.2.2.1.2.2⟩,ea.2.2.2.2.2⟩
 refine⟨fun hi2=>?_,fun hi2=>?_⟩
 · have st:=fm_step fPce [] r1 hi2
   have w0:=K.fl _ (getD_mem (d:=([]:Str)) (by omega:i2.toNat<g.length))
   generalize g.getD i2.toNat []=x at st w0 ⊢
   have w1:=pce_len x
   rw [w64 (x:=i2+1) (by omega) (by omega)]
   refine⟨r1,hi2,by unfold pPce;omega,by omega,⟨rfl,by omega,by omega,by rw [r3,st];simp,by simp only [List.length_append];omega⟩,by unfold h2M;omega⟩
 have full2:g.take i2.toNat=g:=by rw [show i2.toNat=g.length by omega,List.take_length]
 rw [full2] at r3
 have u5:=v s.length
 refine⟨by omega,⟨rfl,by omega,by omega,by rw [r3];simp,by simp only [List.length_append];omega⟩,?_⟩
 rintro⟨out3,i3,k3,hh3,m3,b3,f3,c3,g3,s3⟩ ⟨ea,t1,t2,t3,t4⟩
 simp only at ea t1 t2 t3 t4 ⊢
 obtain⟨rfl,rfl,rfl,rfl,⟨rfl,rfl,rfl⟩,rfl⟩:k=k3∧hh=hh3∧m=m3∧b=b3∧(f=f3∧c=c3∧g=g3)∧s=s3:=by
  simp only [Prod.mk.injEq] at ea;exact⟨ea.1,ea.2.1,ea.2.2.1,ea.2.2.2.1,⟨ea.2.2.2.2.1.1,ea.2.2.2.2.1.2.1,ea.2.2.2.2.1.2.2⟩,ea.2.2.2.2.2⟩
 refine⟨fun hi3=>?_,fun hi3=>?_⟩
 · have st:=fm_step shS (0,(0,(0,(0,(0,[]))))) t1 hi3
   generalize s.getD i3.toNat (0,(0,(0,(0,(0,[])))))=x at st ⊢
   have w1:=v x.1
   have w2:=v x.2.1
   have w3:=shAns_len x.2.2
   have w4:=pce_len (fShAns x.2.2)
   have w5:=shS_len x
   rw [w64 (x:=i3+1) (by omega) (by omega)]
   refine⟨t1,hi3,by omega,t1,hi3,by omega,t1,hi3,by unfold pPce;omega,by omega,⟨rfl,by omega,by omega,by rw [t3,st];simp [shS],by simp only [List.length_append];omega⟩,by unfold h3M;omega⟩
 have full3:s.take i3.toNat=s:=by rw [show i3.toNat=s.length by omega,List.take_length]
 rw [full3] at t3
 rw [t3,←fin];rfl
set_option maxRecDepth 100000 in
theorem spec_ShowState.eq:EqS c_spec_ShowState Tryz.f44 [9] [spec_StateOk.e,spec_Var.e,spec_l14Text.e,spec_FileText.e,spec_ShowAnswer.e] [] (fun i x=>spec_ShowState.L x) (fun i x=>spec_ShowState.F x):=by intro i x;kernel_rfl
theorem spec_ShowState.ok:ConOk Tryz.prog 44 c_spec_ShowState:=okOf spec_ShowState.eq Tryz.func44 rfl (by kernel_rfl) fun i x h hi hw=>spec_ShowState.pure x h hw
def spec_ShowState.e:GE:=⟨44,c_spec_ShowState,⟨_,Tryz.func44,rfl,rfl⟩,spec_ShowState.ok⟩
end Go.Proofs.YtnoapekdbmpiaaaGreat.B
