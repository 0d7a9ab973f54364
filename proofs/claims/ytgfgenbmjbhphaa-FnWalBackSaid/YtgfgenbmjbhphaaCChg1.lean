/- Records:shown,read,stepped. -/
import Derived.Test.YtgfgenbmjbhphaaCChg0
import Derived.Test.YtgfgenbmjbhphaaCSame
namespace Go.Proofs.Ytgfgenbmjbhphaa.B
set_option linter.unusedVariables false
set_option linter.unusedSimpArgs false
open Go Go.Proofs.Ytgfgenbmjbhphaa.Bv
def fIdEnt (l:List Ent):List Ent:=l
def pIdEnt (l:List Ent):Prop:=l.length≤1099511627776
def fIdW (w:Wal):Wal:=w
def pIdW (w:Wal):Prop:=w.2.2.2.2.length≤1099511627776
theorem walOk_len {w:Wal} (h:fWalOk w=true):w.2.2.2.2.length≤60∧0≤w.2.2.1∧w.2.2.1≤100000:=by
 obtain⟨h1,h2,h3,h4,h5,h6,h7⟩:=walOk_iff.1 h
 have:=fPlace_in h3
 omega
def pEnts (l:List Ent) (first:Int):Prop:=l.length≤100000∧0≤first∧first≤1000000
theorem entryRecs_app:∀(l r:List Ent) (n:Int),fEntryRecs (l++r) n=fEntryRecs l n++fEntryRecs r (n+l.length)
 | [],r,n=>by simp [fEntryRecs]
 | e::l,r,n=>by
   simp only [List.cons_append,fEntryRecs,entryRecs_app l r,List.length_cons]
   rw [show n+1+(l.length:Int)=n+((l.length+1:Nat):Int) by omega]
theorem entryRecs_len:∀(l:List Ent) (n:Int),(fEntryRecs l n).length=l.length
 | [],_=>rfl
 | e::l,n=>by simp [fEntryRecs,entryRecs_len l]
structure erI (l:List Ent) (first i:Int) (out:List Rec):Prop where
 h1:0≤i
 h2:i≤l.length
 h3:out=fEntryRecs (l.take i.toNat) first
def erM (l:List Ent) (first i:Int) (out:List Rec):Nat:=(l.length - i).toNat
theorem er_step {l:List Ent} {first i:Int} {out:List Rec} (h:erI l first i out) (hi:i<l.length):erI l first (i+1) (out++[(2,((l.getD i.toNat (0,[])).1,(first+i,(0,(l.getD i.toNat (0,[])).2))))]):=by
 obtain⟨h1,h2,h3⟩:=h
 refine⟨by omega,by omega,?_⟩
 rw [tn1 h1,take_getD (0,[]) (by omega),entryRecs_app,h3,List.length_take,show ((min i.toNat l.length:Nat):Int)=i by omega];rfl
theorem er_end {l:List Ent} {first i:Int} {out:List Rec} (h:erI l first i out) (hi:¬i<l.length):out=fEntryRecs l first:=by
 obtain⟨h1,h2,h3⟩:=h
 rw [h3,show i.toNat=l.length by omega,List.take_length]
structure spJ (a b:List Ent) (k:Int):Prop where
 h1:0≤k
 h2:k≤a.length∧k≤b.length
 h3:k.toNat+samePre (a.drop k.toNat) (b.drop k.toNat)=samePre a b
def c_slices_Clone_impl_Entry_impl_Entry:Con:={A:=(.list (.pair (.int .i64) .str)),shA:=[.one],R:=(.list (.pair (.int .i64) .str)),shR:=[(false,1)],fresh:=[(0,53)],pre:=fun _ a=>(pIdEnt a),f:=some fun _ a=>((fIdEnt a),((),()))}
def slices_Clone_impl_Entry_impl_Entry.F (a0:(List (Int×(List UInt8)))):Prop:=(∀(b1:Bool),(b1=true→a0=[])→(caseB b1 (Eq (([]:(List (Int×(List UInt8)))),((),())) ((fIdEnt a0),((),()))) (List.length ([]:List (Int×(List UInt8)))+List.length a0≤9223372036854775807∧((List.length ([]:List (Int×(List UInt8)))+List.length a0)*24≤140737488355328∧(Eq ((([]:List (Int×(List UInt8)))++a0),((),())) ((fIdEnt a0),((),())))))))
theorem slices_Clone_impl_Entry_impl_Entry.pure (a0:(List (Int×(List UInt8)))) (h:(pIdEnt a0)) (hw:Wf c_slices_Clone_impl_Entry_impl_Entry.A a0):slices_Clone_impl_Entry_impl_Entry.F a0:=by
 unfold slices_Clone_impl_Entry_impl_Entry.F
 have hp:a0.length≤1099511627776:=h
 simp only [forall_eq,true_and,and_true,caseB_iff,Prod.mk.injEq,decide_eq_true_eq,decide_eq_false_iff_not,Bool.not_eq_true',Bool.not_eq_false',bne_iff_ne,ne_eq,beq_iff_eq,Bool.not_true,Bool.not_false,beq_eq_false_iff_ne,bne_eq_false_iff_eq,List.length_append,List.length_cons,List.length_nil,List.append_nil,Nat.zero_add,decide_true,decide_false,eq_self_iff_true,fIdEnt,pIdEnt]
 repeat' (with_reducible (first | (refine And.intro ?_ ?_) | intro _))
 all_goals (try simp (disch:=omega) only [w64,wu8,tn0,tn1,tm1,tm2,List.length_append,List.length_cons,List.length_nil] at*)
 all_goals (try simp (disch:=omega) only [w64,wu8,tn0,tn1,tm1,tm2,List.length_append,List.length_cons,List.length_nil] at*)
 all_goals (try omega)
 all_goals (try grind [])
 all_goals (try simp_all)
set_option maxRecDepth 100000 in
theorem slices_Clone_impl_Entry_impl_Entry.eq:EqS c_slices_Clone_impl_Entry_impl_Entry Try.f46 [24] [] [] noL (fun i x=>slices_Clone_impl_Entry_impl_Entry.F x):=by intro i x;kernel_rfl
theorem slices_Clone_impl_Entry_impl_Entry.ok:ConOk Try.prog 46 c_slices_Clone_impl_Entry_impl_Entry:=okOf slices_Clone_impl_Entry_impl_Entry.eq Try.func46 rfl (by kernel_rfl) fun i x h hi hw=>slices_Clone_impl_Entry_impl_Entry.pure x h hw
def slices_Clone_impl_Entry_impl_Entry.e:GE:=⟨46,c_slices_Clone_impl_Entry_impl_Entry,⟨_,Try.func46,rfl,rfl⟩,slices_Clone_impl_Entry_impl_Entry.ok⟩
def c_impl_copyWal:Con:={A:=(.pair (.int .i64) (.pair (.int .i64) (.pair (.int .i64) (.pair (.int .i64) (.list (.pair (.int .i64) .str)))))),shA:=[.agg 5],R:=(.pair (.int .i64) (.pair (.int .i64) (.pair (.int .i64) (.pair (.int .i64) (.list (.pair (.int .i64) .str)))))),shR:=[(true,5)],fresh:=[(4,53)],pre:=fun _ a=>(pIdW a),f:=some fun _ a=>((fIdW a),((),()))}
def impl_copyWal.F (a0:(Int×(Int×(Int×(Int×(List (Int×(List UInt8)))))))):Prop:=((pIdEnt a0.2.2.2.2)∧∀r1,(Eq r1 ((fIdEnt a0.2.2.2.2),((),())))→(Eq ((a0.1,(a0.2.1,(a0.2.2.1,(a0.2.2.2.1,r1.1)))),((),())) ((fIdW a0),((),()))))
theorem impl_copyWal.pure (a0:(Int×(Int×(Int×(Int×(List (Int×(List UInt8)))))))) (h:(pIdW a0)) (hw:Wf c_impl_copyWal.A a0):impl_copyWal.F a0:=by
 unfold impl_copyWal.F
 simp only [forall_eq,true_and,and_true,caseB_iff,Prod.mk.injEq,decide_eq_true_eq,decide_eq_false_iff_not,Bool.not_eq_true',Bool.not_eq_false',bne_iff_ne,ne_eq,beq_iff_eq,Bool.not_true,Bool.not_false,beq_eq_false_iff_ne,bne_eq_false_iff_eq,List.length_append,List.length_cons,List.length_nil,List.append_nil,Nat.zero_add,decide_true,decide_false,eq_self_iff_true,fIdEnt,pIdEnt,fIdW,Prod.eta]
 have hp:a0.2.2.2.2.length≤1099511627776:=h
 first | exact hp | exact⟨hp,rfl⟩
set_option maxRecDepth 100000 in
theorem impl_copyWal.eq:EqS c_impl_copyWal Try.f26 [26] [slices_Clone_impl_Entry_impl_Entry.e] [] noL (fun i x=>impl_copyWal.F x):=by intro i x;kernel_rfl
theorem impl_copyWal.ok:ConOk Try.prog 26 c_impl_copyWal:=okOf impl_copyWal.eq Try.func26 rfl (by kernel_rfl) fun i x h hi hw=>impl_copyWal.pure x h hw
def impl_copyWal.e:GE:=⟨26,c_impl_copyWal,⟨_,Try.func26,rfl,rfl⟩,impl_copyWal.ok⟩
def c_impl_RecOk:Con:={A:=(.pair (.int .i64) (.pair (.int .i64) (.pair (.int .i64) (.pair (.int .i64) .str)))),shA:=[.agg 5],R:=.bool,shR:=[(false,1)],pre:=fun _ _=>True,f:=some fun _ a=>((fRecOk a),((),()))}
def impl_RecOk.F (a0:(Int×(Int×(Int×(Int×(List UInt8)))))):Prop:=(caseB (a0.1==(1:Int)) (True∧∀r1,(Eq r1 ((fIn a0.2.1 0 100000),((),())))→(caseB r1.1 (True∧∀r2,(Eq r2 ((fIsVote a0.2.2.2.1),((),())))→(caseB r2.1 (caseB (a0.2.2.1==(0:Int)) (Eq ((a0.2.2.2.2==[]),((),())) ((fRecOk a0),((),()))) (Eq (false,((),())) ((fRecOk a0),((),())))) (Eq (false,((),())) ((fRecOk a0),((),()))))) (Eq (false,((),())) ((fRecOk a0),((),()))))) (caseB (a0.1==(2:Int)) (True∧∀r3,(Eq r3 ((fIsTerm a0.2.1),((),())))→(caseB r3.1 (True∧∀r4,(Eq r4 ((fIn a0.2.2.1 1 100000),((),())))→(caseB r4.1 (caseB (decide ((ln a0.2.2.2.2)≤(900:Int))) (Eq ((a0.2.2.2.1==(0:Int)),((),())) ((fRecOk a0),((),()))) (Eq (false,((),())) ((fRecOk a0),((),())))) (Eq (false,((),())) ((fRecOk a0),((),()))))) (Eq (false,((),())) ((fRecOk a0),((),()))))) (caseB (a0.1==(3:Int)) (True∧∀r5,(Eq r5 ((fIn a0.2.2.1 1 100000),((),())))→(caseB r5.1 (caseB (a0.2.1==(0:Int)) (caseB (a0.2.2.2.1==(0:Int)) (Eq ((a0.2.2.2.2==[]),((),())) ((fRecOk a0),((),()))) (Eq (false,((),())) ((fRecOk a0),((),())))) (Eq (false,((),())) ((fRecOk a0),((),())))) (Eq (false,((),())) ((fRecOk a0),((),()))))) (caseB (a0.1==(4:Int)) (True∧∀r6,(Eq r6 ((fPlace a0.2.2.1 a0.2.1),((),())))→(caseB r6.1 (caseB (a0.2.2.2.1==(0:Int)) (Eq ((a0.2.2.2.2==[]),((),())) ((fRecOk a0),((),()))) (Eq (false,((),())) ((fRecOk a0),((),())))) (Eq (false,((),())) ((fRecOk a0),((),()))))) (Eq (false,((),())) ((fRecOk a0),((),())))))))
theorem impl_RecOk.pure (a0:(Int×(Int×(Int×(Int×(List UInt8)))))) (h:True) (hw:Wf c_impl_RecOk.A a0):impl_RecOk.F a0:=by
 delta impl_RecOk.F ln
 simp only [forall_eq,true_and,and_true,caseB_iff,Prod.mk.injEq,decide_eq_true_eq,decide_eq_false_iff_not,Bool.not_eq_true',Bool.not_eq_false',bne_iff_ne,ne_eq,beq_iff_eq,Bool.not_true,Bool.not_false,beq_eq_false_iff_ne,bne_eq_false_iff_eq,List.length_append,List.length_cons,List.length_nil,List.append_nil,Nat.zero_add,decide_true,decide_false,eq_self_iff_true]
 repeat' (with_reducible (first | (refine And.intro ?_ ?_) | intro _))
 all_goals (try simp (disch:=omega) only [w64,wu8,tn0,tn1,tm1,tm2,List.length_append,List.length_cons,List.length_nil] at*)
 all_goals (try simp (disch:=omega) only [w64,wu8,tn0,tn1,tm1,tm2,List.length_append,List.length_cons,List.length_nil] at*)
 all_goals (try omega)
 all_goals (try grind [fRecOk])
set_option maxRecDepth 100000 in
theorem impl_RecOk.eq:EqS c_impl_RecOk Try.f27 [4] [impl_from.e,impl_isVote.e,impl_isPlace.e,impl_isTerm.e] [] noL (fun i x=>impl_RecOk.F x):=by intro i x;kernel_rfl
theorem impl_RecOk.ok:ConOk Try.prog 27 c_impl_RecOk:=okOf impl_RecOk.eq Try.func27 rfl (by kernel_rfl) fun i x h hi hw=>impl_RecOk.pure x h hw
def impl_RecOk.e:GE:=⟨27,c_impl_RecOk,⟨_,Try.func27,rfl,rfl⟩,impl_RecOk.ok⟩
def c_impl_ShowRec:Con:={A:=(.pair (.int .i64) (.pair (.int .i64) (.pair (.int .i64) (.pair (.int .i64) .str)))),shA:=[.agg 5],R:=.str,shR:=[(false,1)],pre:=fun _ _=>True,f:=some fun _ a=>((fShowRec a),((),()))}
def impl_ShowRec.F (a0:(Int×(Int×(Int×(Int×(List UInt8)))))):Prop:=(True∧∀r1,(Eq r1 ((fRecOk (a0.1,(a0.2.1,(a0.2.2.1,(a0.2.2.2.1,a0.2.2.2.2))))),((),())))→(caseB (!r1.1) (Eq ([],((),())) ((fShowRec a0),((),()))) (True∧∀r2,(Eq r2 ((fVar a0.2.1),((),())))→(List.length (List.map (fun n=>UInt8.ofNat (Int.toNat n)) [(IntKind.wrap .u8 a0.1)])+List.length r2.1≤9223372036854775807∧(True∧∀r3,(Eq r3 ((fVar a0.2.2.1),((),())))→(List.length ((List.map (fun n=>UInt8.ofNat (Int.toNat n)) [(IntKind.wrap .u8 a0.1)])++r2.1)+List.length r3.1≤9223372036854775807∧(True∧∀r4,(Eq r4 ((fVar (wI (a0.2.2.2.1+(1:Int)))),((),())))→(List.length (((List.map (fun n=>UInt8.ofNat (Int.toNat n)) [(IntKind.wrap .u8 a0.1)])++r2.1)++r3.1)+List.length r4.1≤9223372036854775807∧(List.length ((((List.map (fun n=>UInt8.ofNat (Int.toNat n)) [(IntKind.wrap .u8 a0.1)])++r2.1)++r3.1)++r4.1)+List.length a0.2.2.2.2≤9223372036854775807∧(Eq ((((((List.map (fun n=>UInt8.ofNat (Int.toNat n)) [(IntKind.wrap .u8 a0.1)])++r2.1)++r3.1)++r4.1)++a0.2.2.2.2),((),())) ((fShowRec a0),((),()))))))))))))
theorem impl_ShowRec.pure (a0:(Int×(Int×(Int×(Int×(List UInt8)))))) (h:True) (hw:Wf c_impl_ShowRec.A a0):impl_ShowRec.F a0:=by
 delta impl_ShowRec.F wI
 simp only [forall_eq,true_and,and_true,caseB_iff,Prod.mk.injEq,decide_eq_true_eq,decide_eq_false_iff_not,Bool.not_eq_true',Bool.not_eq_false',bne_iff_ne,ne_eq,beq_iff_eq,Bool.not_true,Bool.not_false,beq_eq_false_iff_ne,bne_eq_false_iff_eq,List.length_append,List.length_cons,List.length_nil,List.append_nil,Nat.zero_add,decide_true,decide_false,eq_self_iff_true,Prod.eta]
 refine⟨fun h1=>?_,fun h1=>?_⟩
 · unfold fShowRec;rw [if_neg (by rw [h1];decide)]
 · obtain⟨q1,q2,q3,q4,q5⟩:=recOk_in h1
   have v1:=fVar_length a0.2.1
   have v2:=fVar_length a0.2.2.1
   have v3:=fVar_length (a0.2.2.2.1+1)
   have e:fShowRec a0=byteR a0.1++(fVar a0.2.1++(fVar a0.2.2.1++(fVar (a0.2.2.2.1+1)++a0.2.2.2.2))):=by unfold fShowRec;rw [if_pos h1]
   rw [w64 (x:=a0.2.2.2.1+1) (by omega) (by omega),e]
   refine⟨by simp only [List.length_map,List.length_cons,List.length_nil];omega,by simp only [List.length_append,List.length_map,List.length_cons,List.length_nil];omega,by simp only [List.length_append,List.length_map,List.length_cons,List.length_nil];omega,by simp only [List.length_append,List.length_map,List.length_cons,List.length_nil];omega,?_⟩
   unfold byteR
   simp only [List.append_assoc]
set_option maxRecDepth 100000 in
theorem impl_ShowRec.eq:EqS c_impl_ShowRec Try.f11 [9] [impl_RecOk.e,impl_Var.e] [] noL (fun i x=>impl_ShowRec.F x):=by intro i x;kernel_rfl
theorem impl_ShowRec.ok:ConOk Try.prog 11 c_impl_ShowRec:=okOf impl_ShowRec.eq Try.func11 rfl (by kernel_rfl) fun i x h hi hw=>impl_ShowRec.pure x h hw
def impl_ShowRec.e:GE:=⟨11,c_impl_ShowRec,⟨_,Try.func11,rfl,rfl⟩,impl_ShowRec.ok⟩
def c_impl_ReadRec:Con:={A:=.str,shA:=[.one],R:=(.pair (.pair (.int .i64) (.pair (.int .i64) (.pair (.int .i64) (.pair (.int .i64) .str)))) .bool),shR:=[(true,5),(false,1)],pre:=fun _ a=>(pStr a),f:=some fun _ a=>((fReadRec a),((),()))}
def impl_ReadRec.F (a0:(List UInt8)):Prop:=(True∧∀r1,(Eq r1 ((fKind (a0,true)).1,((fKind (a0,true)).2,())))→(True∧∀r2,(Eq r2 ((fNum (r1.2.1.1,r1.2.1.2)).1,((fNum (r1.2.1.1,r1.2.1.2)).2,())))→(True∧∀r3,(Eq r3 ((fNum (r2.2.1.1,r2.2.1.2)).1,((fNum (r2.2.1.1,r2.2.1.2)).2,())))→(True∧∀r4,(Eq r4 ((fNum (r3.2.1.1,r3.2.1.2)).1,((fNum (r3.2.1.1,r3.2.1.2)).2,())))→(caseB (!r4.2.1.2) (Eq (((0,(0,(0,(0,[])))),false),((),())) ((fReadRec a0),((),()))) (True∧∀r5,(Eq r5 ((fShowRec (r1.1,(r2.1,(r3.1,((wI (r4.1 - (1:Int))),r4.2.1.1))))),((),())))→(caseB (!(r5.1==a0)) (Eq (((0,(0,(0,(0,[])))),false),((),())) ((fReadRec a0),((),()))) (Eq (((r1.1,(r2.1,(r3.1,((wI (r4.1 - (1:Int))),r4.2.1.1)))),true),((),())) ((fReadRec a0),((),()))))))))))
theorem impl_ReadRec.pure (a0:(List UInt8)) (h:(pStr a0)) (hw:Wf c_impl_ReadRec.A a0):impl_ReadRec.F a0:=by
 delta impl_ReadRec.F wI
 simp only [forall_eq,true_and,and_true,caseB_iff,Prod.mk.injEq,decide_eq_true_eq,decide_eq_false_iff_not,Bool.not_eq_true',Bool.not_eq_false',bne_iff_ne,ne_eq,beq_iff_eq,Bool.not_true,Bool.not_false,beq_eq_false_iff_ne,bne_eq_false_iff_eq,List.length_append,List.length_cons,List.length_nil,List.append_nil,Nat.zero_add,decide_true,decide_false,eq_self_iff_true,Prod.eta]
 have hn:=num_in (fNum (fNum (fKind (a0,true)).2).2).2
 rw [w64 (x:=(fNum (fNum (fNum (fKind (a0,true)).2).2).2).1 - 1) (by omega) (by omega)]
 refine⟨fun h1=>?_,fun h1=>⟨fun h2=>?_,fun h2=>?_⟩⟩
 · unfold fReadRec
   rw [if_neg];· rfl
   rintro⟨h,_⟩;unfold decR at h;simp only at h;rw [h1] at h;cases h
 · unfold fReadRec
   rw [if_neg];· rfl
   rintro⟨_,h⟩;exact h2 h
 · unfold fReadRec
   rw [if_pos ⟨h1,h2⟩];rfl
set_option maxRecDepth 100000 in
theorem impl_ReadRec.eq:EqS c_impl_ReadRec Try.f10 [35,4] [impl_ShowRec.e,impl_rd_kind.e,impl_rd_num.e] [] noL (fun i x=>impl_ReadRec.F x):=by intro i x;kernel_rfl
theorem impl_ReadRec.ok:ConOk Try.prog 10 c_impl_ReadRec:=okOf impl_ReadRec.eq Try.func10 rfl (by kernel_rfl) fun i x h hi hw=>impl_ReadRec.pure x h hw
def impl_ReadRec.e:GE:=⟨10,c_impl_ReadRec,⟨_,Try.func10,rfl,rfl⟩,impl_ReadRec.ok⟩
def c_impl_lastTerm:Con:={A:=(.pair (.int .i64) (.pair (.int .i64) (.pair (.int .i64) (.pair (.int .i64) (.list (.pair (.int .i64) .str)))))),shA:=[.agg 5],R:=(.int .i64),shR:=[(false,1)],pre:=fun _ _=>True,f:=some fun _ a=>((fLastTerm a),((),()))}
def impl_lastTerm.F (a0:(Int×(Int×(Int×(Int×(List (Int×(List UInt8)))))))):Prop:=(caseB ((ln a0.2.2.2.2)==(0:Int)) (Eq (a0.2.2.2.1,((),())) ((fLastTerm a0),((),()))) (0≤(wI ((ln a0.2.2.2.2) - (1:Int)))∧((wI ((ln a0.2.2.2.2) - (1:Int)))<(ln a0.2.2.2.2)∧(Eq ((List.getD a0.2.2.2.2 (tN (wI ((ln a0.2.2.2.2) - (1:Int)))) (0,[])).1,((),())) ((fLastTerm a0),((),()))))))
theorem impl_lastTerm.pure (a0:(Int×(Int×(Int×(Int×(List (Int×(List UInt8)))))))) (h:True) (hw:Wf c_impl_lastTerm.A a0):impl_lastTerm.F a0:=by
 delta impl_lastTerm.F ln tN wI
 have hw0:a0.2.2.2.2.length≤maxLen:=hw.2.2.2.2.1
 unfold maxLen at hw0
 simp only [forall_eq,true_and,and_true,caseB_iff,Prod.mk.injEq,decide_eq_true_eq,decide_eq_false_iff_not,Bool.not_eq_true',Bool.not_eq_false',bne_iff_ne,ne_eq,beq_iff_eq,Bool.not_true,Bool.not_false,beq_eq_false_iff_ne,bne_eq_false_iff_eq,List.length_append,List.length_cons,List.length_nil,List.append_nil,Nat.zero_add,decide_true,decide_false,eq_self_iff_true,Prod.eta]
 repeat' (with_reducible (first | (refine And.intro ?_ ?_) | intro _))
 all_goals (try simp (disch:=omega) only [w64,wu8,tn0,tn1,tm1,tm2,List.length_append,List.length_cons,List.length_nil] at*)
 all_goals (try simp (disch:=omega) only [w64,wu8,tn0,tn1,tm1,tm2,List.length_append,List.length_cons,List.length_nil] at*)
 all_goals (try omega)
 all_goals (try grind [fLastTerm])
set_option maxRecDepth 100000 in
theorem impl_lastTerm.eq:EqS c_impl_lastTerm Try.f29 [3] [] [] noL (fun i x=>impl_lastTerm.F x):=by intro i x;kernel_rfl
theorem impl_lastTerm.ok:ConOk Try.prog 29 c_impl_lastTerm:=okOf impl_lastTerm.eq Try.func29 rfl (by kernel_rfl) fun i x h hi hw=>impl_lastTerm.pure x h hw
def impl_lastTerm.e:GE:=⟨29,c_impl_lastTerm,⟨_,Try.func29,rfl,rfl⟩,impl_lastTerm.ok⟩
def c_impl_hardFits:Con:={A:=(.pair (.pair (.int .i64) (.pair (.int .i64) (.pair (.int .i64) (.pair (.int .i64) (.list (.pair (.int .i64) .str)))))) (.pair (.int .i64) (.int .i64))),shA:=[.agg 5,.one,.one],R:=.bool,shR:=[(false,1)],pre:=fun _ _=>True,f:=some fun _ a=>((fHardFits a.1 a.2.1 a.2.2),((),()))}
def impl_hardFits.F (a0:(Int×(Int×(Int×(Int×(List (Int×(List UInt8)))))))) (a1:Int) (a2:Int):Prop:=(caseB (decide (a1>a0.1)) (Eq (true,((),())) ((fHardFits a0 a1 a2),((),()))) (caseB (a1==a0.1) (caseB (a0.2.1==((-1):Int)) (Eq (true,((),())) ((fHardFits a0 a1 a2),((),()))) (Eq ((a0.2.1==a2),((),())) ((fHardFits a0 a1 a2),((),())))) (Eq (false,((),())) ((fHardFits a0 a1 a2),((),())))))
theorem impl_hardFits.pure (a0:(Int×(Int×(Int×(Int×(List (Int×(List UInt8)))))))) (a1:Int) (a2:Int) (h:True) (hw:Wf c_impl_hardFits.A (a0,a1,a2)):impl_hardFits.F a0 a1 a2:=by
 unfold impl_hardFits.F
 simp only [forall_eq,true_and,and_true,caseB_iff,Prod.mk.injEq,decide_eq_true_eq,decide_eq_false_iff_not,Bool.not_eq_true',Bool.not_eq_false',bne_iff_ne,ne_eq,beq_iff_eq,Bool.not_true,Bool.not_false,beq_eq_false_iff_ne,bne_eq_false_iff_eq,List.length_append,List.length_cons,List.length_nil,List.append_nil,Nat.zero_add,decide_true,decide_false,eq_self_iff_true,Prod.eta]
 repeat' (with_reducible (first | (refine And.intro ?_ ?_) | intro _))
 all_goals (try simp (disch:=omega) only [w64,wu8,tn0,tn1,tm1,tm2,List.length_append,List.length_cons,List.length_nil] at*)
 all_goals (try simp (disch:=omega) only [w64,wu8,tn0,tn1,tm1,tm2,List.length_append,List.length_cons,List.length_nil] at*)
 all_goals (try omega)
 all_goals (try grind [fHardFits])
set_option maxRecDepth 100000 in
theorem impl_hardFits.eq:EqS c_impl_hardFits Try.f23 [4] [] [] noL (fun i x=>impl_hardFits.F x.1 x.2.1 x.2.2):=by intro i x;kernel_rfl
theorem impl_hardFits.ok:ConOk Try.prog 23 c_impl_hardFits:=okOf impl_hardFits.eq Try.func23 rfl (by kernel_rfl) fun i x h hi hw=>impl_hardFits.pure x.1 x.2.1 x.2.2 h hw
def impl_hardFits.e:GE:=⟨23,c_impl_hardFits,⟨_,Try.func23,rfl,rfl⟩,impl_hardFits.ok⟩
def c_impl_WalStep:Con:={A:=(.pair (.pair (.int .i64) (.pair (.int .i64) (.pair (.int .i64) (.pair (.int .i64) (.list (.pair (.int .i64) .str)))))) (.pair (.int .i64) (.pair (.int .i64) (.pair (.int .i64) (.pair (.int .i64) .str))))),shA:=[.agg 5,.agg 5],R:=(.pair (.pair (.int .i64) (.pair (.int .i64) (.pair (.int .i64) (.pair (.int .i64) (.list (.pair (.int .i64) .str)))))) .bool),shR:=[(true,5),(false,1)],pre:=fun _ _=>True,f:=some fun _ a=>((fWalStep a.1 a.2),((),()))}
def impl_WalStep.F (a0:(Int×(Int×(Int×(Int×(List (Int×(List UInt8)))))))) (a1:(Int×(Int×(Int×(Int×(List UInt8)))))):Prop:=(True∧∀r1,(Eq r1 ((fWalOk (a0.1,(a0.2.1,(a0.2.2.1,(a0.2.2.2.1,a0.2.2.2.2))))),((),())))→(caseB (!r1.1) (Eq (((0,(0,(0,(0,([]:(List (Int×(List UInt8)))))))),false),((),())) ((fWalStep a0 a1),((),()))) ((pIdW (a0.1,(a0.2.1,(a0.2.2.1,(a0.2.2.2.1,a0.2.2.2.2)))))∧∀r2,(Eq r2 ((fIdW (a0.1,(a0.2.1,(a0.2.2.1,(a0.2.2.2.1,a0.2.2.2.2))))),((),())))→(True∧∀r3,(Eq r3 ((fRecOk (a1.1,(a1.2.1,(a1.2.2.1,(a1.2.2.2.1,a1.2.2.2.2))))),((),())))→(caseB (!r3.1) (Eq (((r2.1.1,(r2.1.2.1,(r2.1.2.2.1,(r2.1.2.2.2.1,r2.1.2.2.2.2)))),false),((),())) ((fWalStep a0 a1),((),()))) (caseB (a1.1==(1:Int)) (True∧∀r4,(Eq r4 ((fHardFits (r2.1.1,(r2.1.2.1,(r2.1.2.2.1,(r2.1.2.2.2.1,r2.1.2.2.2.2)))) a1.2.1 a1.2.2.2.1),((),())))→(caseB r4.1 (Eq (((a1.2.1,(a1.2.2.2.1,(r2.1.2.2.1,(r2.1.2.2.2.1,r2.1.2.2.2.2)))),true),((),())) ((fWalStep a0 a1),((),()))) (caseB (a1.1==(2:Int)) (caseB (a1.2.2.1==(wI ((wI (r2.1.2.2.1+(ln r2.1.2.2.2.2)))+(1:Int)))) (caseB (decide ((ln r2.1.2.2.2.2)<(60:Int))) (True∧∀r5,(Eq r5 ((fLastTerm (r2.1.1,(r2.1.2.1,(r2.1.2.2.1,(r2.1.2.2.2.1,r2.1.2.2.2.2))))),((),())))→(True∧∀r6,(Eq r6 ((fIn a1.2.1 r5.1 r2.1.1),((),())))→(caseB r6.1 (List.length r2.1.2.2.2.2+List.length [(a1.2.1,a1.2.2.2.2)]≤9223372036854775807∧((List.length r2.1.2.2.2.2+List.length [(a1.2.1,a1.2.2.2.2)])*24≤140737488355328∧(Eq (((r2.1.1,(r2.1.2.1,(r2.1.2.2.1,(r2.1.2.2.2.1,(r2.1.2.2.2.2++[(a1.2.1,a1.2.2.2.2)]))))),true),((),())) ((fWalStep a0 a1),((),()))))) (caseB (a1.1==(3:Int)) (True∧∀r7,(Eq r7 ((fIn a1.2.2.1 (wI (r2.1.2.2.1+(1:Int))) (wI (r2.1.2.2.1+(ln r2.1.2.2.2.2)))),((),())))→(caseB r7.1 (0≤(wI ((wI (a1.2.2.1 - r2.1.2.2.1)) - (1:Int)))∧((wI ((wI (a1.2.2.1 - r2.1.2.2.1)) - (1:Int)))≤(ln r2.1.2.2.2.2)∧(Eq (((r2.1.1,(r2.1.2.1,(r2.1.2.2.1,(r2.1.2.2.2.1,(List.drop 0 (List.take (tN (wI ((wI (a1.2.2.1 - r2.1.2.2.1)) - (1:Int)))) r2.1.2.2.2.2)))))),true),((),())) ((fWalStep a0 a1),((),()))))) (Eq (((r2.1.1,(r2.1.2.1,(r2.1.2.2.1,(r2.1.2.2.2.1,r2.1.2.2.2.2)))),false),((),())) ((fWalStep a0 a1),((),()))))) (Eq (((r2.1.1,(r2.1.2.1,(r2.1.2.2.1,(r2.1.2.2.2.1,r2.1.2.2.2.2)))),false),((),())) ((fWalStep a0 a1),((),()))))))) (caseB (a1.1==(3:Int)) (True∧∀r8,(Eq r8 ((fIn a1.2.2.1 (wI (r2.1.2.2.1+(1:Int))) (wI (r2.1.2.2.1+(ln r2.1.2.2.2.2)))),((),())))→(caseB r8.1 (0≤(wI ((wI (a1.2.2.1 - r2.1.2.2.1)) - (1:Int)))∧((wI ((wI (a1.2.2.1 - r2.1.2.2.1)) - (1:Int)))≤(ln r2.1.2.2.2.2)∧(Eq (((r2.1.1,(r2.1.2.1,(r2.1.2.2.1,(r2.1.2.2.2.1,(List.drop 0 (List.take (tN (wI ((wI (a1.2.2.1 - r2.1.2.2.1)) - (1:Int)))) r2.1.2.2.2.2)))))),true),((),())) ((fWalStep a0 a1),((),()))))) (Eq (((r2.1.1,(r2.1.2.1,(r2.1.2.2.1,(r2.1.2.2.2.1,r2.1.2.2.2.2)))),false),((),())) ((fWalStep a0 a1),((),()))))) (Eq (((r2.1.1,(r2.1.2.1,(r2.1.2.2.1,(r2.1.2.2.2.1,r2.1.2.2.2.2)))),false),((),())) ((fWalStep a0 a1),((),()))))) (caseB (a1.1==(3:Int)) (True∧∀r9,(Eq r9 ((fIn a1.2.2.1 (wI (r2.1.2.2.1+(1:Int))) (wI (r2.1.2.2.1+(ln r2.1.2.2.2.2)))),((),())))→(caseB r9.1 (0≤(wI ((wI (a1.2.2.1 - r2.1.2.2.1)) - (1:Int)))∧((wI ((wI (a1.2.2.1 - r2.1.2.2.1)) - (1:Int)))≤(ln r2.1.2.2.2.2)∧(Eq (((r2.1.1,(r2.1.2.1,(r2.1.2.2.1,(r2.1.2.2.2.1,(List.drop 0 (List.take (tN (wI ((wI (a1.2.2.1 - r2.1.2.2.1)) - (1:Int)))) r2.1.2.2.2.2)))))),true),((),())) ((fWalStep a0 a1),((),()))))) (Eq (((r2.1.1,(r2.1.2.1,(r2.1.2.2.1,(r2.1.2.2.2.1,r2.1.2.2.2.2)))),false),((),())) ((fWalStep a0 a1),((),()))))) (Eq (((r2.1.1,(r2.1.2.1,(r2.1.2.2.1,(r2.1.2.2.2.1,r2.1.2.2.2.2)))),false),((),())) ((fWalStep a0 a1),((),()))))) (caseB (a1.1==(3:Int)) (True∧∀r10,(Eq r10 ((fIn a1.2.2.1 (wI (r2.1.2.2.1+(1:Int))) (wI (r2.1.2.2.1+(ln r2.1.2.2.2.2)))),((),())))→(caseB r10.1 (0≤(wI ((wI (a1.2.2.1 - r2.1.2.2.1)) - (1:Int)))∧((wI ((wI (a1.2.2.1 - r2.1.2.2.1)) - (1:Int)))≤(ln r2.1.2.2.2.2)∧(Eq (((r2.1.1,(r2.1.2.1,(r2.1.2.2.1,(r2.1.2.2.2.1,(List.drop 0 (List.take (tN (wI ((wI (a1.2.2.1 - r2.1.2.2.1)) - (1:Int)))) r2.1.2.2.2.2)))))),true),((),())) ((fWalStep a0 a1),((),()))))) (Eq (((r2.1.1,(r2.1.2.1,(r2.1.2.2.1,(r2.1.2.2.2.1,r2.1.2.2.2.2)))),false),((),())) ((fWalStep a0 a1),((),()))))) (Eq (((r2.1.1,(r2.1.2.1,(r2.1.2.2.1,(r2.1.2.2.2.1,r2.1.2.2.2.2)))),false),((),())) ((fWalStep a0 a1),((),()))))))) (caseB (a1.1==(2:Int)) (caseB (a1.2.2.1==(wI ((wI (r2.1.2.2.1+(ln r2.1.2.2.2.2)))+(1:Int)))) (caseB (decide ((ln r2.1.2.2.2.2)<(60:Int))) (True∧∀r11,(Eq r11 ((fLastTerm (r2.1.1,(r2.1.2.1,(r2.1.2.2.1,(r2.1.2.2.2.1,r2.1.2.2.2.2))))),((),())))→(True∧∀r12,(Eq r12 ((fIn a1.2.1 r11.1 r2.1.1),((),())))→(caseB r12.1 (List.length r2.1.2.2.2.2+List.length [(a1.2.1,a1.2.2.2.2)]≤9223372036854775807∧((List.length r2.1.2.2.2.2+List.length [(a1.2.1,a1.2.2.2.2)])*24≤140737488355328∧(Eq (((r2.1.1,(r2.1.2.1,(r2.1.2.2.1,(r2.1.2.2.2.1,(r2.1.2.2.2.2++[(a1.2.1,a1.2.2.2.2)]))))),true),((),())) ((fWalStep a0 a1),((),()))))) (caseB (a1.1==(3:Int)) (True∧∀r13,(Eq r13 ((fIn a1.2.2.1 (wI (r2.1.2.2.1+(1:Int))) (wI (r2.1.2.2.1+(ln r2.1.2.2.2.2)))),((),())))→(caseB r13.1 (0≤(wI ((wI (a1.2.2.1 - r2.1.2.2.1)) - (1:Int)))∧((wI ((wI (a1.2.2.1 - r2.1.2.2.1)) - (1:Int)))≤(ln r2.1.2.2.2.2)∧(Eq (((r2.1.1,(r2.1.2.1,(r2.1.2.2.1,(r2.1.2.2.2.1,(List.drop 0 (List.take (tN (wI ((wI (a1.2.2.1 - r2.1.2.2.1)) - (1:Int)))) r2.1.2.2.2.2)))))),true),((),())) ((fWalStep a0 a1),((),()))))) (Eq (((r2.1.1,(r2.1.2.1,(r2.1.2.2.1,(r2.1.2.2.2.1,r2.1.2.2.2.2)))),false),((),())) ((fWalStep a0 a1),((),()))))) (Eq (((r2.1.1,(r2.1.2.1,(r2.1.2.2.1,(r2.1.2.2.2.1,r2.1.2.2.2.2)))),false),((),())) ((fWalStep a0 a1),((),()))))))) (caseB (a1.1==(3:Int)) (True∧∀r14,(Eq r14 ((fIn a1.2.2.1 (wI (r2.1.2.2.1+(1:Int))) (wI (r2.1.2.2.1+(ln r2.1.2.2.2.2)))),((),())))→(caseB r14.1 (0≤(wI ((wI (a1.2.2.1 - r2.1.2.2.1)) - (1:Int)))∧((wI ((wI (a1.2.2.1 - r2.1.2.2.1)) - (1:Int)))≤(ln r2.1.2.2.2.2)∧(Eq (((r2.1.1,(r2.1.2.1,(r2.1.2.2.1,(r2.1.2.2.2.1,(List.drop 0 (List.take (tN (wI ((wI (a1.2.2.1 - r2.1.2.2.1)) - (1:Int)))) r2.1.2.2.2.2)))))),true),((),())) ((fWalStep a0 a1),((),()))))) (Eq (((r2.1.1,(r2.1.2.1,(r2.1.2.2.1,(r2.1.2.2.2.1,r2.1.2.2.2.2)))),false),((),())) ((fWalStep a0 a1),((),()))))) (Eq (((r2.1.1,(r2.1.2.1,(r2.1.2.2.1,(r2.1.2.2.2.1,r2.1.2.2.2.2)))),false),((),())) ((fWalStep a0 a1),((),()))))) (caseB (a1.1==(3:Int)) (True∧∀r15,(Eq r15 ((fIn a1.2.2.1 (wI (r2.1.2.2.1+(1:Int))) (wI (r2.1.2.2.1+(ln r2.1.2.2.2.2)))),((),())))→(caseB r15.1 (0≤(wI ((wI (a1.2.2.1 - r2.1.2.2.1)) - (1:Int)))∧((wI ((wI (a1.2.2.1 - r2.1.2.2.1)) - (1:Int)))≤(ln r2.1.2.2.2.2)∧(Eq (((r2.1.1,(r2.1.2.1,(r2.1.2.2.1,(r2.1.2.2.2.1,(List.drop 0 (List.take (tN (wI ((wI (a1.2.2.1 - r2.1.2.2.1)) - (1:Int)))) r2.1.2.2.2.2)))))),true),((),())) ((fWalStep a0 a1),((),()))))) (Eq (((r2.1.1,(r2.1.2.1,(r2.1.2.2.1,(r2.1.2.2.2.1,r2.1.2.2.2.2)))),false),((),())) ((fWalStep a0 a1),((),()))))) (Eq (((r2.1.1,(r2.1.2.1,(r2.1.2.2.1,(r2.1.2.2.2.1,r2.1.2.2.2.2)))),false),((),())) ((fWalStep a0 a1),((),()))))) (caseB (a1.1==(3:Int)) (True∧∀r16,(Eq r16 ((fIn a1.2.2.1 (wI (r2.1.2.2.1+(1:Int))) (wI (r2.1.2.2.1+(ln r2.1.2.2.2.2)))),((),())))→(caseB r16.1 (0≤(wI ((wI (a1.2.2.1 - r2.1.2.2.1)) - (1:Int)))∧((wI ((wI (a1.2.2.1 - r2.1.2.2.1)) - (1:Int)))≤(ln r2.1.2.2.2.2)∧(Eq (((r2.1.1,(r2.1.2.1,(r2.1.2.2.1,(r2.1.2.2.2.1,(List.drop 0 (List.take (tN (wI ((wI (a1.2.2.1 - r2.1.2.2.1)) - (1:Int)))) r2.1.2.2.2.2)))))),true),((),())) ((fWalStep a0 a1),((),()))))) (Eq (((r2.1.1,(r2.1.2.1,(r2.1.2.2.1,(r2.1.2.2.2.1,r2.1.2.2.2.2)))),false),((),())) ((fWalStep a0 a1),((),()))))) (Eq (((r2.1.1,(r2.1.2.1,(r2.1.2.2.1,(r2.1.2.2.2.1,r2.1.2.2.2.2)))),false),((),())) ((fWalStep a0 a1),((),())))))))))))
theorem impl_WalStep.pure (a0:(Int×(Int×(Int×(Int×(List (Int×(List UInt8)))))))) (a1:(Int×(Int×(Int×(Int×(List UInt8)))))) (h:True) (hw:Wf c_impl_WalStep.A (a0,a1)):impl_WalStep.F a0 a1:=by
 delta impl_WalStep.F ln tN wI
 simp only [forall_eq,true_and,and_true,caseB_iff,Prod.mk.injEq,decide_eq_true_eq,decide_eq_false_iff_not,Bool.not_eq_true',Bool.not_eq_false',bne_iff_ne,ne_eq,beq_iff_eq,Bool.not_true,Bool.not_false,beq_eq_false_iff_ne,bne_eq_false_iff_eq,List.length_append,List.length_cons,List.length_nil,List.append_nil,Nat.zero_add,decide_true,decide_false,eq_self_iff_true,Prod.eta,fIdW,pIdW,List.drop_zero]
 have goal':True:=trivial
 by_cases h1:fWalOk a0=true
 · obtain⟨l1,l2,l3⟩:=walOk_len h1
   rw [w64 (x:=a0.2.2.1+(a0.2.2.2.2.length:Int)) (by omega) (by omega),w64 (x:=a0.2.2.1+(a0.2.2.2.2.length:Int)+1) (by omega) (by omega),w64 (x:=a0.2.2.1+1) (by omega) (by omega)]
   by_cases h2:fRecOk a1=true
   · obtain⟨m1,m2⟩:=(recOk_in h2).2.2.1
     rw [w64 (x:=a1.2.2.1 - a0.2.2.1) (by omega) (by omega),w64 (x:=a1.2.2.1 - a0.2.2.1 - 1) (by omega) (by omega)]
     simp only [h1,h2,true_and,Bool.true_eq_false,false_implies,true_implies,forall_const,fIn_iff,Bool.eq_false_iff,ne_eq]
     unfold fWalStep
     rw [if_pos h1,if_pos h2]
     repeat' (with_reducible (first | (refine And.intro ?_ ?_) | intro _))
     all_goals (try omega)
     all_goals (simp only [fIn_iff])
     all_goals (grind)
   · simp only [h1,h2,true_and,Bool.true_eq_false,false_implies,true_implies,forall_const]
     unfold fWalStep
     rw [if_pos h1,if_neg h2]
     grind
 · unfold fWalStep
   rw [if_neg h1]
   grind [zWal]
set_option maxRecDepth 100000 in
theorem impl_WalStep.eq:EqS c_impl_WalStep Try.f9 [26,4] [impl_WalOk.e,impl_hardFits.e,impl_copyWal.e,impl_RecOk.e,impl_from.e,impl_lastTerm.e] [] noL (fun i x=>impl_WalStep.F x.1 x.2):=by intro i x;kernel_rfl
theorem impl_WalStep.ok:ConOk Try.prog 9 c_impl_WalStep:=okOf impl_WalStep.eq Try.func9 rfl (by kernel_rfl) fun i x h hi hw=>impl_WalStep.pure x.1 x.2 h hw
def impl_WalStep.e:GE:=⟨9,c_impl_WalStep,⟨_,Try.func9,rfl,rfl⟩,impl_WalStep.ok⟩
def c_impl_entryRecs:Con:={A:=(.pair (.list (.pair (.int .i64) .str)) (.int .i64)),shA:=[.one,.one],R:=(.list (.pair (.int .i64) (.pair (.int .i64) (.pair (.int .i64) (.pair (.int .i64) .str))))),shR:=[(false,1)],fresh:=[(0,35)],pre:=fun _ a=>(pEnts a.1 a.2),f:=some fun _ a=>((fEntryRecs a.1 a.2),((),()))}
def impl_entryRecs.F (a0:(List (Int×(List UInt8)))) (a1:Int):Prop:=(eS [(1,.val false [.int .i64 a1]),(9,.val false [.lst (.pair (.int .i64) .str) a0 none]),(10,.val false [.int .i64 (ln a0)])] [(1,.val false [.int .i64 a1]),(9,.val false [.lst (.pair (.int .i64) .str) a0 none]),(10,.val false [.int .i64 (ln a0)])]∧((erI a0 a1 0 ([]:List (Int×(Int×(Int×(Int×(List UInt8)))))))∧∀(y1:(Int×(List (Int×(Int×(Int×(Int×(List UInt8)))))))),(erI a0 a1 y1.1 y1.2)→(caseB (decide (y1.1<(ln a0))) (0≤y1.1∧(y1.1<(ln a0)∧(List.length y1.2+List.length ([(2,((List.getD a0 (tN y1.1) (0,[])).1,((wI (a1+y1.1)),(0,(List.getD a0 (tN y1.1) (0,[])).2))))]:List (Int×(Int×(Int×(Int×(List UInt8))))))≤9223372036854775807∧((List.length y1.2+List.length ([(2,((List.getD a0 (tN y1.1) (0,[])).1,((wI (a1+y1.1)),(0,(List.getD a0 (tN y1.1) (0,[])).2))))]:List (Int×(Int×(Int×(Int×(List UInt8)))))))*48≤140737488355328∧(eS [(1,.val false [.int .i64 a1]),(9,.val false [.lst (.pair (.int .i64) .str) a0 none]),(10,.val false [.int .i64 (ln a0)])] [(1,.val false [.int .i64 a1]),(9,.val false [.lst (.pair (.int .i64) .str) a0 none]),(10,.val false [.int .i64 (ln a0)])]∧(erI a0 a1 (wI (y1.1+(1:Int))) (y1.2++([(2,((List.getD a0 (tN y1.1) (0,[])).1,((wI (a1+y1.1)),(0,(List.getD a0 (tN y1.1) (0,[])).2))))]:List (Int×(Int×(Int×(Int×(List UInt8))))))))∧(erM a0 a1 (wI (y1.1+(1:Int))) (y1.2++([(2,((List.getD a0 (tN y1.1) (0,[])).1,((wI (a1+y1.1)),(0,(List.getD a0 (tN y1.1) (0,[])).2))))]:List (Int×(Int×(Int×(Int×(List UInt8))))))))<(erM a0 a1 y1.1 y1.2)))))) (Eq (y1.2,((),())) ((fEntryRecs a0 a1),((),()))))))
def impl_entryRecs.L (a0:(List (Int×(List UInt8)))) (a1:Int):Nat→Option LoopAnn:=fun p=>Go.Proofs.Ytgfgenbmjbhphaa.Bv.look p [(58,{kp:={hold:=[1,9,10],slots:=[5,11],boxes:=[],rows:=[{bx:=false,s:=5,i:=0,k:=1000643,e:=35,hot:=true}]},T:=(.pair (.int .i64) (.list (.pair (.int .i64) (.pair (.int .i64) (.pair (.int .i64) (.pair (.int .i64) .str)))))),I:=fun st y=>erI a0 a1 y.1 y.2,μ:=fun st y=>erM a0 a1 y.1 y.2})]
theorem impl_entryRecs.pure (a0:(List (Int×(List UInt8)))) (a1:Int) (h:(pEnts a0 a1)) (hw:Wf c_impl_entryRecs.A (a0,a1)):impl_entryRecs.F a0 a1:=by
 delta impl_entryRecs.F ln tN wI eS
 simp only [forall_eq,true_and,and_true,caseB_iff,Prod.mk.injEq,decide_eq_true_eq,decide_eq_false_iff_not,Bool.not_eq_true',Bool.not_eq_false',bne_iff_ne,ne_eq,beq_iff_eq,Bool.not_true,Bool.not_false,beq_eq_false_iff_ne,bne_eq_false_iff_eq,List.length_append,List.length_cons,List.length_nil,List.append_nil,Nat.zero_add,decide_true,decide_false,eq_self_iff_true,Prod.eta]
 obtain⟨p1,p2,p3⟩:=h
 refine⟨⟨by omega,by omega,rfl⟩,?_⟩
 rintro⟨i,out⟩ hI
 simp only at hI ⊢
 have q1:=hI.h1
 have q2:=hI.h2
 have ol:out.length=i:=by rw [hI.h3,entryRecs_len,List.length_take];omega
 refine⟨fun hi=>⟨q1,hi,by omega,by omega,?_,?_⟩,fun hi=>er_end hI hi⟩
 · rw [w64 (x:=i+1) (by omega) (by omega),w64 (x:=a1+i) (by omega) (by omega)];exact er_step hI hi
 · rw [w64 (x:=i+1) (by omega) (by omega)];unfold erM;omega
set_option maxRecDepth 100000 in
theorem impl_entryRecs.eq:EqS c_impl_entryRecs Try.f24 [29] [] [] (fun i x=>impl_entryRecs.L x.1 x.2) (fun i x=>impl_entryRecs.F x.1 x.2):=by intro i x;kernel_rfl
theorem impl_entryRecs.ok:ConOk Try.prog 24 c_impl_entryRecs:=okOf impl_entryRecs.eq Try.func24 rfl (by kernel_rfl) fun i x h hi hw=>impl_entryRecs.pure x.1 x.2 h hw
def impl_entryRecs.e:GE:=⟨24,c_impl_entryRecs,⟨_,Try.func24,rfl,rfl⟩,impl_entryRecs.ok⟩
def fHeadRecs (a b:Wal):List Rec:=if a.1=b.1∧a.2.1=b.2.1 then [] else [(1,(b.1,(0,(b.2.1,[]))))]
structure cgI (a b:Wal) (k a0 a1 a2 a3:Int) (a4:List Ent) (b0 b1 b2 b3:Int) (b4:List Ent) (out:List Rec):Prop where
 ha:a=((a0,(a1,(a2,(a3,a4)))):Wal)
 hb:b=((b0,(b1,(b2,(b3,b4)))):Wal)
 hs:spJ a4 b4 k
 ho:out=fHeadRecs a b
def cgM (a b:Wal) (k a0 a1 a2 a3:Int) (a4:List Ent) (b0 b1 b2 b3:Int) (b4:List Ent) (out:List Rec):Nat:=(a4.length - k).toNat
def impl_Changes.L (a0:(Int×(Int×(Int×(Int×(List (Int×(List UInt8)))))))) (a1:(Int×(Int×(Int×(Int×(List (Int×(List UInt8)))))))):Nat→Option LoopAnn:=fun p=>Go.Proofs.Ytgfgenbmjbhphaa.Bv.look p [(252,{kp:={hold:=[2,3,6],slots:=[7],boxes:=[3,4],rows:=[{bx:=false,s:=6,i:=0,k:=1000771,e:=35,hot:=true}]},T:=(.pair (.int .i64) (.pair (.int .i64) (.pair (.int .i64) (.pair (.int .i64) (.pair (.int .i64) (.pair (.list (.pair (.int .i64) .str)) (.pair (.int .i64) (.pair (.int .i64) (.pair (.int .i64) (.pair (.int .i64) (.pair (.list (.pair (.int .i64) .str)) (.list (.pair (.int .i64) (.pair (.int .i64) (.pair (.int .i64) (.pair (.int .i64) .str)))))))))))))))),I:=fun st y=>cgI a0 a1 y.1 y.2.1 y.2.2.1 y.2.2.2.1 y.2.2.2.2.1 y.2.2.2.2.2.1 y.2.2.2.2.2.2.1 y.2.2.2.2.2.2.2.1 y.2.2.2.2.2.2.2.2.1 y.2.2.2.2.2.2.2.2.2.1 y.2.2.2.2.2.2.2.2.2.2.1 y.2.2.2.2.2.2.2.2.2.2.2,μ:=fun st y=>cgM a0 a1 y.1 y.2.1 y.2.2.1 y.2.2.2.1 y.2.2.2.2.1 y.2.2.2.2.2.1 y.2.2.2.2.2.2.1 y.2.2.2.2.2.2.2.1 y.2.2.2.2.2.2.2.2.1 y.2.2.2.2.2.2.2.2.2.1 y.2.2.2.2.2.2.2.2.2.2.1 y.2.2.2.2.2.2.2.2.2.2.2})]
end Go.Proofs.Ytgfgenbmjbhphaa.B
