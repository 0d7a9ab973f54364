/- Wals and cores:right or not. -/
import Derived.Test.YtgfgenbmjbhphaaCSum
namespace Go.Proofs.Ytgfgenbmjbhphaa.B
set_option linter.unusedVariables false
set_option linter.unusedSimpArgs false
open Go Go.Proofs.Ytgfgenbmjbhphaa.Bv
abbrev Ent:=Int×List UInt8
abbrev Wal:=Int×(Int×(Int×(Int×List Ent)))
def fIsTerm (n:Int):Bool:=fIn n 1 100000
def fIsVote (n:Int):Bool:=fIn n (-1) 4
def fPlace (i t:Int):Bool:=(decide (i=0)&&decide (t=0))||(fIn i 1 100000&&fIn t 1 100000)
def tmOf (l:List Ent) (low:Int) (i:Nat):Int:=if i=0 then low else (l.getD (i - 1) (0,[])).1
def trAt (l:List Ent) (low high:Int) (i:Nat):Bool:=decide (1≤(l.getD i (0,[])).1)&&(fIn (l.getD i (0,[])).1 (tmOf l low i) high&&decide ((l.getD i (0,[])).2.length≤900))
def fTermsOk (l:List Ent) (low high:Int):Bool:=(List.range l.length).all (trAt l low high)
theorem tAll_yes {l:List Ent} {low high:Int} (h:∀j,j<l.length→trAt l low high j=true):fTermsOk l low high=true:=by
 simp only [fTermsOk,List.all_eq_true,List.mem_range];exact h
theorem tAll_no {l:List Ent} {low high:Int} {j:Nat} (hj:j<l.length) (h:trAt l low high j=false):fTermsOk l low high=false:=by
 rw [Bool.eq_false_iff];intro hh
 simp only [fTermsOk,List.all_eq_true,List.mem_range] at hh
 rw [hh j hj] at h;cases h
def fWalOk (w:Wal):Bool:=fIn w.1 0 100000&&(fIn w.2.1 (-1) 4&&(fPlace w.2.2.1 w.2.2.2.1&&(decide (w.2.2.2.1≤w.1)&&(decide (w.2.2.2.2.length≤60)&&(fTermsOk w.2.2.2.2 w.2.2.2.1 w.1&&decide (w.2.2.1+w.2.2.2.2.length≤100000))))))
def tkI (l:List Ent) (low0 high low i:Int):Prop:=0≤i∧i≤l.length∧low=tmOf l low0 i.toNat∧∀j,j<i.toNat→trAt l low0 high j=true
def tkM (l:List Ent) (low0 high low i:Int):Nat:=(l.length - i).toNat
def tsI (w:Wal) (last i:Int) (a0 a1 a2 a3:Int) (a4:List Ent):Prop:=((a0,(a1,(a2,(a3,a4)))):Wal)=w∧tkI w.2.2.2.2 w.2.2.2.1 w.1 last i
def tsM (w:Wal) (last i:Int) (a0 a1 a2 a3:Int) (a4:List Ent):Nat:=(w.2.2.2.2.length - i).toNat
theorem fPlace_in {i t:Int} (h:fPlace i t=true):0≤i∧i≤100000:=by
 simp [fPlace,fIn] at h;omega
def c_impl_isTerm:Con:={A:=(.int .i64),shA:=[.one],R:=.bool,shR:=[(false,1)],pre:=fun _ _=>True,f:=some fun _ a=>((fIsTerm a),((),()))}
def impl_isTerm.F (a0:Int):Prop:=(True∧∀r1,(Eq r1 ((fIn a0 1 100000),((),())))→(Eq (r1.1,((),())) ((fIsTerm a0),((),()))))
theorem impl_isTerm.pure (a0:Int) (h:True) (hw:Wf c_impl_isTerm.A a0):impl_isTerm.F a0:=by
 unfold impl_isTerm.F
 simp only [forall_eq,true_and,and_true,caseB_iff,Prod.mk.injEq,decide_eq_true_eq,decide_eq_false_iff_not,Bool.not_eq_true',Bool.not_eq_false',bne_iff_ne,ne_eq,beq_iff_eq,Bool.not_true,Bool.not_false,beq_eq_false_iff_ne,bne_eq_false_iff_eq,List.length_append,List.length_cons,List.length_nil,List.append_nil,Nat.zero_add,decide_true,decide_false,eq_self_iff_true]
 repeat' (with_reducible (first | (refine And.intro ?_ ?_) | intro _))
 all_goals (try simp (disch:=omega) only [w64,wu8,tn0,tn1,tm1,tm2,List.length_append,List.length_cons,List.length_nil] at*)
 all_goals (try simp (disch:=omega) only [w64,wu8,tn0,tn1,tm1,tm2,List.length_append,List.length_cons,List.length_nil] at*)
 all_goals (try omega)
 all_goals (try grind [fIsTerm])
set_option maxRecDepth 100000 in
theorem impl_isTerm.eq:EqS c_impl_isTerm Try.f47 [4] [impl_from.e] [] noL (fun i x=>impl_isTerm.F x):=by intro i x;kernel_rfl
theorem impl_isTerm.ok:ConOk Try.prog 47 c_impl_isTerm:=okOf impl_isTerm.eq Try.func47 rfl (by kernel_rfl) fun i x h hi hw=>impl_isTerm.pure x h hw
def impl_isTerm.e:GE:=⟨47,c_impl_isTerm,⟨_,Try.func47,rfl,rfl⟩,impl_isTerm.ok⟩
def c_impl_isVote:Con:={A:=(.int .i64),shA:=[.one],R:=.bool,shR:=[(false,1)],pre:=fun _ _=>True,f:=some fun _ a=>((fIsVote a),((),()))}
def impl_isVote.F (a0:Int):Prop:=(True∧∀r1,(Eq r1 ((fIn a0 (-1) 4),((),())))→(Eq (r1.1,((),())) ((fIsVote a0),((),()))))
theorem impl_isVote.pure (a0:Int) (h:True) (hw:Wf c_impl_isVote.A a0):impl_isVote.F a0:=by
 unfold impl_isVote.F
 simp only [forall_eq,true_and,and_true,caseB_iff,Prod.mk.injEq,decide_eq_true_eq,decide_eq_false_iff_not,Bool.not_eq_true',Bool.not_eq_false',bne_iff_ne,ne_eq,beq_iff_eq,Bool.not_true,Bool.not_false,beq_eq_false_iff_ne,bne_eq_false_iff_eq,List.length_append,List.length_cons,List.length_nil,List.append_nil,Nat.zero_add,decide_true,decide_false,eq_self_iff_true]
 repeat' (with_reducible (first | (refine And.intro ?_ ?_) | intro _))
 all_goals (try simp (disch:=omega) only [w64,wu8,tn0,tn1,tm1,tm2,List.length_append,List.length_cons,List.length_nil] at*)
 all_goals (try simp (disch:=omega) only [w64,wu8,tn0,tn1,tm1,tm2,List.length_append,List.length_cons,List.length_nil] at*)
 all_goals (try omega)
 all_goals (try grind [fIsVote])
set_option maxRecDepth 100000 in
theorem impl_isVote.eq:EqS c_impl_isVote Try.f42 [4] [impl_from.e] [] noL (fun i x=>impl_isVote.F x):=by intro i x;kernel_rfl
theorem impl_isVote.ok:ConOk Try.prog 42 c_impl_isVote:=okOf impl_isVote.eq Try.func42 rfl (by kernel_rfl) fun i x h hi hw=>impl_isVote.pure x h hw
def impl_isVote.e:GE:=⟨42,c_impl_isVote,⟨_,Try.func42,rfl,rfl⟩,impl_isVote.ok⟩
def c_impl_isPlace:Con:={A:=(.pair (.int .i64) (.int .i64)),shA:=[.one,.one],R:=.bool,shR:=[(false,1)],pre:=fun _ _=>True,f:=some fun _ a=>((fPlace a.1 a.2),((),()))}
def impl_isPlace.F (a0:Int) (a1:Int):Prop:=(caseB (a0==(0:Int)) (caseB (a1==(0:Int)) (Eq (true,((),())) ((fPlace a0 a1),((),()))) (True∧∀r1,(Eq r1 ((fIn a0 1 100000),((),())))→(caseB r1.1 (True∧∀r2,(Eq r2 ((fIsTerm a1),((),())))→(Eq (r2.1,((),())) ((fPlace a0 a1),((),())))) (Eq (false,((),())) ((fPlace a0 a1),((),())))))) (True∧∀r3,(Eq r3 ((fIn a0 1 100000),((),())))→(caseB r3.1 (True∧∀r4,(Eq r4 ((fIsTerm a1),((),())))→(Eq (r4.1,((),())) ((fPlace a0 a1),((),())))) (Eq (false,((),())) ((fPlace a0 a1),((),()))))))
theorem impl_isPlace.pure (a0:Int) (a1:Int) (h:True) (hw:Wf c_impl_isPlace.A (a0,a1)):impl_isPlace.F a0 a1:=by
 unfold impl_isPlace.F
 simp only [forall_eq,true_and,and_true,caseB_iff,Prod.mk.injEq,decide_eq_true_eq,decide_eq_false_iff_not,Bool.not_eq_true',Bool.not_eq_false',bne_iff_ne,ne_eq,beq_iff_eq,Bool.not_true,Bool.not_false,beq_eq_false_iff_ne,bne_eq_false_iff_eq,List.length_append,List.length_cons,List.length_nil,List.append_nil,Nat.zero_add,decide_true,decide_false,eq_self_iff_true,fIsTerm]
 repeat' (with_reducible (first | (refine And.intro ?_ ?_) | intro _))
 all_goals (try simp (disch:=omega) only [w64,wu8,tn0,tn1,tm1,tm2,List.length_append,List.length_cons,List.length_nil] at*)
 all_goals (try simp (disch:=omega) only [w64,wu8,tn0,tn1,tm1,tm2,List.length_append,List.length_cons,List.length_nil] at*)
 all_goals (try omega)
 all_goals (try grind [fPlace])
set_option maxRecDepth 100000 in
theorem impl_isPlace.eq:EqS c_impl_isPlace Try.f43 [4] [impl_from.e,impl_isTerm.e] [] noL (fun i x=>impl_isPlace.F x.1 x.2):=by intro i x;kernel_rfl
theorem impl_isPlace.ok:ConOk Try.prog 43 c_impl_isPlace:=okOf impl_isPlace.eq Try.func43 rfl (by kernel_rfl) fun i x h hi hw=>impl_isPlace.pure x.1 x.2 h hw
def impl_isPlace.e:GE:=⟨43,c_impl_isPlace,⟨_,Try.func43,rfl,rfl⟩,impl_isPlace.ok⟩
def c_spec_l5Based:Con:={A:=(.pair (.int .i64) (.int .i64)),shA:=[.one,.one],R:=.bool,shR:=[(false,1)],pre:=fun _ _=>True,f:=some fun _ a=>((fPlace a.1 a.2),((),()))}
def spec_l5Based.F (a0:Int) (a1:Int):Prop:=(caseB (a0==(0:Int)) (Eq ((a1==(0:Int)),((),())) ((fPlace a0 a1),((),()))) (True∧∀r1,(Eq r1 ((fIn a0 1 100000),((),())))→(caseB r1.1 (True∧∀r2,(Eq r2 ((fIn a1 1 100000),((),())))→(Eq (r2.1,((),())) ((fPlace a0 a1),((),())))) (Eq (false,((),())) ((fPlace a0 a1),((),()))))))
theorem spec_l5Based.pure (a0:Int) (a1:Int) (h:True) (hw:Wf c_spec_l5Based.A (a0,a1)):spec_l5Based.F a0 a1:=by
 unfold spec_l5Based.F
 simp only [forall_eq,true_and,and_true,caseB_iff,Prod.mk.injEq,decide_eq_true_eq,decide_eq_false_iff_not,Bool.not_eq_true',Bool.not_eq_false',bne_iff_ne,ne_eq,beq_iff_eq,Bool.not_true,Bool.not_false,beq_eq_false_iff_ne,bne_eq_false_iff_eq,List.length_append,List.length_cons,List.length_nil,List.append_nil,Nat.zero_add,decide_true,decide_false,eq_self_iff_true]
 repeat' (with_reducible (first | (refine And.intro ?_ ?_) | intro _))
 all_goals (try simp (disch:=omega) only [w64,wu8,tn0,tn1,tm1,tm2,List.length_append,List.length_cons,List.length_nil] at*)
 all_goals (try simp (disch:=omega) only [w64,wu8,tn0,tn1,tm1,tm2,List.length_append,List.length_cons,List.length_nil] at*)
 all_goals (try omega)
 all_goals (try grind [fPlace,fIn_iff])
set_option maxRecDepth 100000 in
theorem spec_l5Based.eq:EqS c_spec_l5Based Try.f35 [4] [spec_l1In.e] [] noL (fun i x=>spec_l5Based.F x.1 x.2):=by intro i x;kernel_rfl
theorem spec_l5Based.ok:ConOk Try.prog 35 c_spec_l5Based:=okOf spec_l5Based.eq Try.func35 rfl (by kernel_rfl) fun i x h hi hw=>spec_l5Based.pure x.1 x.2 h hw
def spec_l5Based.e:GE:=⟨35,c_spec_l5Based,⟨_,Try.func35,rfl,rfl⟩,spec_l5Based.ok⟩
def c_impl_termsOk:Con:={A:=(.pair (.list (.pair (.int .i64) .str)) (.pair (.int .i64) (.int .i64))),shA:=[.one,.one,.one],R:=.bool,shR:=[(false,1)],pre:=fun _ _=>True,f:=some fun _ a=>((fTermsOk a.1 a.2.1 a.2.2),((),()))}
def impl_termsOk.F (a0:(List (Int×(List UInt8)))) (a1:Int) (a2:Int):Prop:=(eS [(2,.val false [.int .i64 a2]),(9,.val false [.lst (.pair (.int .i64) .str) a0 none]),(10,.val false [.int .i64 (ln a0)])] [(2,.val false [.int .i64 a2]),(9,.val false [.lst (.pair (.int .i64) .str) a0 none]),(10,.val false [.int .i64 (ln a0)])]∧((tkI a0 a1 a2 a1 0)∧∀(y1:(Int×Int)),(tkI a0 a1 a2 y1.1 y1.2)→(caseB (decide (y1.2<(ln a0))) (0≤y1.2∧(y1.2<(ln a0)∧(caseB (decide (((List.getD a0 (tN y1.2) (0,[])).1)<(1:Int))) (Eq (false,((),())) ((fTermsOk a0 a1 a2),((),()))) (True∧∀r2,(Eq r2 ((fIn ((List.getD a0 (tN y1.2) (0,[])).1) y1.1 a2),((),())))→(caseB (!r2.1) (Eq (false,((),())) ((fTermsOk a0 a1 a2),((),()))) (caseB (decide ((ln ((List.getD a0 (tN y1.2) (0,[])).2))>(900:Int))) (Eq (false,((),())) ((fTermsOk a0 a1 a2),((),()))) (eS [(2,.val false [.int .i64 a2]),(9,.val false [.lst (.pair (.int .i64) .str) a0 none]),(10,.val false [.int .i64 (ln a0)])] [(2,.val false [.int .i64 a2]),(9,.val false [.lst (.pair (.int .i64) .str) a0 none]),(10,.val false [.int .i64 (ln a0)])]∧(tkI a0 a1 a2 ((List.getD a0 (tN y1.2) (0,[])).1) (wI (y1.2+(1:Int))))∧(tkM a0 a1 a2 ((List.getD a0 (tN y1.2) (0,[])).1) (wI (y1.2+(1:Int))))<(tkM a0 a1 a2 y1.1 y1.2)))))))) (Eq (true,((),())) ((fTermsOk a0 a1 a2),((),()))))))
def impl_termsOk.L (a0:(List (Int×(List UInt8)))) (a1:Int) (a2:Int):Nat→Option LoopAnn:=fun p=>Go.Proofs.Ytgfgenbmjbhphaa.Bv.look p [(26,{kp:={hold:=[2,9,10],slots:=[1,11],boxes:=[],rows:=[]},T:=(.pair (.int .i64) (.int .i64)),I:=fun st y=>tkI a0 a1 a2 y.1 y.2,μ:=fun st y=>tkM a0 a1 a2 y.1 y.2})]
theorem impl_termsOk.pure (a0:(List (Int×(List UInt8)))) (a1:Int) (a2:Int) (h:True) (hw:Wf c_impl_termsOk.A (a0,a1,a2)):impl_termsOk.F a0 a1 a2:=by
 delta impl_termsOk.F ln tN wI eS
 have hw1:a0.length≤9223372036854775807:=hw.1.1
 simp only [forall_eq,true_and,and_true,caseB_iff,Prod.mk.injEq,decide_eq_true_eq,decide_eq_false_iff_not,Bool.not_eq_true',Bool.not_eq_false',bne_iff_ne,ne_eq,beq_iff_eq,Bool.not_true,Bool.not_false,beq_eq_false_iff_ne,bne_eq_false_iff_eq,List.length_append,List.length_cons,List.length_nil,List.append_nil,Nat.zero_add,decide_true,decide_false,eq_self_iff_true,tkI,tkM,fIn_iff,fIn_no]
 repeat' (with_reducible (first | (refine And.intro ?_ ?_) | intro _))
 all_goals (try simp (disch:=omega) only [w64,wu8,tn0,tn1,tm1,tm2,List.length_append,List.length_cons,List.length_nil] at*)
 all_goals (try simp (disch:=omega) only [w64,wu8,tn0,tn1,tm1,tm2,List.length_append,List.length_cons,List.length_nil] at*)
 all_goals (try omega)
 all_goals (try grind [tAll_yes,tAll_no,trAt,tmOf,fIn_iff])
set_option maxRecDepth 100000 in
theorem impl_termsOk.eq:EqS c_impl_termsOk Try.f44 [4] [impl_from.e] [] (fun i x=>impl_termsOk.L x.1 x.2.1 x.2.2) (fun i x=>impl_termsOk.F x.1 x.2.1 x.2.2):=by intro i x;kernel_rfl
theorem impl_termsOk.ok:ConOk Try.prog 44 c_impl_termsOk:=okOf impl_termsOk.eq Try.func44 rfl (by kernel_rfl) fun i x h hi hw=>impl_termsOk.pure x.1 x.2.1 x.2.2 h hw
def impl_termsOk.e:GE:=⟨44,c_impl_termsOk,⟨_,Try.func44,rfl,rfl⟩,impl_termsOk.ok⟩
def c_impl_WalOk:Con:={A:=(.pair (.int .i64) (.pair (.int .i64) (.pair (.int .i64) (.pair (.int .i64) (.list (.pair (.int .i64) .str)))))),shA:=[.agg 5],R:=.bool,shR:=[(false,1)],pre:=fun _ _=>True,f:=some fun _ a=>((fWalOk a),((),()))}
def impl_WalOk.F (a0:(Int×(Int×(Int×(Int×(List (Int×(List UInt8)))))))):Prop:=(True∧∀r1,(Eq r1 ((fIn a0.1 0 100000),((),())))→(caseB r1.1 (True∧∀r2,(Eq r2 ((fIsVote a0.2.1),((),())))→(caseB r2.1 (True∧∀r3,(Eq r3 ((fPlace a0.2.2.1 a0.2.2.2.1),((),())))→(caseB r3.1 (caseB (decide (a0.2.2.2.1≤a0.1)) (caseB (decide ((ln a0.2.2.2.2)≤(60:Int))) (True∧∀r4,(Eq r4 ((fTermsOk a0.2.2.2.2 a0.2.2.2.1 a0.1),((),())))→(caseB r4.1 (Eq ((decide ((wI (a0.2.2.1+(ln a0.2.2.2.2)))≤(100000:Int))),((),())) ((fWalOk a0),((),()))) (Eq (false,((),())) ((fWalOk a0),((),()))))) (Eq (false,((),())) ((fWalOk a0),((),())))) (Eq (false,((),())) ((fWalOk a0),((),())))) (Eq (false,((),())) ((fWalOk a0),((),()))))) (Eq (false,((),())) ((fWalOk a0),((),()))))) (Eq (false,((),())) ((fWalOk a0),((),())))))
theorem impl_WalOk.pure (a0:(Int×(Int×(Int×(Int×(List (Int×(List UInt8)))))))) (h:True) (hw:Wf c_impl_WalOk.A a0):impl_WalOk.F a0:=by
 delta impl_WalOk.F ln wI
 have hB:fPlace a0.2.2.1 a0.2.2.2.1=true→(a0.2.2.2.2.length:Int)≤60→IntKind.wrap .i64 (a0.2.2.1+(a0.2.2.2.2.length:Int))=a0.2.2.1+(a0.2.2.2.2.length:Int):=fun h1 h2=>by
  have:=fPlace_in h1
  exact w64 (by omega) (by omega)
 simp only [forall_eq,true_and,and_true,caseB_iff,Prod.mk.injEq,decide_eq_true_eq,decide_eq_false_iff_not,Bool.not_eq_true',Bool.not_eq_false',bne_iff_ne,ne_eq,beq_iff_eq,Bool.not_true,Bool.not_false,beq_eq_false_iff_ne,bne_eq_false_iff_eq,List.length_append,List.length_cons,List.length_nil,List.append_nil,Nat.zero_add,decide_true,decide_false,eq_self_iff_true,fIsVote]
 repeat' (with_reducible (first | (refine And.intro ?_ ?_) | intro _))
 all_goals (try simp (disch:=omega) only [w64,wu8,tn0,tn1,tm1,tm2,List.length_append,List.length_cons,List.length_nil] at*)
 all_goals (try simp (disch:=omega) only [w64,wu8,tn0,tn1,tm1,tm2,List.length_append,List.length_cons,List.length_nil] at*)
 all_goals (try omega)
 all_goals (try grind [fWalOk,fPlace,fIn_iff])
set_option maxRecDepth 100000 in
theorem impl_WalOk.eq:EqS c_impl_WalOk Try.f22 [4] [impl_from.e,impl_isVote.e,impl_isPlace.e,impl_termsOk.e] [] noL (fun i x=>impl_WalOk.F x):=by intro i x;kernel_rfl
theorem impl_WalOk.ok:ConOk Try.prog 22 c_impl_WalOk:=okOf impl_WalOk.eq Try.func22 rfl (by kernel_rfl) fun i x h hi hw=>impl_WalOk.pure x h hw
def impl_WalOk.e:GE:=⟨22,c_impl_WalOk,⟨_,Try.func22,rfl,rfl⟩,impl_WalOk.ok⟩
def c_spec_WalOk:Con:={A:=(.pair (.int .i64) (.pair (.int .i64) (.pair (.int .i64) (.pair (.int .i64) (.list (.pair (.int .i64) .str)))))),shA:=[.agg 5],R:=.bool,shR:=[(false,1)],pre:=fun _ _=>True,f:=some fun _ a=>((fWalOk a),((),()))}
def spec_WalOk.F (a0:(Int×(Int×(Int×(Int×(List (Int×(List UInt8)))))))):Prop:=(True∧∀r1,(Eq r1 ((fIn a0.1 0 100000),((),())))→(caseB (!r1.1) (Eq (false,((),())) ((fWalOk a0),((),()))) (True∧∀r2,(Eq r2 ((fIn a0.2.1 (-1) 4),((),())))→(caseB (!r2.1) (Eq (false,((),())) ((fWalOk a0),((),()))) (True∧∀r3,(Eq r3 ((fPlace a0.2.2.1 a0.2.2.2.1),((),())))→(caseB (!r3.1) (Eq (false,((),())) ((fWalOk a0),((),()))) (caseB (decide (a0.2.2.2.1>a0.1)) (Eq (false,((),())) ((fWalOk a0),((),()))) (caseB (decide ((ln a0.2.2.2.2)>(60:Int))) (Eq (false,((),())) ((fWalOk a0),((),()))) (caseB (decide ((wI (a0.2.2.1+(ln a0.2.2.2.2)))>(100000:Int))) (Eq (false,((),())) ((fWalOk a0),((),()))) (eS [(1,.box 2 0)] [(1,.box 2 0)]∧((tsI a0 a0.2.2.2.1 0 a0.1 a0.2.1 a0.2.2.1 a0.2.2.2.1 a0.2.2.2.2)∧∀(y4:(Int×(Int×(Int×(Int×(Int×(Int×(List (Int×(List UInt8)))))))))),(tsI a0 y4.1 y4.2.1 y4.2.2.1 y4.2.2.2.1 y4.2.2.2.2.1 y4.2.2.2.2.2.1 y4.2.2.2.2.2.2)→(caseB (decide (y4.2.1<(ln y4.2.2.2.2.2.2))) (0≤y4.2.1∧(y4.2.1<(ln y4.2.2.2.2.2.2)∧(caseB (decide (((List.getD y4.2.2.2.2.2.2 (tN y4.2.1) (0,[])).1)<(1:Int))) (Eq (false,((),())) ((fWalOk a0),((),()))) (caseB (decide (((List.getD y4.2.2.2.2.2.2 (tN y4.2.1) (0,[])).1)<y4.1)) (Eq (false,((),())) ((fWalOk a0),((),()))) (caseB (decide (((List.getD y4.2.2.2.2.2.2 (tN y4.2.1) (0,[])).1)>y4.2.2.1)) (Eq (false,((),())) ((fWalOk a0),((),()))) (caseB (decide ((ln ((List.getD y4.2.2.2.2.2.2 (tN y4.2.1) (0,[])).2))>(900:Int))) (Eq (false,((),())) ((fWalOk a0),((),()))) (eS [(1,.box 2 0)] [(1,.box 2 0)]∧(tsI a0 ((List.getD y4.2.2.2.2.2.2 (tN y4.2.1) (0,[])).1) (wI (y4.2.1+(1:Int))) y4.2.2.1 y4.2.2.2.1 y4.2.2.2.2.1 y4.2.2.2.2.2.1 y4.2.2.2.2.2.2)∧(tsM a0 ((List.getD y4.2.2.2.2.2.2 (tN y4.2.1) (0,[])).1) (wI (y4.2.1+(1:Int))) y4.2.2.1 y4.2.2.2.1 y4.2.2.2.2.1 y4.2.2.2.2.2.1 y4.2.2.2.2.2.2)<(tsM a0 y4.1 y4.2.1 y4.2.2.1 y4.2.2.2.1 y4.2.2.2.2.1 y4.2.2.2.2.2.1 y4.2.2.2.2.2.2)))))))) (Eq (true,((),())) ((fWalOk a0),((),())))))))))))))))
def spec_WalOk.L (a0:(Int×(Int×(Int×(Int×(List (Int×(List UInt8)))))))):Nat→Option LoopAnn:=fun p=>Go.Proofs.Ytgfgenbmjbhphaa.Bv.look p [(122,{kp:={hold:=[1],slots:=[3,4],boxes:=[2],rows:=[]},T:=(.pair (.int .i64) (.pair (.int .i64) (.pair (.int .i64) (.pair (.int .i64) (.pair (.int .i64) (.pair (.int .i64) (.list (.pair (.int .i64) .str)))))))),I:=fun st y=>tsI a0 y.1 y.2.1 y.2.2.1 y.2.2.2.1 y.2.2.2.2.1 y.2.2.2.2.2.1 y.2.2.2.2.2.2,μ:=fun st y=>tsM a0 y.1 y.2.1 y.2.2.1 y.2.2.2.1 y.2.2.2.2.1 y.2.2.2.2.2.1 y.2.2.2.2.2.2})]
theorem spec_WalOk.pure (a0:(Int×(Int×(Int×(Int×(List (Int×(List UInt8)))))))) (h:True) (hw:Wf c_spec_WalOk.A a0):spec_WalOk.F a0:=by
 delta spec_WalOk.F ln tN wI eS
 have hB:fPlace a0.2.2.1 a0.2.2.2.1=true→(a0.2.2.2.2.length:Int)≤60→IntKind.wrap .i64 (a0.2.2.1+(a0.2.2.2.2.length:Int))=a0.2.2.1+(a0.2.2.2.2.length:Int):=fun h1 h2=>by
  have:=fPlace_in h1
  exact w64 (by omega) (by omega)
 simp only [forall_eq,true_and,and_true,caseB_iff,Prod.mk.injEq,decide_eq_true_eq,decide_eq_false_iff_not,Bool.not_eq_true',Bool.not_eq_false',bne_iff_ne,ne_eq,beq_iff_eq,Bool.not_true,Bool.not_false,beq_eq_false_iff_ne,bne_eq_false_iff_eq,List.length_append,List.length_cons,List.length_nil,List.append_nil,Nat.zero_add,decide_true,decide_false,eq_self_iff_true,tsI,tsM,tkI,Prod.eta]
 repeat' (with_reducible (first | (refine And.intro ?_ ?_) | intro _))
 all_goals (try simp (disch:=omega) only [w64,wu8,tn0,tn1,tm1,tm2,List.length_append,List.length_cons,List.length_nil] at*)
 all_goals (try simp (disch:=omega) only [w64,wu8,tn0,tn1,tm1,tm2,List.length_append,List.length_cons,List.length_nil] at*)
 all_goals (try omega)
 all_goals (try grind [fWalOk,tAll_yes,tAll_no,trAt,tmOf,fPlace,fIn_iff])
set_option maxRecDepth 100000 in
theorem spec_WalOk.eq:EqS c_spec_WalOk Try.f15 [4] [spec_l1In.e,spec_l5Based.e] [] (fun i x=>spec_WalOk.L x) (fun i x=>spec_WalOk.F x):=by intro i x;kernel_rfl
theorem spec_WalOk.ok:ConOk Try.prog 15 c_spec_WalOk:=okOf spec_WalOk.eq Try.func15 rfl (by kernel_rfl) fun i x h hi hw=>spec_WalOk.pure x h hw
def spec_WalOk.e:GE:=⟨15,c_spec_WalOk,⟨_,Try.func15,rfl,rfl⟩,spec_WalOk.ok⟩
end Go.Proofs.Ytgfgenbmjbhphaa.B
