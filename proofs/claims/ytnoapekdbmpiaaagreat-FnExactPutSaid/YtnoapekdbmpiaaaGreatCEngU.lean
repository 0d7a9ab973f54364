/- Engines:put. -/
import Derived.Test.YtnoapekdbmpiaaaGreatCEngP
namespace Go.Proofs.YtnoapekdbmpiaaaGreat.B
set_option linter.unusedVariables false
set_option linter.unusedSimpArgs false
open Go Go.Proofs.YtnoapekdbmpiaaaGreat.Bv
def c_spec_l10Into:Con:={A:=(.pair (.list (.pair .str (.list (.pair (.int .i64) (.int .i64))))) (.pair .str (.list (.pair (.int .i64) (.int .i64))))),shA:=[.one,.one,.one],R:=(.list (.pair .str (.list (.pair (.int .i64) (.int .i64))))),shR:=[(false,1)],pre:=fun _ a=>(pInto a.1 a.2.1 a.2.2),f:=some fun _ a=>((fInto a.1 a.2.1 a.2.2),((),()))}
def spec_l10Into.F (a0:(List ((List UInt8)×(List (Int×Int))))) (a1:(List UInt8)) (a2:(List (Int×Int))):Prop:=(eS [(0,.val false [.lst (.pair .str (.list (.pair (.int .i64) (.int .i64)))) a0 none]),(1,.val false [.str a1]),(2,.val false [.lst (.pair (.int .i64) (.int .i64)) a2 none])] [(0,.val false [.lst (.pair .str (.list (.pair (.int .i64) (.int .i64)))) a0 none]),(1,.val false [.str a1]),(2,.val false [.lst (.pair (.int .i64) (.int .i64)) a2 none])]∧((itI a0 a1 a2 ([]:List ((List UInt8)×(List (Int×Int)))) false 0)∧∀(y1:((List ((List UInt8)×(List (Int×Int))))×(Bool×Int))),(itI a0 a1 a2 y1.1 y1.2.1 y1.2.2)→(caseB (decide (y1.2.2<(ln a0))) (caseB (!y1.2.1) (0≤y1.2.2∧(y1.2.2<(ln a0)∧(caseB (Op.bytesLess a1 ((List.getD a0 (tN y1.2.2) ([],[])).1)) (List.length ([]:List (Int×Int))+List.length a2≤9223372036854775807∧((List.length ([]:List (Int×Int))+List.length a2)*16≤140737488355328∧(List.length y1.1+List.length [(a1,(([]:List (Int×Int))++a2))]≤9223372036854775807∧((List.length y1.1+List.length [(a1,(([]:List (Int×Int))++a2))])*40≤140737488355328∧(0≤y1.2.2∧(y1.2.2<(ln a0)∧(caseB (((List.getD a0 (tN y1.2.2) ([],[])).1)==a1) ((pMrg8 ((List.getD a0 (tN y1.2.2) ([],[])).2) a2)∧∀r2,(Eq r2 ((fMrg8 ((List.getD a0 (tN y1.2.2) ([],[])).2) a2),((),())))→(List.length (y1.1++[(a1,(([]:List (Int×Int))++a2))])+List.length [((List.getD a0 (tN y1.2.2) ([],[])).1,r2.1)]≤9223372036854775807∧((List.length (y1.1++[(a1,(([]:List (Int×Int))++a2))])+List.length [((List.getD a0 (tN y1.2.2) ([],[])).1,r2.1)])*40≤140737488355328∧(eS [(0,.val false [.lst (.pair .str (.list (.pair (.int .i64) (.int .i64)))) a0 none]),(1,.val false [.str a1]),(2,.val false [.lst (.pair (.int .i64) (.int .i64)) a2 none])] [(0,.val false [.lst (.pair .str (.list (.pair (.int .i64) (.int .i64)))) a0 none]),(1,.val false [.str a1]),(2,.val false [.lst (.pair (.int .i64) (.int .i64)) a2 none])]∧(itI a0 a1 a2 ((y1.1++[(a1,(([]:List (Int×Int))++a2))])++[((List.getD a0 (tN y1.2.2) ([],[])).1,r2.1)]) true (wI (y1.2.2+(1:Int))))∧(itM a0 a1 a2 ((y1.1++[(a1,(([]:List (Int×Int))++a2))])++[((List.getD a0 (tN y1.2.2) ([],[])).1,r2.1)]) true (wI (y1.2.2+(1:Int))))<(itM a0 a1 a2 y1.1 y1.2.1 y1.2.2))))) (List.length (y1.1++[(a1,(([]:List (Int×Int))++a2))])+List.length [((List.getD a0 (tN y1.2.2) ([],[])).1,(List.getD a0 (tN y1.2.2) ([],[])).2)]≤9223372036854775807∧((List.length (y1.1++[(a1,(([]:List (Int×Int))++a2))])+List.length [((List.getD a0 (tN y1.2.2) ([],[])).1,(List.getD a0 (tN y1.2.2) ([],[])).2)])*40≤140737488355328∧(eS [(0,.val false [.lst (.pair .str (.list (.pair (.int .i64) (.int .i64)))) a0 none]),(1,.val false [.str a1]),(2,.val false [.lst (.pair (.int .i64) (.int .i64)) a2 none])] [(0,.val false [.lst (.pair .str (.list (.pair (.int .i64) (.int .i64)))) a0 none]),(1,.val false [.str a1]),(2,.val false [.lst (.pair (.int .i64) (.int .i64)) a2 none])]∧(itI a0 a1 a2 ((y1.1++[(a1,(([]:List (Int×Int))++a2))])++[((List.getD a0 (tN y1.2.2) ([],[])).1,(List.getD a0 (tN y1.2.2) ([],[])).2)]) true (wI (y1.2.2+(1:Int))))∧(itM a0 a1 a2 ((y1.1++[(a1,(([]:List (Int×Int))++a2))])++[((List.getD a0 (tN y1.2.2) ([],[])).1,(List.getD a0 (tN y1.2.2) ([],[])).2)]) true (wI (y1.2.2+(1:Int))))<(itM a0 a1 a2 y1.1 y1.2.1 y1.2.2))))))))))) (0≤y1.2.2∧(y1.2.2<(ln a0)∧(caseB (((List.getD a0 (tN y1.2.2) ([],[])).1)==a1) ((pMrg8 ((List.getD a0 (tN y1.2.2) ([],[])).2) a2)∧∀r3,(Eq r3 ((fMrg8 ((List.getD a0 (tN y1.2.2) ([],[])).2) a2),((),())))→(List.length y1.1+List.length [((List.getD a0 (tN y1.2.2) ([],[])).1,r3.1)]≤9223372036854775807∧((List.length y1.1+List.length [((List.getD a0 (tN y1.2.2) ([],[])).1,r3.1)])*40≤140737488355328∧(eS [(0,.val false [.lst (.pair .str (.list (.pair (.int .i64) (.int .i64)))) a0 none]),(1,.val false [.str a1]),(2,.val false [.lst (.pair (.int .i64) (.int .i64)) a2 none])] [(0,.val false [.lst (.pair .str (.list (.pair (.int .i64) (.int .i64)))) a0 none]),(1,.val false [.str a1]),(2,.val false [.lst (.pair (.int .i64) (.int .i64)) a2 none])]∧(itI a0 a1 a2 (y1.1++[((List.getD a0 (tN y1.2.2) ([],[])).1,r3.1)]) true (wI (y1.2.2+(1:Int))))∧(itM a0 a1 a2 (y1.1++[((List.getD a0 (tN y1.2.2) ([],[])).1,r3.1)]) true (wI (y1.2.2+(1:Int))))<(itM a0 a1 a2 y1.1 y1.2.1 y1.2.2))))) (List.length y1.1+List.length [((List.getD a0 (tN y1.2.2) ([],[])).1,(List.getD a0 (tN y1.2.2) ([],[])).2)]≤9223372036854775807∧((List.length y1.1+List.length [((List.getD a0 (tN y1.2.2) ([],[])).1,(List.getD a0 (tN y1.2.2) ([],[])).2)])*40≤140737488355328∧(eS [(0,.val false [.lst (.pair .str (.list (.pair (.int .i64) (.int .i64)))) a0 none]),(1,.val false [.str a1]),(2,.val false [.lst (.pair (.int .i64) (.int .i64)) a2 none])] [(0,.val false [.lst (.pair .str (.list (.pair (.int .i64) (.int .i64)))) a0 none]),(1,.val false [.str a1]),(2,.val false [.lst (.pair (.int .i64) (.int .i64)) a2 none])]∧(itI a0 a1 a2 (y1.1++[((List.getD a0 (tN y1.2.2) ([],[])).1,(List.getD a0 (tN y1.2.2) ([],[])).2)]) y1.2.1 (wI (y1.2.2+(1:Int))))∧(itM a0 a1 a2 (y1.1++[((List.getD a0 (tN y1.2.2) ([],[])).1,(List.getD a0 (tN y1.2.2) ([],[])).2)]) y1.2.1 (wI (y1.2.2+(1:Int))))<(itM a0 a1 a2 y1.1 y1.2.1 y1.2.2)))))))))) (0≤y1.2.2∧(y1.2.2<(ln a0)∧(caseB (((List.getD a0 (tN y1.2.2) ([],[])).1)==a1) ((pMrg8 ((List.getD a0 (tN y1.2.2) ([],[])).2) a2)∧∀r4,(Eq r4 ((fMrg8 ((List.getD a0 (tN y1.2.2) ([],[])).2) a2),((),())))→(List.length y1.1+List.length [((List.getD a0 (tN y1.2.2) ([],[])).1,r4.1)]≤9223372036854775807∧((List.length y1.1+List.length [((List.getD a0 (tN y1.2.2) ([],[])).1,r4.1)])*40≤140737488355328∧(eS [(0,.val false [.lst (.pair .str (.list (.pair (.int .i64) (.int .i64)))) a0 none]),(1,.val false [.str a1]),(2,.val false [.lst (.pair (.int .i64) (.int .i64)) a2 none])] [(0,.val false [.lst (.pair .str (.list (.pair (.int .i64) (.int .i64)))) a0 none]),(1,.val false [.str a1]),(2,.val false [.lst (.pair (.int .i64) (.int .i64)) a2 none])]∧(itI a0 a1 a2 (y1.1++[((List.getD a0 (tN y1.2.2) ([],[])).1,r4.1)]) true (wI (y1.2.2+(1:Int))))∧(itM a0 a1 a2 (y1.1++[((List.getD a0 (tN y1.2.2) ([],[])).1,r4.1)]) true (wI (y1.2.2+(1:Int))))<(itM a0 a1 a2 y1.1 y1.2.1 y1.2.2))))) (List.length y1.1+List.length [((List.getD a0 (tN y1.2.2) ([],[])).1,(List.getD a0 (tN y1.2.2) ([],[])).2)]≤9223372036854775807∧((List.length y1.1+List.length [((List.getD a0 (tN y1.2.2) ([],[])).1,(List.getD a0 (tN y1.2.2) ([],[])).2)])*40≤140737488355328∧(eS [(0,.val false [.lst (.pair .str (.list (.pair (.int .i64) (.int .i64)))) a0 none]),(1,.val false [.str a1]),(2,.val false [.lst (.pair (.int .i64) (.int .i64)) a2 none])] [(0,.val false [.lst (.pair .str (.list (.pair (.int .i64) (.int .i64)))) a0 none]),(1,.val false [.str a1]),(2,.val false [.lst (.pair (.int .i64) (.int .i64)) a2 none])]∧(itI a0 a1 a2 (y1.1++[((List.getD a0 (tN y1.2.2) ([],[])).1,(List.getD a0 (tN y1.2.2) ([],[])).2)]) y1.2.1 (wI (y1.2.2+(1:Int))))∧(itM a0 a1 a2 (y1.1++[((List.getD a0 (tN y1.2.2) ([],[])).1,(List.getD a0 (tN y1.2.2) ([],[])).2)]) y1.2.1 (wI (y1.2.2+(1:Int))))<(itM a0 a1 a2 y1.1 y1.2.1 y1.2.2)))))))) (caseB (!y1.2.1) (List.length ([]:List (Int×Int))+List.length a2≤9223372036854775807∧((List.length ([]:List (Int×Int))+List.length a2)*16≤140737488355328∧(List.length y1.1+List.length [(a1,(([]:List (Int×Int))++a2))]≤9223372036854775807∧((List.length y1.1+List.length [(a1,(([]:List (Int×Int))++a2))])*40≤140737488355328∧(Eq ((y1.1++[(a1,(([]:List (Int×Int))++a2))]),((),())) ((fInto a0 a1 a2),((),()))))))) (Eq (y1.1,((),())) ((fInto a0 a1 a2),((),())))))))
def spec_l10Into.L (a0:(List ((List UInt8)×(List (Int×Int))))) (a1:(List UInt8)) (a2:(List (Int×Int))):Nat→Option LoopAnn:=fun p=>Go.Proofs.YtnoapekdbmpiaaaGreat.Bv.look p [(122,{kp:={hold:=[0,1,2],slots:=[7,8,9],boxes:=[],rows:=[{bx:=false,s:=7,i:=0,k:=1000899,e:=72,hot:=false}]},T:=(.pair (.list (.pair .str (.list (.pair (.int .i64) (.int .i64))))) (.pair .bool (.int .i64))),I:=fun st y=>itI a0 a1 a2 y.1 y.2.1 y.2.2,μ:=fun st y=>itM a0 a1 a2 y.1 y.2.1 y.2.2})]
theorem spec_l10Into.pure (a0:(List ((List UInt8)×(List (Int×Int))))) (a1:(List UInt8)) (a2:(List (Int×Int))) (h:(pInto a0 a1 a2)) (hw:Wf c_spec_l10Into.A (a0,a1,a2)):spec_l10Into.F a0 a1 a2:=by
 delta spec_l10Into.F ln tN wI eS
 simp only [forall_eq,true_and,and_true,caseB_iff,Prod.mk.injEq,decide_eq_true_eq,decide_eq_false_iff_not,Bool.not_eq_true',Bool.not_eq_false',bne_iff_ne,ne_eq,beq_iff_eq,Bool.not_true,Bool.not_false,beq_eq_false_iff_ne,bne_eq_false_iff_eq,List.length_append,List.length_cons,List.length_nil,List.append_nil,Nat.zero_add,decide_true,decide_false,eq_self_iff_true,fMrg8,pMrg8,Prod.eta,List.nil_append]
 obtain⟨hn,hl⟩:=h
 have k1:=len_tot a0
 refine⟨⟨by omega,by omega,rfl,by simp⟩,?_⟩
 rintro⟨out,put,i⟩ hI
 simp only at hI ⊢
 have q1:=hI.h1
 have q2:=hI.h2
 have q4:=hI.h4
 have hen:=it_end hI
 have hm:i<(a0.length:Int)→((a0.getD i.toNat ([],[])).2.length:Int)+1≤tot a0:=fun hi=>mem_tot (getD_mem (by omega))
 have st:∀{o' put'},i<(a0.length:Int)→_→_→itI a0 a1 a2 o' put' (i+1):=fun hi=>it_step hI hi
 have dn:∀o p,i<(a0.length:Int)→itM a0 a1 a2 o p (i+1)<itM a0 a1 a2 out put i:=fun o p h=>by unfold itM;omega
 generalize hx:a0.getD i.toNat ([],[])=x at st hm ⊢
 repeat' (with_reducible (first | (refine And.intro ?_ ?_) | intro _))
 all_goals (try simp (disch:=omega) only [w64,List.length_append,List.length_cons,List.length_nil] at*)
 all_goals (try have hm2:=hm ‹_›)
 all_goals (first
  | omega
  | exact dn _ _ ‹_›
  | exact (hen ‹_›).1 ‹_›
  | exact (hen ‹_›).2 ‹_›
  | (refine st ‹_› (by simp only [List.length_append,List.length_cons,List.length_nil];omega) fun r=>?_;simp only [intoR,List.append_assoc,List.cons_append,List.nil_append];first | (simp [*];done) | (simp_all;done))
  | skip)
set_option maxRecDepth 100000 in
theorem spec_l10Into.eq:EqS c_spec_l10Into Tryz.f143 [29] [spec_l8Merge.e] [] (fun i x=>spec_l10Into.L x.1 x.2.1 x.2.2) (fun i x=>spec_l10Into.F x.1 x.2.1 x.2.2):=by intro i x;kernel_rfl
theorem spec_l10Into.ok:ConOk Tryz.prog 143 c_spec_l10Into:=okOf spec_l10Into.eq Tryz.func143 rfl (by kernel_rfl) fun i x h hi hw=>spec_l10Into.pure x.1 x.2.1 x.2.2 h hw
def spec_l10Into.e:GE:=⟨143,c_spec_l10Into,⟨_,Tryz.func143,rfl,rfl⟩,spec_l10Into.ok⟩
def fLyr2 (e:Eng):(List (List Ser)×Bool)×List Str:=(fLyr e,e.2.2)
def c_spec_l10Layers2:Con:={A:=(.pair (.int .i64) (.pair (.list (.pair .str (.list (.pair (.int .i64) (.int .i64))))) (.list .str))),shA:=[.agg 3],backA:=[(2,9)],B:=(.list .str),R:=(.pair (.list (.list (.pair .str (.list (.pair (.int .i64) (.int .i64)))))) .bool),shR:=[(false,1),(false,1)],pre:=fun _ a=>(pLyr a),f:=some fun _ a=>((fLyr2 a).1,((),(fLyr2 a).2))}
def spec_l10Layers2.F (a0:(Int×((List ((List UInt8)×(List (Int×Int))))×(List (List UInt8))))):Prop:=(eS [(0,.val true [.int .i64 a0.1,.lst (.pair .str (.list (.pair (.int .i64) (.int .i64)))) a0.2.1 none,.own .str 6]),(1,.box 2 0)] [(0,.val true [.int .i64 a0.1,.lst (.pair .str (.list (.pair (.int .i64) (.int .i64)))) a0.2.1 none,.own .str 6]),(1,.box 2 0)]∧((lyI a0 ([]:List (List ((List UInt8)×(List (Int×Int))))) 0 a0.1 a0.2.1 a0.2.2)∧∀(y1:((List (List ((List UInt8)×(List (Int×Int)))))×(Int×(Int×((List ((List UInt8)×(List (Int×Int))))×(List (List UInt8))))))),(lyI a0 y1.1 y1.2.1 y1.2.2.1 y1.2.2.2.1 y1.2.2.2.2)→(caseB (decide (y1.2.1<(ln y1.2.2.2.2))) (0≤y1.2.1∧(y1.2.1<(ln y1.2.2.2.2)∧((pStr (List.getD y1.2.2.2.2 (tN y1.2.1) []))∧∀r2,(Eq r2 ((fReadFile (List.getD y1.2.2.2.2 (tN y1.2.1) [])),((),())))→(caseB (!r2.1.2) (Eq ((y1.1,false),((),y1.2.2.2.2)) ((fLyr2 a0).1,((),(fLyr2 a0).2))) (List.length y1.1+List.length [r2.1.1]≤9223372036854775807∧((List.length y1.1+List.length [r2.1.1])*24≤140737488355328∧(eS [(0,.val true [.int .i64 a0.1,.lst (.pair .str (.list (.pair (.int .i64) (.int .i64)))) a0.2.1 none,.own .str 6]),(1,.box 2 0)] [(0,.val true [.int .i64 a0.1,.lst (.pair .str (.list (.pair (.int .i64) (.int .i64)))) a0.2.1 none,.own .str 6]),(1,.box 2 0)]∧(lyI a0 (y1.1++[r2.1.1]) (wI (y1.2.1+(1:Int))) y1.2.2.1 y1.2.2.2.1 y1.2.2.2.2)∧(lyM a0 (y1.1++[r2.1.1]) (wI (y1.2.1+(1:Int))) y1.2.2.1 y1.2.2.2.1 y1.2.2.2.2)<(lyM a0 y1.1 y1.2.1 y1.2.2.1 y1.2.2.2.1 y1.2.2.2.2)))))))) (List.length y1.1+List.length [y1.2.2.2.1]≤9223372036854775807∧((List.length y1.1+List.length [y1.2.2.2.1])*24≤140737488355328∧(Eq (((y1.1++[y1.2.2.2.1]),true),((),y1.2.2.2.2)) ((fLyr2 a0).1,((),(fLyr2 a0).2))))))))
def spec_l10Layers2.L (a0:(Int×((List ((List UInt8)×(List (Int×Int))))×(List (List UInt8))))):Nat→Option LoopAnn:=fun p=>Go.Proofs.YtnoapekdbmpiaaaGreat.Bv.look p [(58,{kp:={hold:=[0,1],slots:=[4,5],boxes:=[2],rows:=[{bx:=false,s:=4,i:=0,k:=1000515,e:=29,hot:=false},{bx:=false,s:=0,i:=2,k:=6,e:=9,hot:=true}]},T:=(.pair (.list (.list (.pair .str (.list (.pair (.int .i64) (.int .i64)))))) (.pair (.int .i64) (.pair (.int .i64) (.pair (.list (.pair .str (.list (.pair (.int .i64) (.int .i64))))) (.list .str))))),I:=fun st y=>lyI a0 y.1 y.2.1 y.2.2.1 y.2.2.2.1 y.2.2.2.2,μ:=fun st y=>lyM a0 y.1 y.2.1 y.2.2.1 y.2.2.2.1 y.2.2.2.2})]
theorem spec_l10Layers2.pure (a0:(Int×((List ((List UInt8)×(List (Int×Int))))×(List (List UInt8))))) (h:(pLyr a0)) (hw:Wf c_spec_l10Layers2.A a0):spec_l10Layers2.F a0:=by
 delta spec_l10Layers2.F ln tN wI eS
 simp only [forall_eq,true_and,and_true,caseB_iff,Prod.mk.injEq,decide_eq_true_eq,decide_eq_false_iff_not,Bool.not_eq_true',Bool.not_eq_false',bne_iff_ne,ne_eq,beq_iff_eq,Bool.not_true,Bool.not_false,beq_eq_false_iff_ne,bne_eq_false_iff_eq,List.length_append,List.length_cons,List.length_nil,List.append_nil,Nat.zero_add,decide_true,decide_false,eq_self_iff_true,Prod.eta,fLyr2]
 obtain⟨hf,hl⟩:=h
 refine⟨⟨rfl,by omega,by omega,by simp [fLay],fun j hj=>absurd hj (by simp)⟩,?_⟩
 rintro⟨out,i,fl,ca,fi⟩ hI
 simp only at hI ⊢
 have q1:=hI.h1
 have q2:=hI.h2
 have q3:=congrArg List.length hI.h3
 rw [fLay_length,List.length_take] at q3
 have st:=ly_step hI
 have no:=ly_no hI
 have en:=ly_end hI
 obtain rfl:=hI.h0
 simp only at hf hl q2 q3 st no en ⊢
 refine⟨fun hi=>?_,fun hi=>⟨by omega,by omega,en hi,trivial⟩⟩
 have hm:=getD_mem (d:=([]:List UInt8)) (by omega:i.toNat<fi.length)
 rw [w64 (x:=i+1) (by omega) (by omega)]
 exact⟨q1,hi,hf _ hm,fun hr=>⟨no hi hr,trivial⟩,fun hr=>⟨by omega,by omega,st hi hr,by unfold lyM;simp only;omega⟩⟩
set_option maxRecDepth 100000 in
theorem spec_l10Layers2.eq:EqS c_spec_l10Layers2 Tryz.f57 [81,4] [spec_ReadFile.e] [] (fun i x=>spec_l10Layers2.L x) (fun i x=>spec_l10Layers2.F x):=by intro i x;kernel_rfl
theorem spec_l10Layers2.ok:ConOk Tryz.prog 57 c_spec_l10Layers2:=okOf spec_l10Layers2.eq Tryz.func57 rfl (by kernel_rfl) fun i x h hi hw=>spec_l10Layers2.pure x h hw
def spec_l10Layers2.e:GE:=⟨57,c_spec_l10Layers2,⟨_,Tryz.func57,rfl,rfl⟩,spec_l10Layers2.ok⟩
def fPutS (e:Eng) (k:Str) (p:List Pt):Eng×Int:=fPut e k p
def pPutS (e:Eng) (k:Str) (p:List Pt):Prop:=fEngOk e=true∧pEng e∧pKey k
def pPut (e:Eng) (k:Str) (p:List Pt):Prop:=pEng e∧pKey k
def c_spec_l10Put:Con:={A:=(.pair (.pair (.int .i64) (.pair (.list (.pair .str (.list (.pair (.int .i64) (.int .i64))))) (.list .str))) (.pair .str (.list (.pair (.int .i64) (.int .i64))))),shA:=[.agg 3,.one,.one],ownA:=[(2,9)],R:=(.pair (.pair (.int .i64) (.pair (.list (.pair .str (.list (.pair (.int .i64) (.int .i64))))) (.list .str))) (.int .i64)),shR:=[(true,3),(false,1)],fresh:=[(2,9)],pre:=fun _ a=>(pPutS a.1 a.2.1 a.2.2),f:=some fun _ a=>((fPutS a.1 a.2.1 a.2.2),((),()))}
def spec_l10Put.F (a0:(Int×((List ((List UInt8)×(List (Int×Int))))×(List (List UInt8))))) (a1:(List UInt8)) (a2:(List (Int×Int))):Prop:=((pKey a1)∧∀r1,(Eq r1 ((fKey a1),((),())))→(caseB (!r1.1) (Eq (((a0.1,(a0.2.1,a0.2.2)),1),((),())) ((fPutS a0 a1 a2),((),()))) (True∧∀r2,(Eq r2 ((fPtsOk a2),((),())))→(caseB (!r2.1) (Eq (((a0.1,(a0.2.1,a0.2.2)),1),((),())) ((fPutS a0 a1 a2),((),()))) (caseB ((ln a2)==(0:Int)) (Eq (((a0.1,(a0.2.1,a0.2.2)),1),((),())) ((fPutS a0 a1 a2),((),()))) (0≤(0:Int)∧((0:Int)<(ln a2)∧(caseB (decide (((List.getD a2 (tN (0:Int)) (0,0)).1)<a0.1)) (Eq (((a0.1,(a0.2.1,a0.2.2)),2),((),())) ((fPutS a0 a1 a2),((),()))) ((pInto a0.2.1 a1 a2)∧∀r3,(Eq r3 ((fInto a0.2.1 a1 a2),((),())))→((pLyr (a0.1,(r3.1,a0.2.2)))∧∀r4,(Eq r4 ((fLyr2 (a0.1,(r3.1,a0.2.2))).1,((),(fLyr2 (a0.1,(r3.1,a0.2.2))).2)))→((pPlS r4.1.1 a0.1)∧∀r5,(Eq r5 ((fPlS r4.1.1 a0.1),((),())))→((pSerOk r5.1)∧∀r6,(Eq r6 ((fSerOk r5.1),((),())))→(caseB (!r6.1) (Eq (((a0.1,(a0.2.1,r4.2.2)),3),((),())) ((fPutS a0 a1 a2),((),()))) ((pCnt r3.1)∧∀r7,(Eq r7 ((fCnt r3.1),((),())))→(caseB (decide (r7.1>(40:Int))) ((pFl (a0.1,(r3.1,r4.2.2)))∧∀r8,(Eq r8 ((fFl (a0.1,(r3.1,r4.2.2))),((),())))→(Eq (((r8.1.1,(r8.1.2.1,r8.1.2.2)),0),((),())) ((fPutS a0 a1 a2),((),())))) (Eq (((a0.1,(r3.1,r4.2.2)),0),((),())) ((fPutS a0 a1 a2),((),()))))))))))))))))))
theorem spec_l10Put.pure (a0:(Int×((List ((List UInt8)×(List (Int×Int))))×(List (List UInt8))))) (a1:(List UInt8)) (a2:(List (Int×Int))) (h:(pPutS a0 a1 a2)) (hw:Wf c_spec_l10Put.A (a0,a1,a2)):spec_l10Put.F a0 a1 a2:=by
 delta spec_l10Put.F ln tN
 simp only [forall_eq,true_and,and_true,caseB_iff,Prod.mk.injEq,decide_eq_true_eq,decide_eq_false_iff_not,Bool.not_eq_true',Bool.not_eq_false',bne_iff_ne,ne_eq,beq_iff_eq,Bool.not_true,Bool.not_false,beq_eq_false_iff_ne,bne_eq_false_iff_eq,List.length_append,List.length_cons,List.length_nil,List.append_nil,Nat.zero_add,decide_true,decide_false,eq_self_iff_true,Prod.eta,fPutS,fLyr2]
 obtain⟨h1,hp,hk⟩:=h
 have G:=good_of h1 hp
 have bad:¬(fKey a1=true∧fPtsOk a2=true∧a2≠[])→(a0,(1:Int))=fPut a0 a1 a2:=fun h=>by unfold fPut;rw [if_pos h1,if_neg h]
 have late:(fKey a1=true∧fPtsOk a2=true∧a2≠[])→(a2.getD 0 (0,0)).1<a0.1→(a0,(2:Int))=fPut a0 a1 a2:=fun h h'=>by unfold fPut;rw [if_pos h1,if_pos h,if_pos h']
 have full:(fKey a1=true∧fPtsOk a2=true∧a2≠[])→¬(a2.getD 0 (0,0)).1<a0.1→fSerOk (fPlainE (eX a0 a1 a2)).1=false→(a0,(3:Int))=fPut a0 a1 a2:=fun h h' h2=>by unfold fPut;rw [if_pos h1,if_pos h,if_neg h',if_neg (by rw [h2];decide)]
 have big:(fKey a1=true∧fPtsOk a2=true∧a2≠[])→¬(a2.getD 0 (0,0)).1<a0.1→fSerOk (fPlainE (eX a0 a1 a2)).1=true→40<fCnt (eX a0 a1 a2).2.1→(fFl (eX a0 a1 a2),(0:Int))=fPut a0 a1 a2:=fun h h' h2 h3=>by unfold fPut;rw [if_pos h1,if_pos h,if_neg h',if_pos h2,if_pos h3]
 have fine:(fKey a1=true∧fPtsOk a2=true∧a2≠[])→¬(a2.getD 0 (0,0)).1<a0.1→fSerOk (fPlainE (eX a0 a1 a2)).1=true→¬40<fCnt (eX a0 a1 a2).2.1→(eX a0 a1 a2,(0:Int))=fPut a0 a1 a2:=fun h h' h2 h3=>by unfold fPut;rw [if_pos h1,if_pos h,if_neg h',if_pos h2,if_neg h3]
 have ca:=fSerOk_R G.ca
 have le:=G.le
 refine⟨hk,fun h2=>bad (by simp [h2]),fun h2=>⟨fun h3=>bad (by simp [h3]),fun h3=>⟨fun h4=>bad (fun hh=>hh.2.2 (List.length_eq_zero_iff.1 (by omega))),fun h4=>?_⟩⟩⟩
 have hn:a2≠[]:=fun e=>h4 (by rw [e];rfl)
 have hn2:0<a2.length:=List.length_pos_iff.2 hn
 have hq:fKey a1=true∧fPtsOk a2=true∧a2≠[]:=⟨h2,h3,hn⟩
 have hl:=fPtsOk_R h3
 have e0:(0:Int).toNat=0:=rfl
 simp only [e0]
 refine⟨by omega,by omega,fun h5=>late hq h5,fun h5=>⟨⟨by omega,by omega⟩,?_⟩⟩
 obtain⟨X1,X2⟩:=put_good h1 hp h3 hn h5
 have eX0:(a0.1,fInto a0.2.1 a1 a2,a0.2.2)=eX a0 a1 a2:=by rw [into_lay G.R.1];rfl
 have eX1:fInto a0.2.1 a1 a2=(eX a0 a1 a2).2.1:=by rw [←eX0]
 have hS:∀x∈[((a1,a2):Ser)],PtsR x.2:=fun x hx=>by rw [List.mem_singleton.1 hx];exact hl.1
 have hc2:SerR (eX a0 a1 a2).2.1:=fLaid_R G.R hS
 have ht2:tot (eX a0 a1 a2).2.1≤305+61:=by
  have t1:=fLaid_tot G.R hS
  have t2:tot [((a1,a2):Ser)]=(a2.length:Int)+1:=by simp [tot,cL,cS]
  have t3:tot (eX a0 a1 a2).2.1=tot (fLaid a0.2.1 [(a1,a2)]):=rfl
  omega
 have hy:fLyr (eX a0 a1 a2)=(fLay a0.2.2++[(eX a0 a1 a2).2.1],true):=layers_ok (e:=eX a0 a1 a2) G.ok
 have hpl:fPlS (fLay a0.2.2++[(eX a0 a1 a2).2.1]) a0.1=(fPlainE (eX a0 a1 a2)).1:=plS_E (e:=eX a0 a1 a2) hc2 G.ok
 have htt:=lays_tot (eX a0 a1 a2)
 have htt2:cL tot (fLay (eX a0 a1 a2).2.2++[(eX a0 a1 a2).2.1])=cL tot (fLay a0.2.2++[(eX a0 a1 a2).2.1]):=rfl
 have hle2:(eX a0 a1 a2).2.2.length=a0.2.2.length:=rfl
 have hkey:pSerOk (fPlainE (eX a0 a1 a2)).1:=by
  rw [←X1]
  have hk8:a1.length≤8:=by
   have:=h2;unfold fKey fIn at this;simp only [Bool.and_eq_true,decide_eq_true_eq] at this;omega
  refine serKey (fLaid_key (fun x hx=>((fSerOk_R G.pl).2.2.2 x hx).1) fun x hx=>?_)
  rw [List.mem_singleton.1 hx];exact hk8
 rw [eX0,hy]
 simp only
 rw [hpl,eX1]
 refine⟨⟨G.st,by omega⟩,by unfold pPlS;omega,hkey,fun h6=>full hq h5 h6,fun h6=>⟨by unfold pCnt;omega,fun h7=>⟨X2 h6,big hq h5 h6 h7⟩,fun h7=>fine hq h5 h6 (by omega)⟩⟩
set_option maxRecDepth 100000 in
theorem spec_l10Put.eq:EqS c_spec_l10Put Tryz.f82 [31,3] [spec_l10Layers2.e,spec_l10Plain.e,spec_l10Flush.e,spec_SeriesOk.e,spec_l10Count.e,spec_PointsOk.e,spec_l9Key.e,spec_l10Into.e] [] noL (fun i x=>spec_l10Put.F x.1 x.2.1 x.2.2):=by intro i x;kernel_rfl
theorem spec_l10Put.ok:ConOk Tryz.prog 82 c_spec_l10Put:=okOf spec_l10Put.eq Tryz.func82 rfl (by kernel_rfl) fun i x h hi hw=>spec_l10Put.pure x.1 x.2.1 x.2.2 h hw
def spec_l10Put.e:GE:=⟨82,c_spec_l10Put,⟨_,Tryz.func82,rfl,rfl⟩,spec_l10Put.ok⟩
def c_impl_Put:Con:={A:=(.pair (.pair (.int .i64) (.pair (.list (.pair .str (.list (.pair (.int .i64) (.int .i64))))) (.list .str))) (.pair .str (.list (.pair (.int .i64) (.int .i64))))),shA:=[.agg 3,.one,.one],R:=(.pair (.pair (.int .i64) (.pair (.list (.pair .str (.list (.pair (.int .i64) (.int .i64))))) (.list .str))) (.int .i64)),shR:=[(true,3),(false,1)],fresh:=[(1,72),(2,9)],pre:=fun _ a=>(pPut a.1 a.2.1 a.2.2),f:=some fun _ a=>((fPut a.1 a.2.1 a.2.2),((),()))}
def impl_Put.F (a0:(Int×((List ((List UInt8)×(List (Int×Int))))×(List (List UInt8))))) (a1:(List UInt8)) (a2:(List (Int×Int))):Prop:=((pEng (a0.1,(a0.2.1,a0.2.2)))∧∀r1,(Eq r1 ((fEngRead (a0.1,(a0.2.1,a0.2.2))),((),())))→(caseB (!r1.1.2) (Eq (((0,(([]:(List ((List UInt8)×(List (Int×Int))))),([]:(List (List UInt8))))),1),((),())) ((fPut a0 a1 a2),((),()))) ((pIdE (a0.1,(a0.2.1,a0.2.2)))∧∀r2,(Eq r2 ((fIdE (a0.1,(a0.2.1,a0.2.2))),((),())))→((pKey a1)∧∀r3,(Eq r3 ((fKey a1),((),())))→(caseB (!r3.1) (Eq (((r2.1.1,(r2.1.2.1,r2.1.2.2)),1),((),())) ((fPut a0 a1 a2),((),()))) (True∧∀r4,(Eq r4 ((fPtsOk a2),((),())))→(caseB (!r4.1) (Eq (((r2.1.1,(r2.1.2.1,r2.1.2.2)),1),((),())) ((fPut a0 a1 a2),((),()))) (caseB ((ln a2)==(0:Int)) (Eq (((r2.1.1,(r2.1.2.1,r2.1.2.2)),1),((),())) ((fPut a0 a1 a2),((),()))) (0≤(0:Int)∧((0:Int)<(ln a2)∧(caseB (decide (((List.getD a2 (tN (0:Int)) (0,0)).1)<r2.1.1)) (Eq (((r2.1.1,(r2.1.2.1,r2.1.2.2)),2),((),())) ((fPut a0 a1 a2),((),()))) ((pLaid r1.1.1 [(a1,a2)])∧∀r5,(Eq r5 ((fLaid r1.1.1 [(a1,a2)]),((),())))→((pSerOk r5.1)∧∀r6,(Eq r6 ((fSerOk r5.1),((),())))→(caseB (!r6.1) (Eq (((r2.1.1,(r2.1.2.1,r2.1.2.2)),3),((),())) ((fPut a0 a1 a2),((),()))) ((pLaid r2.1.2.1 [(a1,a2)])∧∀r7,(Eq r7 ((fLaid r2.1.2.1 [(a1,a2)]),((),())))→((pCnt r7.1)∧∀r8,(Eq r8 ((fCnt r7.1),((),())))→(caseB (decide (r8.1>(40:Int))) ((pFl (r2.1.1,(r7.1,r2.1.2.2)))∧∀r9,(Eq r9 ((fFl (r2.1.1,(r7.1,r2.1.2.2))),((),())))→(Eq (((r9.1.1,(r9.1.2.1,r9.1.2.2)),0),((),())) ((fPut a0 a1 a2),((),())))) (Eq (((r2.1.1,(r7.1,r2.1.2.2)),0),((),())) ((fPut a0 a1 a2),((),()))))))))))))))))))))
theorem impl_Put.pure (a0:(Int×((List ((List UInt8)×(List (Int×Int))))×(List (List UInt8))))) (a1:(List UInt8)) (a2:(List (Int×Int))) (h:(pPut a0 a1 a2)) (hw:Wf c_impl_Put.A (a0,a1,a2)):impl_Put.F a0 a1 a2:=by
 delta impl_Put.F ln tN
 simp only [forall_eq,true_and,and_true,caseB_iff,Prod.mk.injEq,decide_eq_true_eq,decide_eq_false_iff_not,Bool.not_eq_true',Bool.not_eq_false',bne_iff_ne,ne_eq,beq_iff_eq,Bool.not_true,Bool.not_false,beq_eq_false_iff_ne,bne_eq_false_iff_eq,List.length_append,List.length_cons,List.length_nil,List.append_nil,Nat.zero_add,decide_true,decide_false,eq_self_iff_true,Prod.eta,fIdE]
 obtain⟨hp,hk⟩:=h
 refine⟨hp,fun h1=>?_,fun h1=>?_⟩
 · unfold fPut;rw [if_neg (by rw [←engRead_two,h1];decide)];rfl
 have h1:fEngOk a0=true:=h1
 have G:=good_of h1 hp
 have bad:¬(fKey a1=true∧fPtsOk a2=true∧a2≠[])→(a0,(1:Int))=fPut a0 a1 a2:=fun h=>by unfold fPut;rw [if_pos h1,if_neg h]
 have late:(fKey a1=true∧fPtsOk a2=true∧a2≠[])→(a2.getD 0 (0,0)).1<a0.1→(a0,(2:Int))=fPut a0 a1 a2:=fun h h'=>by unfold fPut;rw [if_pos h1,if_pos h,if_pos h']
 have full:(fKey a1=true∧fPtsOk a2=true∧a2≠[])→¬(a2.getD 0 (0,0)).1<a0.1→fSerOk (fPlainE (eX a0 a1 a2)).1=false→(a0,(3:Int))=fPut a0 a1 a2:=fun h h' h2=>by unfold fPut;rw [if_pos h1,if_pos h,if_neg h',if_neg (by rw [h2];decide)]
 have big:(fKey a1=true∧fPtsOk a2=true∧a2≠[])→¬(a2.getD 0 (0,0)).1<a0.1→fSerOk (fPlainE (eX a0 a1 a2)).1=true→40<fCnt (eX a0 a1 a2).2.1→(fFl (eX a0 a1 a2),(0:Int))=fPut a0 a1 a2:=fun h h' h2 h3=>by unfold fPut;rw [if_pos h1,if_pos h,if_neg h',if_pos h2,if_pos h3]
 have fine:(fKey a1=true∧fPtsOk a2=true∧a2≠[])→¬(a2.getD 0 (0,0)).1<a0.1→fSerOk (fPlainE (eX a0 a1 a2)).1=true→¬40<fCnt (eX a0 a1 a2).2.1→(eX a0 a1 a2,(0:Int))=fPut a0 a1 a2:=fun h h' h2 h3=>by unfold fPut;rw [if_pos h1,if_pos h,if_neg h',if_pos h2,if_neg h3]
 have ca:=fSerOk_R G.ca
 have le:=G.le
 obtain⟨g1,g2,g3,g4⟩:=engOk_parts h1
 rw [g3]
 simp only
 refine⟨idE_of h1,hk,fun h2=>bad (by simp [h2]),fun h2=>⟨fun h3=>bad (by simp [h3]),fun h3=>⟨fun h4=>bad (fun hh=>hh.2.2 (List.length_eq_zero_iff.1 (by omega))),fun h4=>?_⟩⟩⟩
 have hn:a2≠[]:=fun e=>h4 (by rw [e];rfl)
 have hn2:0<a2.length:=List.length_pos_iff.2 hn
 have hq:fKey a1=true∧fPtsOk a2=true∧a2≠[]:=⟨h2,h3,hn⟩
 have hl:=fPtsOk_R h3
 have e0:(0:Int).toNat=0:=rfl
 simp only [e0]
 have pl:=fSerOk_R G.pl
 have hS:∀x∈[((a1,a2):Ser)],PtsR x.2:=fun x hx=>by rw [List.mem_singleton.1 hx];exact hl.1
 have t2:tot [((a1,a2):Ser)]=(a2.length:Int)+1:=by simp [tot,cL,cS]
 refine⟨by omega,by omega,fun h5=>late hq h5,fun h5=>⟨⟨pl.1,hS,by omega⟩,?_⟩⟩
 obtain⟨X1,X2⟩:=put_good h1 hp h3 hn h5
 have hkey:pSerOk (fPlainE (eX a0 a1 a2)).1:=by
  rw [←X1]
  have hk8:a1.length≤8:=by
   have:=h2;unfold fKey fIn at this;simp only [Bool.and_eq_true,decide_eq_true_eq] at this;omega
  refine serKey (fLaid_key (fun x hx=>((fSerOk_R G.pl).2.2.2 x hx).1) fun x hx=>?_)
  rw [List.mem_singleton.1 hx];exact hk8
 have t1:=fLaid_tot (t:=[(a1,a2)]) G.R hS
 rw [X1]
 refine⟨hkey,fun h6=>full hq h5 h6,fun h6=>⟨⟨G.R,hS,by omega⟩,by unfold pCnt;omega,fun h7=>⟨X2 h6,big hq h5 h6 h7⟩,fun h7=>fine hq h5 h6 (show ¬40<fCnt (fLaid a0.2.1 [(a1,a2)]) by omega)⟩⟩
set_option maxRecDepth 100000 in
theorem impl_Put.eq:EqS c_impl_Put Tryz.f38 [31,3] [impl_engineRead.e,impl_copyEngine.e,impl_flushed.e,impl_keyOk.e,impl_PointsOk.e,impl_SeriesOk.e,impl_laid.e,impl_cached.e] [] noL (fun i x=>impl_Put.F x.1 x.2.1 x.2.2):=by intro i x;kernel_rfl
theorem impl_Put.ok:ConOk Tryz.prog 38 c_impl_Put:=okOf impl_Put.eq Tryz.func38 rfl (by kernel_rfl) fun i x h hi hw=>impl_Put.pure x.1 x.2.1 x.2.2 h hw
def impl_Put.e:GE:=⟨38,c_impl_Put,⟨_,Tryz.func38,rfl,rfl⟩,impl_Put.ok⟩
def c_spec_Put:Con:={A:=(.pair (.pair (.int .i64) (.pair (.list (.pair .str (.list (.pair (.int .i64) (.int .i64))))) (.list .str))) (.pair .str (.list (.pair (.int .i64) (.int .i64))))),shA:=[.agg 3,.one,.one],R:=(.pair (.pair (.int .i64) (.pair (.list (.pair .str (.list (.pair (.int .i64) (.int .i64))))) (.list .str))) (.int .i64)),shR:=[(true,3),(false,1)],pre:=fun _ a=>(pPut a.1 a.2.1 a.2.2),f:=some fun _ a=>((fPut a.1 a.2.1 a.2.2),((),()))}
def spec_Put.F (a0:(Int×((List ((List UInt8)×(List (Int×Int))))×(List (List UInt8))))) (a1:(List UInt8)) (a2:(List (Int×Int))):Prop:=((pEng (a0.1,(a0.2.1,a0.2.2)))∧∀r1,(Eq r1 ((fEngOk (a0.1,(a0.2.1,a0.2.2))),((),())))→(caseB (!r1.1) (Eq (((0,(([]:(List ((List UInt8)×(List (Int×Int))))),([]:(List (List UInt8))))),1),((),())) ((fPut a0 a1 a2),((),()))) ((pIdE (a0.1,(a0.2.1,a0.2.2)))∧∀r2,(Eq r2 ((fIdE (a0.1,(a0.2.1,a0.2.2))),((),())))→((pPutS (r2.1.1,(r2.1.2.1,r2.1.2.2)) a1 a2)∧∀r3,(Eq r3 ((fPutS (r2.1.1,(r2.1.2.1,r2.1.2.2)) a1 a2),((),())))→(Eq (((r3.1.1.1,(r3.1.1.2.1,r3.1.1.2.2)),r3.1.2),((),())) ((fPut a0 a1 a2),((),())))))))
theorem spec_Put.pure (a0:(Int×((List ((List UInt8)×(List (Int×Int))))×(List (List UInt8))))) (a1:(List UInt8)) (a2:(List (Int×Int))) (h:(pPut a0 a1 a2)) (hw:Wf c_spec_Put.A (a0,a1,a2)):spec_Put.F a0 a1 a2:=by
 unfold spec_Put.F
 simp only [forall_eq,true_and,and_true,caseB_iff,Prod.mk.injEq,decide_eq_true_eq,decide_eq_false_iff_not,Bool.not_eq_true',Bool.not_eq_false',bne_iff_ne,ne_eq,beq_iff_eq,Bool.not_true,Bool.not_false,beq_eq_false_iff_ne,bne_eq_false_iff_eq,List.length_append,List.length_cons,List.length_nil,List.append_nil,Nat.zero_add,decide_true,decide_false,eq_self_iff_true,Prod.eta,fIdE,fPutS]
 obtain⟨hp,hk⟩:=h
 refine⟨hp,fun h1=>?_,fun h1=>⟨idE_of h1,h1,hp,hk⟩⟩
 unfold fPut;rw [if_neg (by rw [h1];decide)];rfl
set_option maxRecDepth 100000 in
theorem spec_Put.eq:EqS c_spec_Put Tryz.f36 [31,3] [spec_EngineOk.e,spec_l10Copy.e,spec_l10Put.e] [] noL (fun i x=>spec_Put.F x.1 x.2.1 x.2.2):=by intro i x;kernel_rfl
theorem spec_Put.ok:ConOk Tryz.prog 36 c_spec_Put:=okOf spec_Put.eq Tryz.func36 rfl (by kernel_rfl) fun i x h hi hw=>spec_Put.pure x.1 x.2.1 x.2.2 h hw
def spec_Put.e:GE:=⟨36,c_spec_Put,⟨_,Tryz.func36,rfl,rfl⟩,spec_Put.ok⟩
end Go.Proofs.YtnoapekdbmpiaaaGreat.B
