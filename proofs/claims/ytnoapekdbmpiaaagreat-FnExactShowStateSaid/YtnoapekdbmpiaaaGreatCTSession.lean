/- Values of the type Session:how large,the same,marked. -/
import Derived.Test.YtnoapekdbmpiaaaGreatCTypes
import Derived.Test.YtnoapekdbmpiaaaGreatCTAnswer
set_option linter.unusedVariables false
set_option linter.unusedSimpArgs false
namespace Go.Proofs.YtnoapekdbmpiaaaGreat.B
open Go Go.Proofs.YtnoapekdbmpiaaaGreat.Bv
def n_Session (x:U8q):Nat:=(n_Answer x.2.2)
def pSz_Session (x:U8q) (left:Int):Prop:=WfD T1q x∧0≤left∧left≤1048576
def fSz_Session (x:U8q) (left:Int):Int:=fSz (n_Session x) left
def c_laws_szSession:Con:={A:=(.pair T1q (.int .i64)),shA:=[.agg 6,.one],R:=(.int .i64),shR:=[(false,1)],pre:=fun _ a=>(pSz_Session a.1 a.2),f:=some fun _ a=>((fSz_Session a.1 a.2),((),()))}
def laws_szSession.F (a0:U8q) (a1:Int):Prop:=((pSz_Answer (a0.2.2.1,(a0.2.2.2.1,(a0.2.2.2.2.1,a0.2.2.2.2.2))) a1)∧∀r1,(Eq r1 ((fSz_Answer (a0.2.2.1,(a0.2.2.2.1,(a0.2.2.2.2.1,a0.2.2.2.2.2))) a1),((),())))→(caseB (decide (r1.1<(0:Int))) (Eq ((-1),((),())) ((fSz_Session a0 a1),((),()))) (Eq (r1.1,((),())) ((fSz_Session a0 a1),((),())))))
theorem laws_szSession.pure (a0:U8q) (a1:Int) (h:(pSz_Session a0 a1)) (hw:Wf c_laws_szSession.A (a0,a1)):laws_szSession.F a0 a1:=by
 unfold laws_szSession.F
 obtain⟨hwf,p1,p2⟩:=h
 have w2:WfD T12q a0.2.2:=hwf.2.2
 simp only [forall_eq,true_and,and_true,caseB_iff,Prod.mk.injEq,decide_eq_true_eq,decide_eq_false_iff_not,Bool.not_eq_true',Bool.not_eq_false',bne_iff_ne,ne_eq,beq_iff_eq,Bool.not_true,Bool.not_false,beq_eq_false_iff_ne,bne_eq_false_iff_eq,List.length_append,List.length_cons,List.length_nil,List.append_nil,Nat.zero_add,decide_true,decide_false,eq_self_iff_true,n_Session,fSz_Session,pSz_Answer,fSz_Answer]
 repeat' (with_reducible (first | (refine And.intro ?_ ?_) | intro _))
 all_goals (try simp (disch:=omega) only [w64,wu8,tn0,tn1,tm1,tm2,List.length_append,List.length_cons,List.length_nil] at*)
 all_goals (try simp (disch:=omega) only [w64,wu8,tn0,tn1,tm1,tm2,List.length_append,List.length_cons,List.length_nil] at*)
 all_goals (try omega)
 all_goals (try grind [fSz])
set_option maxRecDepth 100000 in
theorem laws_szSession.eq:EqS c_laws_szSession Tryz.f146 [3] [laws_szAnswer.e] [] noL (fun i x=>laws_szSession.F x.1 x.2):=by intro i x;kernel_rfl
theorem laws_szSession.ok:ConOk Tryz.prog 146 c_laws_szSession:=okOf laws_szSession.eq Tryz.func146 rfl (by kernel_rfl) fun i x h hi hw=>laws_szSession.pure x.1 x.2 h hw
def laws_szSession.e:GE:=⟨146,c_laws_szSession,⟨_,Tryz.func146,rfl,rfl⟩,laws_szSession.ok⟩
def pSz_SessionS (x:List U8q) (left:Int):Prop:=WfD (.list T1q) x∧0≤left∧left≤1048576
def fSz_SessionS (x:List U8q) (left:Int):Int:=fSz (nL n_Session x) left
def c_laws_szSessionS:Con:={A:=(.pair (.list T1q) (.int .i64)),shA:=[.one,.one],R:=(.int .i64),shR:=[(false,1)],pre:=fun _ a=>(pSz_SessionS a.1 a.2),f:=some fun _ a=>((fSz_SessionS a.1 a.2),((),()))}
def laws_szSessionS.F (a0:(List U8q)) (a1:Int):Prop:=(caseB (decide ((wI (a1 - (ln a0)))<(0:Int))) (Eq ((-1),((),())) ((fSz_SessionS a0 a1),((),()))) (eS [(0,.val false [.lst T1q a0 none])] [(0,.val false [.lst T1q a0 none])]∧((szLI n_Session a0 a1 (wI (a1 - (ln a0))) 0)∧∀(y1:(Int×Int)),(szLI n_Session a0 a1 y1.1 y1.2)→(caseB (decide (y1.2<(ln a0))) (0≤y1.2∧(y1.2<(ln a0)∧((pSz_Session ((List.getD a0 (tN y1.2) (0,(0,(0,(0,(0,[])))))).1,((List.getD a0 (tN y1.2) (0,(0,(0,(0,(0,[])))))).2.1,((List.getD a0 (tN y1.2) (0,(0,(0,(0,(0,[])))))).2.2.1,((List.getD a0 (tN y1.2) (0,(0,(0,(0,(0,[])))))).2.2.2.1,((List.getD a0 (tN y1.2) (0,(0,(0,(0,(0,[])))))).2.2.2.2.1,(List.getD a0 (tN y1.2) (0,(0,(0,(0,(0,[])))))).2.2.2.2.2))))) y1.1)∧∀r2,(Eq r2 ((fSz_Session ((List.getD a0 (tN y1.2) (0,(0,(0,(0,(0,[])))))).1,((List.getD a0 (tN y1.2) (0,(0,(0,(0,(0,[])))))).2.1,((List.getD a0 (tN y1.2) (0,(0,(0,(0,(0,[])))))).2.2.1,((List.getD a0 (tN y1.2) (0,(0,(0,(0,(0,[])))))).2.2.2.1,((List.getD a0 (tN y1.2) (0,(0,(0,(0,(0,[])))))).2.2.2.2.1,(List.getD a0 (tN y1.2) (0,(0,(0,(0,(0,[])))))).2.2.2.2.2))))) y1.1),((),())))→(caseB (decide (r2.1<(0:Int))) (Eq ((-1),((),())) ((fSz_SessionS a0 a1),((),()))) (eS [(0,.val false [.lst T1q a0 none])] [(0,.val false [.lst T1q a0 none])]∧(szLI n_Session a0 a1 r2.1 (wI (y1.2+(1:Int))))∧(szLM a0 a1 r2.1 (wI (y1.2+(1:Int))))<(szLM a0 a1 y1.1 y1.2)))))) (Eq (y1.1,((),())) ((fSz_SessionS a0 a1),((),())))))))
def laws_szSessionS.L (a0:(List U8q)) (a1:Int):Nat→Option LoopAnn:=fun p=>Go.Proofs.YtnoapekdbmpiaaaGreat.Bv.look p [(122,{kp:={hold:=[0],slots:=[1,5],boxes:=[],rows:=[]},T:=T0q,I:=fun st y=>szLI n_Session a0 a1 y.1 y.2,μ:=fun st y=>szLM a0 a1 y.1 y.2})]
theorem laws_szSessionS.pure (a0:(List U8q)) (a1:Int) (h:(pSz_SessionS a0 a1)) (hw:Wf c_laws_szSessionS.A (a0,a1)):laws_szSessionS.F a0 a1:=by
 delta laws_szSessionS.F ln tN wI eS
 obtain⟨hwf,p1,p2⟩:=h
 have hw1:a0.length≤9223372036854775807:=hwf.1
 simp only [forall_eq,true_and,and_true,caseB_iff,Prod.mk.injEq,decide_eq_true_eq,decide_eq_false_iff_not,Bool.not_eq_true',Bool.not_eq_false',bne_iff_ne,ne_eq,beq_iff_eq,Bool.not_true,Bool.not_false,beq_eq_false_iff_ne,bne_eq_false_iff_eq,List.length_append,List.length_cons,List.length_nil,List.append_nil,Nat.zero_add,decide_true,decide_false,eq_self_iff_true,fSz_SessionS]
 rw [w64 (x:=a1 - (a0.length:Int)) (by omega) (by omega)]
 refine⟨fun h1=>(fSz_no (by unfold nL;omega)).symm,fun h1=>⟨⟨by omega,by omega,by omega,by rw [show Int.toNat 0=0 from rfl,sumT_zero];omega⟩,?_⟩⟩
 rintro⟨left,i⟩ ⟨h2,h3,h4,h5⟩
 simp only at h2 h3 h4 h5 ⊢
 refine⟨fun hi=>?_,fun hi=>?_⟩
 · have hm:a0.getD i.toNat ((0:Int),((0:Int),((0:Int),((0:Int),((0:Int),([]:U5q))))))∈a0:=getD_mem (by omega)
   have s1:=sumT_succ n_Session a0 ((0:Int),((0:Int),((0:Int),((0:Int),((0:Int),([]:U5q)))))) (i:=i.toNat) (by omega)
   have s2:=sumT_le n_Session a0 (i.toNat+1)
   have hwx:WfD T1q (a0.getD i.toNat ((0:Int),((0:Int),((0:Int),((0:Int),((0:Int),([]:U5q))))))):=hwf.2 _ hm
   rw [w64 (x:=i+1) (by omega) (by omega)]
   simp only [fSz_Session]
   by_cases hc:left<(n_Session (a0.getD i.toNat ((0:Int),((0:Int),((0:Int),((0:Int),((0:Int),([]:U5q))))))):Int)
   · rw [fSz_no hc]
     exact⟨h2,hi,⟨hwx,h4,by omega⟩,fun h6=>(fSz_no (by unfold nL;omega)).symm,fun h6=>absurd (by decide) h6⟩
   · rw [fSz_yes hc]
     exact⟨h2,hi,⟨hwx,h4,by omega⟩,fun h6=>by omega,fun h6=>⟨⟨by omega,by omega,by omega,by rw [tn1 h2];omega⟩,by unfold szLM;omega⟩⟩
 · have e:i.toNat=a0.length:=by omega
   rw [e] at h5
   rw [fSz_yes (by unfold nL;omega)]
   unfold nL;omega
set_option maxRecDepth 100000 in
theorem laws_szSessionS.eq:EqS c_laws_szSessionS Tryz.f90 [3] [laws_szSession.e] [] (fun i x=>laws_szSessionS.L x.1 x.2) (fun i x=>laws_szSessionS.F x.1 x.2):=by intro i x;kernel_rfl
theorem laws_szSessionS.ok:ConOk Tryz.prog 90 c_laws_szSessionS:=okOf laws_szSessionS.eq Tryz.func90 rfl (by kernel_rfl) fun i x h hi hw=>laws_szSessionS.pure x.1 x.2 h hw
def laws_szSessionS.e:GE:=⟨90,c_laws_szSessionS,⟨_,Tryz.func90,rfl,rfl⟩,laws_szSessionS.ok⟩
def pTo_Session (x:U8q):Prop:=n_Session x≤1048576
def fTo_Session (x:U8q):U8q:=x
def c_laws_toSession:Con:={A:=T1q,shA:=[.agg 6],R:=T1q,shR:=[(true,6)],pre:=fun _ a=>(pTo_Session a),f:=some fun _ a=>((fTo_Session a),((),()))}
def laws_toSession.F (a0:U8q):Prop:=((pTo_Answer (a0.2.2.1,(a0.2.2.2.1,(a0.2.2.2.2.1,a0.2.2.2.2.2))))∧∀r1,(Eq r1 ((fTo_Answer (a0.2.2.1,(a0.2.2.2.1,(a0.2.2.2.2.1,a0.2.2.2.2.2)))),((),())))→(Eq ((a0.1,(a0.2.1,(r1.1.1,(r1.1.2.1,(r1.1.2.2.1,r1.1.2.2.2))))),((),())) ((fTo_Session a0),((),()))))
theorem laws_toSession.pure (a0:U8q) (h:(pTo_Session a0)) (hw:Wf c_laws_toSession.A a0):laws_toSession.F a0:=by
 unfold laws_toSession.F
 have hp:n_Session a0≤1048576:=h
 simp only [n_Session] at hp
 simp only [forall_eq,true_and,and_true,caseB_iff,Prod.mk.injEq,decide_eq_true_eq,decide_eq_false_iff_not,Bool.not_eq_true',Bool.not_eq_false',bne_iff_ne,ne_eq,beq_iff_eq,Bool.not_true,Bool.not_false,beq_eq_false_iff_ne,bne_eq_false_iff_eq,List.length_append,List.length_cons,List.length_nil,List.append_nil,Nat.zero_add,decide_true,decide_false,eq_self_iff_true,n_Session,fTo_Session,pTo_Session,pTo_Answer,fTo_Answer]
 repeat' (with_reducible (first | (refine And.intro ?_ ?_) | intro _))
 all_goals (try simp (disch:=omega) only [w64,wu8,tn0,tn1,tm1,tm2,List.length_append,List.length_cons,List.length_nil] at*)
 all_goals (try simp (disch:=omega) only [w64,wu8,tn0,tn1,tm1,tm2,List.length_append,List.length_cons,List.length_nil] at*)
 all_goals (try omega)
 all_goals (try grind [])
set_option maxRecDepth 100000 in
theorem laws_toSession.eq:EqS c_laws_toSession Tryz.f148 [110] [laws_toAnswer.e] [] noL (fun i x=>laws_toSession.F x):=by intro i x;kernel_rfl
theorem laws_toSession.ok:ConOk Tryz.prog 148 c_laws_toSession:=okOf laws_toSession.eq Tryz.func148 rfl (by kernel_rfl) fun i x h hi hw=>laws_toSession.pure x h hw
def laws_toSession.e:GE:=⟨148,c_laws_toSession,⟨_,Tryz.func148,rfl,rfl⟩,laws_toSession.ok⟩
def pTo_SessionS (x:List U8q):Prop:=nL n_Session x≤1048576
def fTo_SessionS (x:List U8q):List U8q:=x
def c_laws_toSessionS:Con:={A:=(.list T1q),shA:=[.one],R:=(.list T1q),shR:=[(false,1)],fresh:=[(0,110)],pre:=fun _ a=>(pTo_SessionS a),f:=some fun _ a=>((fTo_SessionS a),((),()))}
def laws_toSessionS.F (a0:(List U8q)):Prop:=(0≤(ln a0)∧((ln a0)≤(ln a0)∧((ln a0)≤9223372036854775807∧(((56:Nat):Int)*(ln a0)≤140737488355328∧(eS [(0,.val false [.lst T1q a0 none]),(3,.val false [.own T1q 1000387])] [(0,.val false [.lst T1q a0 none]),(3,.val false [.own T1q 1000387])]∧((cpI ((0:Int),((0:Int),((0:Int),((0:Int),((0:Int),([]:U5q)))))) a0 0 (List.replicate (tN (ln a0)) ((0:Int),((0:Int),((0:Int),((0:Int),((0:Int),([]:U5q))))))))∧∀(y1:(Int×(List U8q))),(cpI ((0:Int),((0:Int),((0:Int),((0:Int),((0:Int),([]:U5q)))))) a0 y1.1 y1.2)→(caseB (decide (y1.1<(ln a0))) (0≤y1.1∧(y1.1<(ln a0)∧((pTo_Session ((List.getD a0 (tN y1.1) (0,(0,(0,(0,(0,[])))))).1,((List.getD a0 (tN y1.1) (0,(0,(0,(0,(0,[])))))).2.1,((List.getD a0 (tN y1.1) (0,(0,(0,(0,(0,[])))))).2.2.1,((List.getD a0 (tN y1.1) (0,(0,(0,(0,(0,[])))))).2.2.2.1,((List.getD a0 (tN y1.1) (0,(0,(0,(0,(0,[])))))).2.2.2.2.1,(List.getD a0 (tN y1.1) (0,(0,(0,(0,(0,[])))))).2.2.2.2.2))))))∧∀r2,(Eq r2 ((fTo_Session ((List.getD a0 (tN y1.1) (0,(0,(0,(0,(0,[])))))).1,((List.getD a0 (tN y1.1) (0,(0,(0,(0,(0,[])))))).2.1,((List.getD a0 (tN y1.1) (0,(0,(0,(0,(0,[])))))).2.2.1,((List.getD a0 (tN y1.1) (0,(0,(0,(0,(0,[])))))).2.2.2.1,((List.getD a0 (tN y1.1) (0,(0,(0,(0,(0,[])))))).2.2.2.2.1,(List.getD a0 (tN y1.1) (0,(0,(0,(0,(0,[])))))).2.2.2.2.2)))))),((),())))→(0≤y1.1∧(y1.1<(ln y1.2)∧(eS [(0,.val false [.lst T1q a0 none]),(3,.val false [.own T1q 1000387])] [(0,.val false [.lst T1q a0 none]),(3,.val false [.own T1q 1000387])]∧(cpI ((0:Int),((0:Int),((0:Int),((0:Int),((0:Int),([]:U5q)))))) a0 (wI (y1.1+(1:Int))) (List.set y1.2 (tN y1.1) (r2.1.1,(r2.1.2.1,(r2.1.2.2.1,(r2.1.2.2.2.1,(r2.1.2.2.2.2.1,r2.1.2.2.2.2.2)))))))∧(cpM a0 (wI (y1.1+(1:Int))) (List.set y1.2 (tN y1.1) (r2.1.1,(r2.1.2.1,(r2.1.2.2.1,(r2.1.2.2.2.1,(r2.1.2.2.2.2.1,r2.1.2.2.2.2.2)))))))<(cpM a0 y1.1 y1.2))))))) (Eq (y1.2,((),())) ((fTo_SessionS a0),((),()))))))))))
def laws_toSessionS.L (a0:(List U8q)):Nat→Option LoopAnn:=fun p=>Go.Proofs.YtnoapekdbmpiaaaGreat.Bv.look p [(58,{kp:={hold:=[0,3],slots:=[4],boxes:=[],rows:=[{bx:=false,s:=3,i:=0,k:=1000387,e:=110,hot:=true}]},T:=(.pair (.int .i64) (.list T1q)),I:=fun st y=>cpI ((0:Int),((0:Int),((0:Int),((0:Int),((0:Int),([]:U5q)))))) a0 y.1 y.2,μ:=fun st y=>cpM a0 y.1 y.2})]
theorem laws_toSessionS.pure (a0:(List U8q)) (h:(pTo_SessionS a0)) (hw:Wf c_laws_toSessionS.A a0):laws_toSessionS.F a0:=by
 delta laws_toSessionS.F ln tN wI eS
 have hb:a0.length≤1048576:=by have h1:nL n_Session a0≤1048576:=h;unfold nL at h1;omega
 simp only [forall_eq,true_and,and_true,caseB_iff,Prod.mk.injEq,decide_eq_true_eq,decide_eq_false_iff_not,Bool.not_eq_true',Bool.not_eq_false',bne_iff_ne,ne_eq,beq_iff_eq,Bool.not_true,Bool.not_false,beq_eq_false_iff_ne,bne_eq_false_iff_eq,List.length_append,List.length_cons,List.length_nil,List.append_nil,Nat.zero_add,decide_true,decide_false,eq_self_iff_true,fTo_SessionS]
 refine⟨by omega,by omega,by omega,by omega,⟨by omega,by omega,by simp⟩,?_⟩
 rintro⟨i,out⟩ hI
 simp only at hI ⊢
 refine⟨fun hi=>?_,fun hi=>cp_end hI hi⟩
 have hl:=cp_len hI
 have h3:=hI.2.1
 have h2:=hI.1
 have hp:pTo_Session (a0.getD i.toNat ((0:Int),((0:Int),((0:Int),((0:Int),((0:Int),([]:U5q))))))):=by
  have h1:nL n_Session a0≤1048576:=h
  have hm:a0.getD i.toNat ((0:Int),((0:Int),((0:Int),((0:Int),((0:Int),([]:U5q))))))∈a0:=getD_mem (by omega)
  show n_Session _≤1048576
  have:=nL_mem n_Session hm;omega
 rw [w64 (x:=i+1) (by omega) (by omega)]
 simp only [fTo_Session,hl]
 exact⟨h2,hi,hp,h2,hi,cp_step hI hi,by unfold cpM;omega⟩
set_option maxRecDepth 100000 in
theorem laws_toSessionS.eq:EqS c_laws_toSessionS Tryz.f97 [58] [laws_toSession.e] [] (fun i x=>laws_toSessionS.L x) (fun i x=>laws_toSessionS.F x):=by intro i x;kernel_rfl
theorem laws_toSessionS.ok:ConOk Tryz.prog 97 c_laws_toSessionS:=okOf laws_toSessionS.eq Tryz.func97 rfl (by kernel_rfl) fun i x h hi hw=>laws_toSessionS.pure x h hw
def laws_toSessionS.e:GE:=⟨97,c_laws_toSessionS,⟨_,Tryz.func97,rfl,rfl⟩,laws_toSessionS.ok⟩
instance dec_Session:DecidableEq U8q:=by (iterate 20 (all_goals (first | infer_instance | refine @instDecidableEqProd _ _ ?_ ?_)))
def fEq_Session (a b:U8q):Bool:=decide (a=b)
def c_laws_eqSession:Con:={A:=(.pair T1q T1q),shA:=[.agg 6,.agg 6],R:=.bool,shR:=[(false,1)],pre:=fun _ _=>True,f:=some fun _ a=>((fEq_Session a.1 a.2),((),()))}
def laws_eqSession.F (a0:U8q) (a1:U8q):Prop:=(caseB (a0.1 !=a1.1) (Eq (false,((),())) ((fEq_Session a0 a1),((),()))) (caseB (a0.2.1 !=a1.2.1) (Eq (false,((),())) ((fEq_Session a0 a1),((),()))) (True∧∀r1,(Eq r1 ((fEq_Answer (a0.2.2.1,(a0.2.2.2.1,(a0.2.2.2.2.1,a0.2.2.2.2.2))) (a1.2.2.1,(a1.2.2.2.1,(a1.2.2.2.2.1,a1.2.2.2.2.2)))),((),())))→(caseB (!r1.1) (Eq (false,((),())) ((fEq_Session a0 a1),((),()))) (Eq (true,((),())) ((fEq_Session a0 a1),((),())))))))
theorem laws_eqSession.pure (a0:U8q) (a1:U8q) (h:True) (hw:Wf c_laws_eqSession.A (a0,a1)):laws_eqSession.F a0 a1:=by
 unfold laws_eqSession.F
 obtain⟨x1,x2,⟨x3,x4,x5,x6⟩⟩:=a0
 obtain⟨y1,y2,⟨y3,y4,y5,y6⟩⟩:=a1
 simp only [forall_eq,true_and,and_true,caseB_iff,Prod.mk.injEq,decide_eq_true_eq,decide_eq_false_iff_not,Bool.not_eq_true',Bool.not_eq_false',bne_iff_ne,ne_eq,beq_iff_eq,Bool.not_true,Bool.not_false,beq_eq_false_iff_ne,bne_eq_false_iff_eq,List.length_append,List.length_cons,List.length_nil,List.append_nil,Nat.zero_add,decide_true,decide_false,eq_self_iff_true,fEq_Session,fEq_Answer]
 repeat' (first | (refine And.intro ?_ ?_) | intro _)
 all_goals simp_all
set_option maxRecDepth 100000 in
theorem laws_eqSession.eq:EqS c_laws_eqSession Tryz.f155 [4] [laws_eqAnswer.e] [] noL (fun i x=>laws_eqSession.F x.1 x.2):=by intro i x;kernel_rfl
theorem laws_eqSession.ok:ConOk Tryz.prog 155 c_laws_eqSession:=okOf laws_eqSession.eq Tryz.func155 rfl (by kernel_rfl) fun i x h hi hw=>laws_eqSession.pure x.1 x.2 h hw
def laws_eqSession.e:GE:=⟨155,c_laws_eqSession,⟨_,Tryz.func155,rfl,rfl⟩,laws_eqSession.ok⟩
def fEq_SessionS (a b:List U8q):Bool:=decide (a=b)
def c_laws_eqSessionS:Con:={A:=(.pair (.list T1q) (.list T1q)),shA:=[.one,.one],R:=.bool,shR:=[(false,1)],pre:=fun _ _=>True,f:=some fun _ a=>((fEq_SessionS a.1 a.2),((),()))}
def laws_eqSessionS.F (a0:(List U8q)) (a1:(List U8q)):Prop:=(caseB ((ln a0)!=(ln a1)) (Eq (false,((),())) ((fEq_SessionS a0 a1),((),()))) (eS [(0,.val false [.lst T1q a0 none]),(1,.val false [.lst T1q a1 none])] [(0,.val false [.lst T1q a0 none]),(1,.val false [.lst T1q a1 none])]∧((eqLI a0 a1 0)∧∀(y1:Int),(eqLI a0 a1 y1)→(caseB (decide (y1<(ln a0))) (0≤y1∧(y1<(ln a0)∧(0≤y1∧(y1<(ln a1)∧(True∧∀r2,(Eq r2 ((fEq_Session ((List.getD a0 (tN y1) (0,(0,(0,(0,(0,[])))))).1,((List.getD a0 (tN y1) (0,(0,(0,(0,(0,[])))))).2.1,((List.getD a0 (tN y1) (0,(0,(0,(0,(0,[])))))).2.2.1,((List.getD a0 (tN y1) (0,(0,(0,(0,(0,[])))))).2.2.2.1,((List.getD a0 (tN y1) (0,(0,(0,(0,(0,[])))))).2.2.2.2.1,(List.getD a0 (tN y1) (0,(0,(0,(0,(0,[])))))).2.2.2.2.2))))) ((List.getD a1 (tN y1) (0,(0,(0,(0,(0,[])))))).1,((List.getD a1 (tN y1) (0,(0,(0,(0,(0,[])))))).2.1,((List.getD a1 (tN y1) (0,(0,(0,(0,(0,[])))))).2.2.1,((List.getD a1 (tN y1) (0,(0,(0,(0,(0,[])))))).2.2.2.1,((List.getD a1 (tN y1) (0,(0,(0,(0,(0,[])))))).2.2.2.2.1,(List.getD a1 (tN y1) (0,(0,(0,(0,(0,[])))))).2.2.2.2.2)))))),((),())))→(caseB (!r2.1) (Eq (false,((),())) ((fEq_SessionS a0 a1),((),()))) (eS [(0,.val false [.lst T1q a0 none]),(1,.val false [.lst T1q a1 none])] [(0,.val false [.lst T1q a0 none]),(1,.val false [.lst T1q a1 none])]∧(eqLI a0 a1 (wI (y1+(1:Int))))∧(eqLM a0 a1 (wI (y1+(1:Int))))<(eqLM a0 a1 y1)))))))) (Eq (true,((),())) ((fEq_SessionS a0 a1),((),())))))))
def laws_eqSessionS.L (a0:(List U8q)) (a1:(List U8q)):Nat→Option LoopAnn:=fun p=>Go.Proofs.YtnoapekdbmpiaaaGreat.Bv.look p [(58,{kp:={hold:=[0,1],slots:=[5],boxes:=[],rows:=[]},T:=(.int .i64),I:=fun st y=>eqLI a0 a1 y,μ:=fun st y=>eqLM a0 a1 y})]
theorem laws_eqSessionS.pure (a0:(List U8q)) (a1:(List U8q)) (h:True) (hw:Wf c_laws_eqSessionS.A (a0,a1)):laws_eqSessionS.F a0 a1:=by
 delta laws_eqSessionS.F ln tN wI eS
 have hw1:a0.length≤9223372036854775807:=hw.1.1
 simp only [forall_eq,true_and,and_true,caseB_iff,Prod.mk.injEq,decide_eq_true_eq,decide_eq_false_iff_not,Bool.not_eq_true',Bool.not_eq_false',bne_iff_ne,ne_eq,beq_iff_eq,Bool.not_true,Bool.not_false,beq_eq_false_iff_ne,bne_eq_false_iff_eq,List.length_append,List.length_cons,List.length_nil,List.append_nil,Nat.zero_add,decide_true,decide_false,eq_self_iff_true]
 refine⟨fun h1=>?_,fun h1=>?_⟩
 · have:a0≠a1:=fun e=>by subst e;simp at h1
   simp [fEq_SessionS,this]
 have hl:a0.length=a1.length:=by omega
 refine⟨⟨by omega,by omega,hl,by simp⟩,?_⟩
 rintro i hI
 have h2:=hI.1
 have h3:=hI.2.1
 refine⟨fun hi=>⟨h2,hi,h2,by omega,fun hne=>?_,fun he=>?_⟩,fun hi=>?_⟩
 · have:a0≠a1:=fun e=>by subst e;simp [fEq_Session] at hne
   simp [fEq_SessionS,this]
 · have hg:a0.getD i.toNat ((0:Int),((0:Int),((0:Int),((0:Int),((0:Int),([]:U5q))))))=a1.getD i.toNat ((0:Int),((0:Int),((0:Int),((0:Int),((0:Int),([]:U5q)))))):=by simpa only [fEq_Session,decide_eq_true_eq] using he
   rw [w64 (x:=i+1) (by omega) (by omega)]
   exact⟨eqL_step hI hi hg,by unfold eqLM;omega⟩
 · have h6:=eqL_end hI hi
   simp [fEq_SessionS,h6]
set_option maxRecDepth 100000 in
theorem laws_eqSessionS.eq:EqS c_laws_eqSessionS Tryz.f103 [4] [laws_eqSession.e] [] (fun i x=>laws_eqSessionS.L x.1 x.2) (fun i x=>laws_eqSessionS.F x.1 x.2):=by intro i x;kernel_rfl
theorem laws_eqSessionS.ok:ConOk Tryz.prog 103 c_laws_eqSessionS:=okOf laws_eqSessionS.eq Tryz.func103 rfl (by kernel_rfl) fun i x h hi hw=>laws_eqSessionS.pure x.1 x.2 h hw
def laws_eqSessionS.e:GE:=⟨103,c_laws_eqSessionS,⟨_,Tryz.func103,rfl,rfl⟩,laws_eqSessionS.ok⟩
end Go.Proofs.YtnoapekdbmpiaaaGreat.B
