/- Values of the type Point:how large,the same,marked. -/
import Derived.Test.YtnoapekdbmpiaaaCTypes
namespace Go.Proofs.Ytnoapekdbmpiaaa.B
set_option linter.unusedVariables false
set_option linter.unusedSimpArgs false
open Go Go.Proofs.Ytnoapekdbmpiaaa.Bv
instance dec_Point:DecidableEq (Int×Int):=by (iterate 20 (all_goals (first | infer_instance | refine @instDecidableEqProd _ _ ?_ ?_)))
def fEq_Point (a b:(Int×Int)):Bool:=decide (a=b)
def c_laws_eqPoint:Con:={A:=(.pair (.pair (.int .i64) (.int .i64)) (.pair (.int .i64) (.int .i64))),shA:=[.agg 2,.agg 2],R:=.bool,shR:=[(false,1)],pre:=fun _ _=>True,f:=some fun _ a=>((fEq_Point a.1 a.2),((),()))}
def laws_eqPoint.F (a0:(Int×Int)) (a1:(Int×Int)):Prop:=(caseB (a0.1 !=a1.1) (Eq (false,((),())) ((fEq_Point a0 a1),((),()))) (caseB (a0.2 !=a1.2) (Eq (false,((),())) ((fEq_Point a0 a1),((),()))) (Eq (true,((),())) ((fEq_Point a0 a1),((),())))))
theorem laws_eqPoint.pure (a0:(Int×Int)) (a1:(Int×Int)) (h:True) (hw:Wf c_laws_eqPoint.A (a0,a1)):laws_eqPoint.F a0 a1:=by
 unfold laws_eqPoint.F
 obtain⟨x1,x2⟩:=a0
 obtain⟨y1,y2⟩:=a1
 simp only [forall_eq,true_and,and_true,caseB_iff,Prod.mk.injEq,decide_eq_true_eq,decide_eq_false_iff_not,Bool.not_eq_true',Bool.not_eq_false',bne_iff_ne,ne_eq,beq_iff_eq,Bool.not_true,Bool.not_false,beq_eq_false_iff_ne,bne_eq_false_iff_eq,List.length_append,List.length_cons,List.length_nil,List.append_nil,Nat.zero_add,decide_true,decide_false,eq_self_iff_true,fEq_Point]
 repeat' (first | (refine And.intro ?_ ?_) | intro _)
 all_goals simp_all
set_option maxRecDepth 100000 in
theorem laws_eqPoint.eq:EqS c_laws_eqPoint Try.f47 [4] [] [] noL (fun i x=>laws_eqPoint.F x.1 x.2):=by intro i x;kernel_rfl
theorem laws_eqPoint.ok:ConOk Try.prog 47 c_laws_eqPoint:=okOf laws_eqPoint.eq Try.func47 rfl (by kernel_rfl) fun i x h hi hw=>laws_eqPoint.pure x.1 x.2 h hw
def laws_eqPoint.e:GE:=⟨47,c_laws_eqPoint,⟨_,Try.func47,rfl,rfl⟩,laws_eqPoint.ok⟩
def fEq_PointS (a b:List (Int×Int)):Bool:=decide (a=b)
def c_laws_eqPointS:Con:={A:=(.pair (.list (.pair (.int .i64) (.int .i64))) (.list (.pair (.int .i64) (.int .i64)))),shA:=[.one,.one],R:=.bool,shR:=[(false,1)],pre:=fun _ _=>True,f:=some fun _ a=>((fEq_PointS a.1 a.2),((),()))}
def laws_eqPointS.F (a0:(List (Int×Int))) (a1:(List (Int×Int))):Prop:=(caseB ((ln a0)!=(ln a1)) (Eq (false,((),())) ((fEq_PointS a0 a1),((),()))) (eS [(0,.val false [.lst (.pair (.int .i64) (.int .i64)) a0 none]),(1,.val false [.lst (.pair (.int .i64) (.int .i64)) a1 none])] [(0,.val false [.lst (.pair (.int .i64) (.int .i64)) a0 none]),(1,.val false [.lst (.pair (.int .i64) (.int .i64)) a1 none])]∧((eqLI a0 a1 0)∧∀(y1:Int),(eqLI a0 a1 y1)→(caseB (decide (y1<(ln a0))) (0≤y1∧(y1<(ln a0)∧(0≤y1∧(y1<(ln a1)∧(True∧∀r2,(Eq r2 ((fEq_Point ((List.getD a0 (tN y1) (0,0)).1,(List.getD a0 (tN y1) (0,0)).2) ((List.getD a1 (tN y1) (0,0)).1,(List.getD a1 (tN y1) (0,0)).2)),((),())))→(caseB (!r2.1) (Eq (false,((),())) ((fEq_PointS a0 a1),((),()))) (eS [(0,.val false [.lst (.pair (.int .i64) (.int .i64)) a0 none]),(1,.val false [.lst (.pair (.int .i64) (.int .i64)) a1 none])] [(0,.val false [.lst (.pair (.int .i64) (.int .i64)) a0 none]),(1,.val false [.lst (.pair (.int .i64) (.int .i64)) a1 none])]∧(eqLI a0 a1 (wI (y1+(1:Int))))∧(eqLM a0 a1 (wI (y1+(1:Int))))<(eqLM a0 a1 y1)))))))) (Eq (true,((),())) ((fEq_PointS a0 a1),((),())))))))
def laws_eqPointS.L (a0:(List (Int×Int))) (a1:(List (Int×Int))):Nat→Option LoopAnn:=fun p=>Go.Proofs.Ytnoapekdbmpiaaa.Bv.look p [(58,{kp:={hold:=[0,1],slots:=[5],boxes:=[],rows:=[]},T:=(.int .i64),I:=fun st y=>eqLI a0 a1 y,μ:=fun st y=>eqLM a0 a1 y})]
theorem laws_eqPointS.pure (a0:(List (Int×Int))) (a1:(List (Int×Int))) (h:True) (hw:Wf c_laws_eqPointS.A (a0,a1)):laws_eqPointS.F a0 a1:=by
 delta laws_eqPointS.F ln tN wI eS
 have hw1:a0.length≤9223372036854775807:=hw.1.1
 simp only [forall_eq,true_and,and_true,caseB_iff,Prod.mk.injEq,decide_eq_true_eq,decide_eq_false_iff_not,Bool.not_eq_true',Bool.not_eq_false',bne_iff_ne,ne_eq,beq_iff_eq,Bool.not_true,Bool.not_false,beq_eq_false_iff_ne,bne_eq_false_iff_eq,List.length_append,List.length_cons,List.length_nil,List.append_nil,Nat.zero_add,decide_true,decide_false,eq_self_iff_true]
 refine⟨fun h1=>?_,fun h1=>?_⟩
 · have:a0≠a1:=fun e=>by subst e;simp at h1
   simp [fEq_PointS,this]
 have hl:a0.length=a1.length:=by omega
 refine⟨⟨by omega,by omega,hl,by simp⟩,?_⟩
 rintro i hI
 have h2:=hI.1
 have h3:=hI.2.1
 refine⟨fun hi=>⟨h2,hi,h2,by omega,fun hne=>?_,fun he=>?_⟩,fun hi=>?_⟩
 · have:a0≠a1:=fun e=>by subst e;simp [fEq_Point] at hne
   simp [fEq_PointS,this]
 · have hg:a0.getD i.toNat ((0:Int),(0:Int))=a1.getD i.toNat ((0:Int),(0:Int)):=by simpa only [fEq_Point,decide_eq_true_eq] using he
   rw [w64 (x:=i+1) (by omega) (by omega)]
   exact⟨eqL_step hI hi hg,by unfold eqLM;omega⟩
 · have h6:=eqL_end hI hi
   simp [fEq_PointS,h6]
set_option maxRecDepth 100000 in
theorem laws_eqPointS.eq:EqS c_laws_eqPointS Try.f12 [4] [laws_eqPoint.e] [] (fun i x=>laws_eqPointS.L x.1 x.2) (fun i x=>laws_eqPointS.F x.1 x.2):=by intro i x;kernel_rfl
theorem laws_eqPointS.ok:ConOk Try.prog 12 c_laws_eqPointS:=okOf laws_eqPointS.eq Try.func12 rfl (by kernel_rfl) fun i x h hi hw=>laws_eqPointS.pure x.1 x.2 h hw
def laws_eqPointS.e:GE:=⟨12,c_laws_eqPointS,⟨_,Try.func12,rfl,rfl⟩,laws_eqPointS.ok⟩
def c_mPoint (x:(Int×Int)):Int:=1+1
def m_Point (x:(Int×Int)) (k:Int):(Int×Int):=(k,(k+1))
def o_Point (x:(Int×Int)) (k:Int):Bool:=(decide (x.1=k))&&(decide (x.2=(k+1)))
theorem ok_Point:∀(x:(Int×Int)) (k:Int),o_Point (m_Point x k) k=true∧c_mPoint (m_Point x k)=c_mPoint x:=fun x k=>by
 simp [o_Point,m_Point,c_mPoint]
theorem pos_Point:∀x:(Int×Int),0≤c_mPoint x:=fun x=>by
 unfold c_mPoint;omega
def pMk_PointS (l:List (Int×Int)) (k:Int):Prop:=0≤k∧k+cL c_mPoint l≤4611686018427387904
def fMk_PointS (l:List (Int×Int)) (k:Int):Int×List (Int×Int):=(k+cL c_mPoint l,mL c_mPoint m_Point l k)
def c_laws_markPointS:Con:={A:=(.pair (.list (.pair (.int .i64) (.int .i64))) (.int .i64)),shA:=[.one,.one],backA:=[(0,38)],B:=(.list (.pair (.int .i64) (.int .i64))),R:=(.int .i64),shR:=[(false,1)],pre:=fun _ a=>(pMk_PointS a.1 a.2),f:=some fun _ a=>((fMk_PointS a.1 a.2).1,((),(fMk_PointS a.1 a.2).2))}
def laws_markPointS.F (a0:(List (Int×Int))) (a1:Int):Prop:=(eS [(0,.val false [.own (.pair (.int .i64) (.int .i64)) 2])] [(0,.val false [.own (.pair (.int .i64) (.int .i64)) 2])]∧((mkI c_mPoint m_Point a0 a1 a1 0 a0)∧∀(y1:(Int×(Int×(List (Int×Int))))),(mkI c_mPoint m_Point a0 a1 y1.1 y1.2.1 y1.2.2)→(caseB (decide (y1.2.1<(ln y1.2.2))) (0≤y1.2.1∧(y1.2.1<(ln y1.2.2)∧(0≤y1.2.1∧(y1.2.1<(ln (List.set y1.2.2 (tN y1.2.1) (y1.1,(List.getD y1.2.2 (tN y1.2.1) (0,0)).2)))∧(eS [(0,.val false [.own (.pair (.int .i64) (.int .i64)) 2])] [(0,.val false [.own (.pair (.int .i64) (.int .i64)) 2])]∧(mkI c_mPoint m_Point a0 a1 (wI ((wI (y1.1+(1:Int)))+(1:Int))) (wI (y1.2.1+(1:Int))) (List.set (List.set y1.2.2 (tN y1.2.1) (y1.1,(List.getD y1.2.2 (tN y1.2.1) (0,0)).2)) (tN y1.2.1) ((List.getD (List.set y1.2.2 (tN y1.2.1) (y1.1,(List.getD y1.2.2 (tN y1.2.1) (0,0)).2)) (tN y1.2.1) (0,0)).1,(wI (y1.1+(1:Int))))))∧(mkM a0 a1 (wI ((wI (y1.1+(1:Int)))+(1:Int))) (wI (y1.2.1+(1:Int))) (List.set (List.set y1.2.2 (tN y1.2.1) (y1.1,(List.getD y1.2.2 (tN y1.2.1) (0,0)).2)) (tN y1.2.1) ((List.getD (List.set y1.2.2 (tN y1.2.1) (y1.1,(List.getD y1.2.2 (tN y1.2.1) (0,0)).2)) (tN y1.2.1) (0,0)).1,(wI (y1.1+(1:Int))))))<(mkM a0 a1 y1.1 y1.2.1 y1.2.2)))))) (Eq (y1.1,((),y1.2.2)) ((fMk_PointS a0 a1).1,((),(fMk_PointS a0 a1).2))))))
def laws_markPointS.L (a0:(List (Int×Int))) (a1:Int):Nat→Option LoopAnn:=fun p=>Go.Proofs.Ytnoapekdbmpiaaa.Bv.look p [(26,{kp:={hold:=[0],slots:=[1,5],boxes:=[],rows:=[{bx:=false,s:=0,i:=0,k:=2,e:=38,hot:=true}]},T:=(.pair (.int .i64) (.pair (.int .i64) (.list (.pair (.int .i64) (.int .i64))))),I:=fun st y=>mkI c_mPoint m_Point a0 a1 y.1 y.2.1 y.2.2,μ:=fun st y=>mkM a0 a1 y.1 y.2.1 y.2.2})]
theorem laws_markPointS.pure (a0:(List (Int×Int))) (a1:Int) (h:(pMk_PointS a0 a1)) (hw:Wf c_laws_markPointS.A (a0,a1)):laws_markPointS.F a0 a1:=by
 delta laws_markPointS.F ln tN wI eS
 obtain⟨p1,p2⟩:=h
 have hw1:a0.length≤9223372036854775807:=hw.1.1
 simp only [forall_eq,true_and,and_true,caseB_iff,Prod.mk.injEq,decide_eq_true_eq,decide_eq_false_iff_not,Bool.not_eq_true',Bool.not_eq_false',bne_iff_ne,ne_eq,beq_iff_eq,Bool.not_true,Bool.not_false,beq_eq_false_iff_ne,bne_eq_false_iff_eq,List.length_append,List.length_cons,List.length_nil,List.append_nil,Nat.zero_add,decide_true,decide_false,eq_self_iff_true]
 refine⟨⟨by omega,by omega,by simp [cL],by simp [mL]⟩,?_⟩
 rintro⟨k,i,l⟩ hI
 simp only at hI ⊢
 have hl:=mk_len hI
 have h2:=hI.1
 have h3:=hI.2
 refine⟨fun hi0=>?_,fun hi0=>?_⟩
 · have hi:i<(a0.length:Int):=by omega
   have hi':i.toNat<l.length:=by omega
   have hg:=mk_at (d:=((0:Int),(0:Int))) hI hi
   have hs:=cL_split c_mPoint ((0:Int),(0:Int)) (l:=a0) (i:=i.toNat) (by omega)
   have hk:=hI.3
   have c1:=cL_pos pos_Point (a0.take i.toNat)
   have c2:=cL_pos pos_Point (a0.drop (i.toNat+1))
   have c3:=pos_Point (a0.getD i.toNat ((0:Int),(0:Int)))
   have hmod:Int.tmod k 3=k % 3:=Int.tmod_eq_emod_of_nonneg (by omega)
   have hc:c_mPoint (a0.getD i.toNat ((0:Int),(0:Int)))=c_mPoint (a0.getD i.toNat ((0:Int),(0:Int))):=rfl
   conv at hc=>rhs;unfold c_mPoint
   try simp only [hg,getD_set_self hi',List.set_set,List.length_set]
   try simp (disch:=first | omega | simp_all) only [getD_set_self,List.set_set,List.length_set,hg,w64,pMT]
   repeat' (with_reducible (first | (refine And.intro ?_ ?_) | intro _))
   all_goals (try simp+zetaDelta (disch:=first | omega | simp_all) only [hg,getD_set_self,List.set_set,List.length_set,w64,pMT])
   all_goals (first | omega | exact mk_step (d:=((0:Int),(0:Int))) hI hi (by simp [m_Point,hmod]) (by omega) | (unfold mkM;omega) | skip)
 · obtain⟨e1,e2⟩:=mk_end hI (by omega)
   exact⟨e1,e2⟩
set_option maxRecDepth 100000 in
theorem laws_markPointS.eq:EqS c_laws_markPointS Try.f13 [3] [] [] (fun i x=>laws_markPointS.L x.1 x.2) (fun i x=>laws_markPointS.F x.1 x.2):=by intro i x;kernel_rfl
theorem laws_markPointS.ok:ConOk Try.prog 13 c_laws_markPointS:=okOf laws_markPointS.eq Try.func13 rfl (by kernel_rfl) fun i x h hi hw=>laws_markPointS.pure x.1 x.2 h hw
def laws_markPointS.e:GE:=⟨13,c_laws_markPointS,⟨_,Try.func13,rfl,rfl⟩,laws_markPointS.ok⟩
def fHd_PointS (l:List (Int×Int)) (k:Int):Int:=fHd (cL c_mPoint l) (oL c_mPoint o_Point l k) k
def c_laws_heldPointS:Con:={A:=(.pair (.list (.pair (.int .i64) (.int .i64))) (.int .i64)),shA:=[.one,.one],R:=(.int .i64),shR:=[(false,1)],pre:=fun _ a=>(pMk_PointS a.1 a.2),f:=some fun _ a=>((fHd_PointS a.1 a.2),((),()))}
def laws_heldPointS.F (a0:(List (Int×Int))) (a1:Int):Prop:=(eS [(0,.val false [.lst (.pair (.int .i64) (.int .i64)) a0 none])] [(0,.val false [.lst (.pair (.int .i64) (.int .i64)) a0 none])]∧((hdI c_mPoint o_Point a0 a1 a1 0)∧∀(y1:(Int×Int)),(hdI c_mPoint o_Point a0 a1 y1.1 y1.2)→(caseB (decide (y1.2<(ln a0))) (0≤y1.2∧(y1.2<(ln a0)∧(caseB (((List.getD a0 (tN y1.2) (0,0)).1)!=y1.1) (Eq ((-1),((),())) ((fHd_PointS a0 a1),((),()))) (0≤y1.2∧(y1.2<(ln a0)∧(caseB (((List.getD a0 (tN y1.2) (0,0)).2)!=(wI (y1.1+(1:Int)))) (Eq ((-1),((),())) ((fHd_PointS a0 a1),((),()))) (eS [(0,.val false [.lst (.pair (.int .i64) (.int .i64)) a0 none])] [(0,.val false [.lst (.pair (.int .i64) (.int .i64)) a0 none])]∧(hdI c_mPoint o_Point a0 a1 (wI ((wI (y1.1+(1:Int)))+(1:Int))) (wI (y1.2+(1:Int))))∧(hdM a0 a1 (wI ((wI (y1.1+(1:Int)))+(1:Int))) (wI (y1.2+(1:Int))))<(hdM a0 a1 y1.1 y1.2)))))))) (Eq (y1.1,((),())) ((fHd_PointS a0 a1),((),()))))))
def laws_heldPointS.L (a0:(List (Int×Int))) (a1:Int):Nat→Option LoopAnn:=fun p=>Go.Proofs.Ytnoapekdbmpiaaa.Bv.look p [(26,{kp:={hold:=[0],slots:=[1,5],boxes:=[],rows:=[]},T:=(.pair (.int .i64) (.int .i64)),I:=fun st y=>hdI c_mPoint o_Point a0 a1 y.1 y.2,μ:=fun st y=>hdM a0 a1 y.1 y.2})]
theorem laws_heldPointS.pure (a0:(List (Int×Int))) (a1:Int) (h:(pMk_PointS a0 a1)) (hw:Wf c_laws_heldPointS.A (a0,a1)):laws_heldPointS.F a0 a1:=by
 delta laws_heldPointS.F ln tN wI eS
 obtain⟨p1,p2⟩:=h
 have hw1:a0.length≤9223372036854775807:=hw.1.1
 simp only [forall_eq,true_and,and_true,caseB_iff,Prod.mk.injEq,decide_eq_true_eq,decide_eq_false_iff_not,Bool.not_eq_true',Bool.not_eq_false',bne_iff_ne,ne_eq,beq_iff_eq,Bool.not_true,Bool.not_false,beq_eq_false_iff_ne,bne_eq_false_iff_eq,List.length_append,List.length_cons,List.length_nil,List.append_nil,Nat.zero_add,decide_true,decide_false,eq_self_iff_true]
 refine⟨⟨by omega,by omega,by simp [cL],by simp⟩,?_⟩
 rintro⟨k,i⟩ hI
 simp only at hI ⊢
 have h2:=hI.1
 have h3:=hI.2
 refine⟨fun hi=>?_,fun hi=>hd_end hI hi⟩
 · have hs:=cL_split c_mPoint ((0:Int),(0:Int)) (l:=a0) (i:=i.toNat) (by omega)
   have hk:=hI.3
   have c1:=cL_pos pos_Point (a0.take i.toNat)
   have c2:=cL_pos pos_Point (a0.drop (i.toNat+1))
   have c3:=pos_Point (a0.getD i.toNat ((0:Int),(0:Int)))
   have hmod:Int.tmod k 3=k % 3:=Int.tmod_eq_emod_of_nonneg (by omega)
   have no:o_Point (a0.getD i.toNat ((0:Int),(0:Int))) k=false→-1=fHd_PointS a0 a1:=fun ho=>hd_no ((0:Int),(0:Int)) hI hi ho
   have yes:o_Point (a0.getD i.toNat ((0:Int),(0:Int))) k=true→hdI c_mPoint o_Point a0 a1 (k+c_mPoint (a0.getD i.toNat ((0:Int),(0:Int)))) (i+1):=fun ho=>hd_step ((0:Int),(0:Int)) hI hi ho rfl
   generalize a0.getD i.toNat ((0:Int),(0:Int))=x at*
   have hc:c_mPoint x=c_mPoint x:=rfl
   conv at hc=>rhs;unfold c_mPoint
   simp only [o_Point] at no yes
   simp (disch:=omega) only [w64,pMT]
   repeat' (with_reducible (first | (refine And.intro ?_ ?_) | intro _))
   all_goals (first | omega | (unfold hdM;omega) | skip)
   all_goals (try simp (disch:=first | omega | assumption) only [fHd_neg,fHd_yes,w64,Bool.not_eq_false] at*)
   all_goals (try simp (disch:=first | omega | assumption) only [fHd_neg,fHd_yes,w64,Bool.not_eq_false] at*)
   all_goals (first | omega | grind)
set_option maxRecDepth 100000 in
theorem laws_heldPointS.eq:EqS c_laws_heldPointS Try.f14 [3] [] [] (fun i x=>laws_heldPointS.L x.1 x.2) (fun i x=>laws_heldPointS.F x.1 x.2):=by intro i x;kernel_rfl
theorem laws_heldPointS.ok:ConOk Try.prog 14 c_laws_heldPointS:=okOf laws_heldPointS.eq Try.func14 rfl (by kernel_rfl) fun i x h hi hw=>laws_heldPointS.pure x.1 x.2 h hw
def laws_heldPointS.e:GE:=⟨14,c_laws_heldPointS,⟨_,Try.func14,rfl,rfl⟩,laws_heldPointS.ok⟩
end Go.Proofs.Ytnoapekdbmpiaaa.B
