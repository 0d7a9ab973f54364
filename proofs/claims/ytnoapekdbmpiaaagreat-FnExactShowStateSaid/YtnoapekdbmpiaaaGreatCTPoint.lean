/- Values of the type Point:how large,the same,marked. -/
import Derived.Test.YtnoapekdbmpiaaaGreatCTypes
set_option linter.unusedVariables false
set_option linter.unusedSimpArgs false
namespace Go.Proofs.YtnoapekdbmpiaaaGreat.B
open Go Go.Proofs.YtnoapekdbmpiaaaGreat.Bv
def n_Point (x:(Int×Int)):Nat:=0
def pSz_PointS (x:List (Int×Int)) (left:Int):Prop:=WfD T16q x∧0≤left∧left≤1048576
def fSz_PointS (x:List (Int×Int)) (left:Int):Int:=fSz (List.length x) left
def c_laws_szPointS:Con:={A:=(.pair T16q (.int .i64)),shA:=[.one,.one],R:=(.int .i64),shR:=[(false,1)],pre:=fun _ a=>(pSz_PointS a.1 a.2),f:=some fun _ a=>((fSz_PointS a.1 a.2),((),()))}
def laws_szPointS.F (a0:U7q) (a1:Int):Prop:=(caseB (decide ((wI (a1 - (ln a0)))<(0:Int))) (Eq ((-1),((),())) ((fSz_PointS a0 a1),((),()))) (Eq ((wI (a1 - (ln a0))),((),())) ((fSz_PointS a0 a1),((),()))))
theorem laws_szPointS.pure (a0:U7q) (a1:Int) (h:(pSz_PointS a0 a1)) (hw:Wf c_laws_szPointS.A (a0,a1)):laws_szPointS.F a0 a1:=by
 delta laws_szPointS.F ln wI
 obtain⟨hwf,p1,p2⟩:=h
 have hw1:a0.length≤9223372036854775807:=hwf.1
 simp only [forall_eq,true_and,and_true,caseB_iff,Prod.mk.injEq,decide_eq_true_eq,decide_eq_false_iff_not,Bool.not_eq_true',Bool.not_eq_false',bne_iff_ne,ne_eq,beq_iff_eq,Bool.not_true,Bool.not_false,beq_eq_false_iff_ne,bne_eq_false_iff_eq,List.length_append,List.length_cons,List.length_nil,List.append_nil,Nat.zero_add,decide_true,decide_false,eq_self_iff_true,fSz_PointS]
 rw [w64 (x:=a1 - (a0.length:Int)) (by omega) (by omega)]
 exact⟨fun h1=>(fSz_no (by omega)).symm,fun h1=>(fSz_yes (by omega)).symm⟩
set_option maxRecDepth 100000 in
theorem laws_szPointS.eq:EqS c_laws_szPointS Tryz.f35 [3] [] [] noL (fun i x=>laws_szPointS.F x.1 x.2):=by intro i x;kernel_rfl
theorem laws_szPointS.ok:ConOk Tryz.prog 35 c_laws_szPointS:=okOf laws_szPointS.eq Tryz.func35 rfl (by kernel_rfl) fun i x h hi hw=>laws_szPointS.pure x.1 x.2 h hw
def laws_szPointS.e:GE:=⟨35,c_laws_szPointS,⟨_,Tryz.func35,rfl,rfl⟩,laws_szPointS.ok⟩
def pTo_Point (x:(Int×Int)):Prop:=n_Point x≤1048576
def fTo_Point (x:(Int×Int)):(Int×Int):=x
def c_laws_toPoint:Con:={A:=T0q,shA:=[.agg 2],R:=T0q,shR:=[(true,2)],pre:=fun _ a=>(pTo_Point a),f:=some fun _ a=>((fTo_Point a),((),()))}
def laws_toPoint.F (a0:(Int×Int)):Prop:=(Eq ((a0.1,a0.2),((),())) ((fTo_Point a0),((),())))
theorem laws_toPoint.pure (a0:(Int×Int)) (h:(pTo_Point a0)) (hw:Wf c_laws_toPoint.A a0):laws_toPoint.F a0:=by
 unfold laws_toPoint.F
 have hp:n_Point a0≤1048576:=h
 simp only [n_Point] at hp
 simp only [forall_eq,true_and,and_true,caseB_iff,Prod.mk.injEq,decide_eq_true_eq,decide_eq_false_iff_not,Bool.not_eq_true',Bool.not_eq_false',bne_iff_ne,ne_eq,beq_iff_eq,Bool.not_true,Bool.not_false,beq_eq_false_iff_ne,bne_eq_false_iff_eq,List.length_append,List.length_cons,List.length_nil,List.append_nil,Nat.zero_add,decide_true,decide_false,eq_self_iff_true,n_Point,fTo_Point,pTo_Point]
 repeat' (with_reducible (first | (refine And.intro ?_ ?_) | intro _))
 all_goals (try simp (disch:=omega) only [w64,wu8,tn0,tn1,tm1,tm2,List.length_append,List.length_cons,List.length_nil] at*)
 all_goals (try simp (disch:=omega) only [w64,wu8,tn0,tn1,tm1,tm2,List.length_append,List.length_cons,List.length_nil] at*)
 all_goals (try omega)
 all_goals (try grind [])
set_option maxRecDepth 100000 in
theorem laws_toPoint.eq:EqS c_laws_toPoint Tryz.f83 [74] [] [] noL (fun i x=>laws_toPoint.F x):=by intro i x;kernel_rfl
theorem laws_toPoint.ok:ConOk Tryz.prog 83 c_laws_toPoint:=okOf laws_toPoint.eq Tryz.func83 rfl (by kernel_rfl) fun i x h hi hw=>laws_toPoint.pure x h hw
def laws_toPoint.e:GE:=⟨83,c_laws_toPoint,⟨_,Tryz.func83,rfl,rfl⟩,laws_toPoint.ok⟩
def pTo_PointS (x:List (Int×Int)):Prop:=List.length x≤1048576
def fTo_PointS (x:List (Int×Int)):List (Int×Int):=x
def c_laws_toPointS:Con:={A:=T16q,shA:=[.one],R:=T16q,shR:=[(false,1)],fresh:=[(0,74)],pre:=fun _ a=>(pTo_PointS a),f:=some fun _ a=>((fTo_PointS a),((),()))}
def laws_toPointS.F (a0:U7q):Prop:=(0≤(ln a0)∧((ln a0)≤(ln a0)∧((ln a0)≤9223372036854775807∧(((16:Nat):Int)*(ln a0)≤140737488355328∧(eS [(0,.val false [.lst T0q a0 none]),(3,.val false [.own T0q 1000387])] [(0,.val false [.lst T0q a0 none]),(3,.val false [.own T0q 1000387])]∧((cpI ((0:Int),(0:Int)) a0 0 (List.replicate (tN (ln a0)) ((0:Int),(0:Int))))∧∀(y1:(Int×U7q)),(cpI ((0:Int),(0:Int)) a0 y1.1 y1.2)→(caseB (decide (y1.1<(ln a0))) (0≤y1.1∧(y1.1<(ln a0)∧((pTo_Point ((List.getD a0 (tN y1.1) (0,0)).1,(List.getD a0 (tN y1.1) (0,0)).2))∧∀r2,(Eq r2 ((fTo_Point ((List.getD a0 (tN y1.1) (0,0)).1,(List.getD a0 (tN y1.1) (0,0)).2)),((),())))→(0≤y1.1∧(y1.1<(ln y1.2)∧(eS [(0,.val false [.lst T0q a0 none]),(3,.val false [.own T0q 1000387])] [(0,.val false [.lst T0q a0 none]),(3,.val false [.own T0q 1000387])]∧(cpI ((0:Int),(0:Int)) a0 (wI (y1.1+(1:Int))) (List.set y1.2 (tN y1.1) (r2.1.1,r2.1.2)))∧(cpM a0 (wI (y1.1+(1:Int))) (List.set y1.2 (tN y1.1) (r2.1.1,r2.1.2)))<(cpM a0 y1.1 y1.2))))))) (Eq (y1.2,((),())) ((fTo_PointS a0),((),()))))))))))
def laws_toPointS.L (a0:U7q):Nat→Option LoopAnn:=fun p=>Go.Proofs.YtnoapekdbmpiaaaGreat.Bv.look p [(58,{kp:={hold:=[0,3],slots:=[4],boxes:=[],rows:=[{bx:=false,s:=3,i:=0,k:=1000387,e:=74,hot:=true}]},T:=T19q,I:=fun st y=>cpI ((0:Int),(0:Int)) a0 y.1 y.2,μ:=fun st y=>cpM a0 y.1 y.2})]
theorem laws_toPointS.pure (a0:U7q) (h:(pTo_PointS a0)) (hw:Wf c_laws_toPointS.A a0):laws_toPointS.F a0:=by
 delta laws_toPointS.F ln tN wI eS
 have hb:a0.length≤1048576:=by have h1:List.length a0≤1048576:=h;exact h1
 simp only [forall_eq,true_and,and_true,caseB_iff,Prod.mk.injEq,decide_eq_true_eq,decide_eq_false_iff_not,Bool.not_eq_true',Bool.not_eq_false',bne_iff_ne,ne_eq,beq_iff_eq,Bool.not_true,Bool.not_false,beq_eq_false_iff_ne,bne_eq_false_iff_eq,List.length_append,List.length_cons,List.length_nil,List.append_nil,Nat.zero_add,decide_true,decide_false,eq_self_iff_true,fTo_PointS]
 refine⟨by omega,by omega,by omega,by omega,⟨by omega,by omega,by simp⟩,?_⟩
 rintro⟨i,out⟩ hI
 simp only at hI ⊢
 refine⟨fun hi=>?_,fun hi=>cp_end hI hi⟩
 have hl:=cp_len hI
 have h3:=hI.2.1
 have h2:=hI.1
 have hp:pTo_Point (a0.getD i.toNat ((0:Int),(0:Int))):=by
  have h1:List.length a0≤1048576:=h
  have hm:a0.getD i.toNat ((0:Int),(0:Int))∈a0:=getD_mem (by omega)
  show n_Point _≤1048576
  simp [n_Point]
 rw [w64 (x:=i+1) (by omega) (by omega)]
 simp only [fTo_Point,hl]
 exact⟨h2,hi,hp,h2,hi,cp_step hI hi,by unfold cpM;omega⟩
set_option maxRecDepth 100000 in
theorem laws_toPointS.eq:EqS c_laws_toPointS Tryz.f37 [27] [laws_toPoint.e] [] (fun i x=>laws_toPointS.L x) (fun i x=>laws_toPointS.F x):=by intro i x;kernel_rfl
theorem laws_toPointS.ok:ConOk Tryz.prog 37 c_laws_toPointS:=okOf laws_toPointS.eq Tryz.func37 rfl (by kernel_rfl) fun i x h hi hw=>laws_toPointS.pure x h hw
def laws_toPointS.e:GE:=⟨37,c_laws_toPointS,⟨_,Tryz.func37,rfl,rfl⟩,laws_toPointS.ok⟩
instance dec_Point:DecidableEq (Int×Int):=by (iterate 20 (all_goals (first | infer_instance | refine @instDecidableEqProd _ _ ?_ ?_)))
def fEq_Point (a b:(Int×Int)):Bool:=decide (a=b)
def c_laws_eqPoint:Con:={A:=(.pair T0q T0q),shA:=[.agg 2,.agg 2],R:=.bool,shR:=[(false,1)],pre:=fun _ _=>True,f:=some fun _ a=>((fEq_Point a.1 a.2),((),()))}
def laws_eqPoint.F (a0:(Int×Int)) (a1:(Int×Int)):Prop:=(caseB (a0.1 !=a1.1) (Eq (false,((),())) ((fEq_Point a0 a1),((),()))) (caseB (a0.2 !=a1.2) (Eq (false,((),())) ((fEq_Point a0 a1),((),()))) (Eq (true,((),())) ((fEq_Point a0 a1),((),())))))
theorem laws_eqPoint.pure (a0:(Int×Int)) (a1:(Int×Int)) (h:True) (hw:Wf c_laws_eqPoint.A (a0,a1)):laws_eqPoint.F a0 a1:=by
 unfold laws_eqPoint.F
 obtain⟨x1,x2⟩:=a0
 obtain⟨y1,y2⟩:=a1
 simp only [forall_eq,true_and,and_true,caseB_iff,Prod.mk.injEq,decide_eq_true_eq,decide_eq_false_iff_not,Bool.not_eq_true',Bool.not_eq_false',bne_iff_ne,ne_eq,beq_iff_eq,Bool.not_true,Bool.not_false,beq_eq_false_iff_ne,bne_eq_false_iff_eq,List.length_append,List.length_cons,List.length_nil,List.append_nil,Nat.zero_add,decide_true,decide_false,eq_self_iff_true,fEq_Point]
 repeat' (first | (refine And.intro ?_ ?_) | intro _)
 all_goals simp_all
set_option maxRecDepth 100000 in
theorem laws_eqPoint.eq:EqS c_laws_eqPoint Tryz.f65 [4] [] [] noL (fun i x=>laws_eqPoint.F x.1 x.2):=by intro i x;kernel_rfl
theorem laws_eqPoint.ok:ConOk Tryz.prog 65 c_laws_eqPoint:=okOf laws_eqPoint.eq Tryz.func65 rfl (by kernel_rfl) fun i x h hi hw=>laws_eqPoint.pure x.1 x.2 h hw
def laws_eqPoint.e:GE:=⟨65,c_laws_eqPoint,⟨_,Tryz.func65,rfl,rfl⟩,laws_eqPoint.ok⟩
def fEq_PointS (a b:List (Int×Int)):Bool:=decide (a=b)
def c_laws_eqPointS:Con:={A:=(.pair T16q T16q),shA:=[.one,.one],R:=.bool,shR:=[(false,1)],pre:=fun _ _=>True,f:=some fun _ a=>((fEq_PointS a.1 a.2),((),()))}
def laws_eqPointS.F (a0:U7q) (a1:U7q):Prop:=(caseB ((ln a0)!=(ln a1)) (Eq (false,((),())) ((fEq_PointS a0 a1),((),()))) (eS [(0,.val false [.lst T0q a0 none]),(1,.val false [.lst T0q a1 none])] [(0,.val false [.lst T0q a0 none]),(1,.val false [.lst T0q a1 none])]∧((eqLI a0 a1 0)∧∀(y1:Int),(eqLI a0 a1 y1)→(caseB (decide (y1<(ln a0))) (0≤y1∧(y1<(ln a0)∧(0≤y1∧(y1<(ln a1)∧(True∧∀r2,(Eq r2 ((fEq_Point ((List.getD a0 (tN y1) (0,0)).1,(List.getD a0 (tN y1) (0,0)).2) ((List.getD a1 (tN y1) (0,0)).1,(List.getD a1 (tN y1) (0,0)).2)),((),())))→(caseB (!r2.1) (Eq (false,((),())) ((fEq_PointS a0 a1),((),()))) (eS [(0,.val false [.lst T0q a0 none]),(1,.val false [.lst T0q a1 none])] [(0,.val false [.lst T0q a0 none]),(1,.val false [.lst T0q a1 none])]∧(eqLI a0 a1 (wI (y1+(1:Int))))∧(eqLM a0 a1 (wI (y1+(1:Int))))<(eqLM a0 a1 y1)))))))) (Eq (true,((),())) ((fEq_PointS a0 a1),((),())))))))
def laws_eqPointS.L (a0:U7q) (a1:U7q):Nat→Option LoopAnn:=fun p=>Go.Proofs.YtnoapekdbmpiaaaGreat.Bv.look p [(58,{kp:={hold:=[0,1],slots:=[5],boxes:=[],rows:=[]},T:=(.int .i64),I:=fun st y=>eqLI a0 a1 y,μ:=fun st y=>eqLM a0 a1 y})]
theorem laws_eqPointS.pure (a0:U7q) (a1:U7q) (h:True) (hw:Wf c_laws_eqPointS.A (a0,a1)):laws_eqPointS.F a0 a1:=by
 delta laws_eqPointS.F ln tN wI eS
 have hw1:a0.length≤9223372036854775807:=hw.1.1
 simp only [forall_eq,true_and,and_true,caseB_iff,Prod.mk.injEq,decide_eq_true_eq,decide_eq_false_iff_not,Bool.not_eq_true',Bool.not_eq_false',bne_iff_ne,ne_eq,beq_iff_eq,Bool.not_true,Bool.not_false,beq_eq_false_iff_ne,bne_eq_false_iff_eq,List.length_append,List.length_cons,List.length_nil,List.append_nil,Nat.zero_add,decide_true,decide_false,eq_self_iff_true]
 refine⟨fun h1=>?_,fun h1=>?_⟩
 · have:a0≠a1:=fun e=>by subst e;simp at h1
   simp [fEq_PointS,this]
 have hl:a0.length=a1.length:=by omega
 refine⟨⟨by omega,by omega,hl,by simp⟩,?_⟩
 rintro i hI
 have h2:=hI.1
 have h3:=hI.2.1
 refine⟨fun hi=>⟨h2,hi,h2,by omega,fun hne=>?_,fun he=>?_⟩,fun hi=>?_⟩
 · have:a0≠a1:=fun e=>by subst e;simp [fEq_Point] at hne
   simp [fEq_PointS,this]
 · have hg:a0.getD i.toNat ((0:Int),(0:Int))=a1.getD i.toNat ((0:Int),(0:Int)):=by simpa only [fEq_Point,decide_eq_true_eq] using he
   rw [w64 (x:=i+1) (by omega) (by omega)]
   exact⟨eqL_step hI hi hg,by unfold eqLM;omega⟩
 · have h6:=eqL_end hI hi
   simp [fEq_PointS,h6]
set_option maxRecDepth 100000 in
theorem laws_eqPointS.eq:EqS c_laws_eqPointS Tryz.f18 [4] [laws_eqPoint.e] [] (fun i x=>laws_eqPointS.L x.1 x.2) (fun i x=>laws_eqPointS.F x.1 x.2):=by intro i x;kernel_rfl
theorem laws_eqPointS.ok:ConOk Tryz.prog 18 c_laws_eqPointS:=okOf laws_eqPointS.eq Tryz.func18 rfl (by kernel_rfl) fun i x h hi hw=>laws_eqPointS.pure x.1 x.2 h hw
def laws_eqPointS.e:GE:=⟨18,c_laws_eqPointS,⟨_,Tryz.func18,rfl,rfl⟩,laws_eqPointS.ok⟩
def c_mPoint (x:(Int×Int)):Int:=1+1
def m_Point (x:(Int×Int)) (k:Int):(Int×Int):=(k,(k+1))
def o_Point (x:(Int×Int)) (k:Int):Bool:=(decide (x.1=k))&&(decide (x.2=(k+1)))
def laws_markPointS.L (a0:U7q) (a1:Int):Nat→Option LoopAnn:=fun p=>Go.Proofs.YtnoapekdbmpiaaaGreat.Bv.look p [(26,{kp:={hold:=[0],slots:=[1,5],boxes:=[],rows:=[{bx:=false,s:=0,i:=0,k:=2,e:=74,hot:=true}]},T:=(.pair (.int .i64) T19q),I:=fun st y=>mkI c_mPoint m_Point a0 a1 y.1 y.2.1 y.2.2,μ:=fun st y=>mkM a0 a1 y.1 y.2.1 y.2.2})]
def laws_heldPointS.L (a0:U7q) (a1:Int):Nat→Option LoopAnn:=fun p=>Go.Proofs.YtnoapekdbmpiaaaGreat.Bv.look p [(26,{kp:={hold:=[0],slots:=[1,5],boxes:=[],rows:=[]},T:=T0q,I:=fun st y=>hdI c_mPoint o_Point a0 a1 y.1 y.2,μ:=fun st y=>hdM a0 a1 y.1 y.2})]
end Go.Proofs.YtnoapekdbmpiaaaGreat.B
