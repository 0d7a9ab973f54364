/- Values of the type Series:how large,the same,marked. -/
import Derived.Test.YtnoapekdbmpiaaaGreatCTypes
import Derived.Test.YtnoapekdbmpiaaaGreatCTPoint
set_option linter.unusedVariables false
set_option linter.unusedSimpArgs false
namespace Go.Proofs.YtnoapekdbmpiaaaGreat.B
open Go Go.Proofs.YtnoapekdbmpiaaaGreat.Bv
def n_Series (x:(U5q×U7q)):Nat:=(x.1.length)+(List.length x.2)
def pSz_Series (x:(U5q×U7q)) (left:Int):Prop:=WfD T3q x∧0≤left∧left≤1048576
def fSz_Series (x:(U5q×U7q)) (left:Int):Int:=fSz (n_Series x) left
def c_laws_szSeries:Con:={A:=(.pair T3q (.int .i64)),shA:=[.agg 2,.one],R:=(.int .i64),shR:=[(false,1)],pre:=fun _ a=>(pSz_Series a.1 a.2),f:=some fun _ a=>((fSz_Series a.1 a.2),((),()))}
def laws_szSeries.F (a0:(U5q×U7q)) (a1:Int):Prop:=(caseB (decide ((wI (a1 - (ln a0.1)))<(0:Int))) (Eq ((-1),((),())) ((fSz_Series a0 a1),((),()))) ((pSz_PointS a0.2 (wI (a1 - (ln a0.1))))∧∀r1,(Eq r1 ((fSz_PointS a0.2 (wI (a1 - (ln a0.1)))),((),())))→(caseB (decide (r1.1<(0:Int))) (Eq ((-1),((),())) ((fSz_Series a0 a1),((),()))) (Eq (r1.1,((),())) ((fSz_Series a0 a1),((),()))))))
theorem laws_szSeries.pure (a0:(U5q×U7q)) (a1:Int) (h:(pSz_Series a0 a1)) (hw:Wf c_laws_szSeries.A (a0,a1)):laws_szSeries.F a0 a1:=by
 delta laws_szSeries.F ln wI
 obtain⟨hwf,p1,p2⟩:=h
 have w0:a0.1.length≤9223372036854775807:=hwf.1
 have w1:WfD T16q a0.2:=hwf.2
 simp only [forall_eq,true_and,and_true,caseB_iff,Prod.mk.injEq,decide_eq_true_eq,decide_eq_false_iff_not,Bool.not_eq_true',Bool.not_eq_false',bne_iff_ne,ne_eq,beq_iff_eq,Bool.not_true,Bool.not_false,beq_eq_false_iff_ne,bne_eq_false_iff_eq,List.length_append,List.length_cons,List.length_nil,List.append_nil,Nat.zero_add,decide_true,decide_false,eq_self_iff_true,n_Series,fSz_Series,pSz_PointS,fSz_PointS]
 repeat' (with_reducible (first | (refine And.intro ?_ ?_) | intro _))
 all_goals (try simp (disch:=omega) only [w64,wu8,tn0,tn1,tm1,tm2,List.length_append,List.length_cons,List.length_nil] at*)
 all_goals (try simp (disch:=omega) only [w64,wu8,tn0,tn1,tm1,tm2,List.length_append,List.length_cons,List.length_nil] at*)
 all_goals (try omega)
 all_goals (try grind [fSz])
set_option maxRecDepth 100000 in
theorem laws_szSeries.eq:EqS c_laws_szSeries Tryz.f126 [3] [laws_szPointS.e] [] noL (fun i x=>laws_szSeries.F x.1 x.2):=by intro i x;kernel_rfl
theorem laws_szSeries.ok:ConOk Tryz.prog 126 c_laws_szSeries:=okOf laws_szSeries.eq Tryz.func126 rfl (by kernel_rfl) fun i x h hi hw=>laws_szSeries.pure x.1 x.2 h hw
def laws_szSeries.e:GE:=⟨126,c_laws_szSeries,⟨_,Tryz.func126,rfl,rfl⟩,laws_szSeries.ok⟩
def pSz_SeriesS (x:List (U5q×U7q)) (left:Int):Prop:=WfD T15q x∧0≤left∧left≤1048576
def fSz_SeriesS (x:List (U5q×U7q)) (left:Int):Int:=fSz (nL n_Series x) left
def c_laws_szSeriesS:Con:={A:=(.pair T15q (.int .i64)),shA:=[.one,.one],R:=(.int .i64),shR:=[(false,1)],pre:=fun _ a=>(pSz_SeriesS a.1 a.2),f:=some fun _ a=>((fSz_SeriesS a.1 a.2),((),()))}
def laws_szSeriesS.F (a0:U2q) (a1:Int):Prop:=(caseB (decide ((wI (a1 - (ln a0)))<(0:Int))) (Eq ((-1),((),())) ((fSz_SeriesS a0 a1),((),()))) (eS [(0,.val false [.lst T3q a0 none])] [(0,.val false [.lst T3q a0 none])]∧((szLI n_Series a0 a1 (wI (a1 - (ln a0))) 0)∧∀(y1:(Int×Int)),(szLI n_Series a0 a1 y1.1 y1.2)→(caseB (decide (y1.2<(ln a0))) (0≤y1.2∧(y1.2<(ln a0)∧((pSz_Series ((List.getD a0 (tN y1.2) ([],[])).1,(List.getD a0 (tN y1.2) ([],[])).2) y1.1)∧∀r2,(Eq r2 ((fSz_Series ((List.getD a0 (tN y1.2) ([],[])).1,(List.getD a0 (tN y1.2) ([],[])).2) y1.1),((),())))→(caseB (decide (r2.1<(0:Int))) (Eq ((-1),((),())) ((fSz_SeriesS a0 a1),((),()))) (eS [(0,.val false [.lst T3q a0 none])] [(0,.val false [.lst T3q a0 none])]∧(szLI n_Series a0 a1 r2.1 (wI (y1.2+(1:Int))))∧(szLM a0 a1 r2.1 (wI (y1.2+(1:Int))))<(szLM a0 a1 y1.1 y1.2)))))) (Eq (y1.1,((),())) ((fSz_SeriesS a0 a1),((),())))))))
def laws_szSeriesS.L (a0:U2q) (a1:Int):Nat→Option LoopAnn:=fun p=>Go.Proofs.YtnoapekdbmpiaaaGreat.Bv.look p [(122,{kp:={hold:=[0],slots:=[1,5],boxes:=[],rows:=[]},T:=T0q,I:=fun st y=>szLI n_Series a0 a1 y.1 y.2,μ:=fun st y=>szLM a0 a1 y.1 y.2})]
theorem laws_szSeriesS.pure (a0:U2q) (a1:Int) (h:(pSz_SeriesS a0 a1)) (hw:Wf c_laws_szSeriesS.A (a0,a1)):laws_szSeriesS.F a0 a1:=by
 delta laws_szSeriesS.F ln tN wI eS
 obtain⟨hwf,p1,p2⟩:=h
 have hw1:a0.length≤9223372036854775807:=hwf.1
 simp only [forall_eq,true_and,and_true,caseB_iff,Prod.mk.injEq,decide_eq_true_eq,decide_eq_false_iff_not,Bool.not_eq_true',Bool.not_eq_false',bne_iff_ne,ne_eq,beq_iff_eq,Bool.not_true,Bool.not_false,beq_eq_false_iff_ne,bne_eq_false_iff_eq,List.length_append,List.length_cons,List.length_nil,List.append_nil,Nat.zero_add,decide_true,decide_false,eq_self_iff_true,fSz_SeriesS]
 rw [w64 (x:=a1 - (a0.length:Int)) (by omega) (by omega)]
 refine⟨fun h1=>(fSz_no (by unfold nL;omega)).symm,fun h1=>⟨⟨by omega,by omega,by omega,by rw [show Int.toNat 0=0 from rfl,sumT_zero];omega⟩,?_⟩⟩
 rintro⟨left,i⟩ ⟨h2,h3,h4,h5⟩
 simp only at h2 h3 h4 h5 ⊢
 refine⟨fun hi=>?_,fun hi=>?_⟩
 · have hm:a0.getD i.toNat (([]:U5q),([]:U7q))∈a0:=getD_mem (by omega)
   have s1:=sumT_succ n_Series a0 (([]:U5q),([]:U7q)) (i:=i.toNat) (by omega)
   have s2:=sumT_le n_Series a0 (i.toNat+1)
   have hwx:WfD T3q (a0.getD i.toNat (([]:U5q),([]:U7q))):=hwf.2 _ hm
   rw [w64 (x:=i+1) (by omega) (by omega)]
   simp only [fSz_Series]
   by_cases hc:left<(n_Series (a0.getD i.toNat (([]:U5q),([]:U7q))):Int)
   · rw [fSz_no hc]
     exact⟨h2,hi,⟨hwx,h4,by omega⟩,fun h6=>(fSz_no (by unfold nL;omega)).symm,fun h6=>absurd (by decide) h6⟩
   · rw [fSz_yes hc]
     exact⟨h2,hi,⟨hwx,h4,by omega⟩,fun h6=>by omega,fun h6=>⟨⟨by omega,by omega,by omega,by rw [tn1 h2];omega⟩,by unfold szLM;omega⟩⟩
 · have e:i.toNat=a0.length:=by omega
   rw [e] at h5
   rw [fSz_yes (by unfold nL;omega)]
   unfold nL;omega
set_option maxRecDepth 100000 in
theorem laws_szSeriesS.eq:EqS c_laws_szSeriesS Tryz.f55 [3] [laws_szSeries.e] [] (fun i x=>laws_szSeriesS.L x.1 x.2) (fun i x=>laws_szSeriesS.F x.1 x.2):=by intro i x;kernel_rfl
theorem laws_szSeriesS.ok:ConOk Tryz.prog 55 c_laws_szSeriesS:=okOf laws_szSeriesS.eq Tryz.func55 rfl (by kernel_rfl) fun i x h hi hw=>laws_szSeriesS.pure x.1 x.2 h hw
def laws_szSeriesS.e:GE:=⟨55,c_laws_szSeriesS,⟨_,Tryz.func55,rfl,rfl⟩,laws_szSeriesS.ok⟩
def pTo_Series (x:(U5q×U7q)):Prop:=n_Series x≤1048576
def fTo_Series (x:(U5q×U7q)):(U5q×U7q):=x
def c_laws_toSeries:Con:={A:=T3q,shA:=[.agg 2],R:=T3q,shR:=[(true,2)],fresh:=[(1,74)],pre:=fun _ a=>(pTo_Series a),f:=some fun _ a=>((fTo_Series a),((),()))}
def laws_toSeries.F (a0:(U5q×U7q)):Prop:=((pTo_PointS a0.2)∧∀r1,(Eq r1 ((fTo_PointS a0.2),((),())))→(Eq ((a0.1,r1.1),((),())) ((fTo_Series a0),((),()))))
theorem laws_toSeries.pure (a0:(U5q×U7q)) (h:(pTo_Series a0)) (hw:Wf c_laws_toSeries.A a0):laws_toSeries.F a0:=by
 unfold laws_toSeries.F
 have hp:n_Series a0≤1048576:=h
 simp only [n_Series] at hp
 simp only [forall_eq,true_and,and_true,caseB_iff,Prod.mk.injEq,decide_eq_true_eq,decide_eq_false_iff_not,Bool.not_eq_true',Bool.not_eq_false',bne_iff_ne,ne_eq,beq_iff_eq,Bool.not_true,Bool.not_false,beq_eq_false_iff_ne,bne_eq_false_iff_eq,List.length_append,List.length_cons,List.length_nil,List.append_nil,Nat.zero_add,decide_true,decide_false,eq_self_iff_true,n_Series,fTo_Series,pTo_Series,pTo_PointS,fTo_PointS]
 repeat' (with_reducible (first | (refine And.intro ?_ ?_) | intro _))
 all_goals (try simp (disch:=omega) only [w64,wu8,tn0,tn1,tm1,tm2,List.length_append,List.length_cons,List.length_nil] at*)
 all_goals (try simp (disch:=omega) only [w64,wu8,tn0,tn1,tm1,tm2,List.length_append,List.length_cons,List.length_nil] at*)
 all_goals (try omega)
 all_goals (try grind [])
set_option maxRecDepth 100000 in
theorem laws_toSeries.eq:EqS c_laws_toSeries Tryz.f129 [72] [laws_toPointS.e] [] noL (fun i x=>laws_toSeries.F x):=by intro i x;kernel_rfl
theorem laws_toSeries.ok:ConOk Tryz.prog 129 c_laws_toSeries:=okOf laws_toSeries.eq Tryz.func129 rfl (by kernel_rfl) fun i x h hi hw=>laws_toSeries.pure x h hw
def laws_toSeries.e:GE:=⟨129,c_laws_toSeries,⟨_,Tryz.func129,rfl,rfl⟩,laws_toSeries.ok⟩
def pTo_SeriesS (x:List (U5q×U7q)):Prop:=nL n_Series x≤1048576
def fTo_SeriesS (x:List (U5q×U7q)):List (U5q×U7q):=x
def c_laws_toSeriesS:Con:={A:=T15q,shA:=[.one],R:=T15q,shR:=[(false,1)],fresh:=[(0,72)],pre:=fun _ a=>(pTo_SeriesS a),f:=some fun _ a=>((fTo_SeriesS a),((),()))}
def laws_toSeriesS.F (a0:U2q):Prop:=(0≤(ln a0)∧((ln a0)≤(ln a0)∧((ln a0)≤9223372036854775807∧(((40:Nat):Int)*(ln a0)≤140737488355328∧(eS [(0,.val false [.lst T3q a0 none]),(3,.val false [.own T3q 1000387])] [(0,.val false [.lst T3q a0 none]),(3,.val false [.own T3q 1000387])]∧((cpI (([]:U5q),([]:U7q)) a0 0 (List.replicate (tN (ln a0)) (([]:U5q),([]:U7q))))∧∀(y1:(Int×U2q)),(cpI (([]:U5q),([]:U7q)) a0 y1.1 y1.2)→(caseB (decide (y1.1<(ln a0))) (0≤y1.1∧(y1.1<(ln a0)∧((pTo_Series ((List.getD a0 (tN y1.1) ([],[])).1,(List.getD a0 (tN y1.1) ([],[])).2))∧∀r2,(Eq r2 ((fTo_Series ((List.getD a0 (tN y1.1) ([],[])).1,(List.getD a0 (tN y1.1) ([],[])).2)),((),())))→(0≤y1.1∧(y1.1<(ln y1.2)∧(eS [(0,.val false [.lst T3q a0 none]),(3,.val false [.own T3q 1000387])] [(0,.val false [.lst T3q a0 none]),(3,.val false [.own T3q 1000387])]∧(cpI (([]:U5q),([]:U7q)) a0 (wI (y1.1+(1:Int))) (List.set y1.2 (tN y1.1) (r2.1.1,r2.1.2)))∧(cpM a0 (wI (y1.1+(1:Int))) (List.set y1.2 (tN y1.1) (r2.1.1,r2.1.2)))<(cpM a0 y1.1 y1.2))))))) (Eq (y1.2,((),())) ((fTo_SeriesS a0),((),()))))))))))
def laws_toSeriesS.L (a0:U2q):Nat→Option LoopAnn:=fun p=>Go.Proofs.YtnoapekdbmpiaaaGreat.Bv.look p [(58,{kp:={hold:=[0,3],slots:=[4],boxes:=[],rows:=[{bx:=false,s:=3,i:=0,k:=1000387,e:=72,hot:=true}]},T:=(.pair (.int .i64) T15q),I:=fun st y=>cpI (([]:U5q),([]:U7q)) a0 y.1 y.2,μ:=fun st y=>cpM a0 y.1 y.2})]
theorem laws_toSeriesS.pure (a0:U2q) (h:(pTo_SeriesS a0)) (hw:Wf c_laws_toSeriesS.A a0):laws_toSeriesS.F a0:=by
 delta laws_toSeriesS.F ln tN wI eS
 have hb:a0.length≤1048576:=by have h1:nL n_Series a0≤1048576:=h;unfold nL at h1;omega
 simp only [forall_eq,true_and,and_true,caseB_iff,Prod.mk.injEq,decide_eq_true_eq,decide_eq_false_iff_not,Bool.not_eq_true',Bool.not_eq_false',bne_iff_ne,ne_eq,beq_iff_eq,Bool.not_true,Bool.not_false,beq_eq_false_iff_ne,bne_eq_false_iff_eq,List.length_append,List.length_cons,List.length_nil,List.append_nil,Nat.zero_add,decide_true,decide_false,eq_self_iff_true,fTo_SeriesS]
 refine⟨by omega,by omega,by omega,by omega,⟨by omega,by omega,by simp⟩,?_⟩
 rintro⟨i,out⟩ hI
 simp only at hI ⊢
 refine⟨fun hi=>?_,fun hi=>cp_end hI hi⟩
 have hl:=cp_len hI
 have h3:=hI.2.1
 have h2:=hI.1
 have hp:pTo_Series (a0.getD i.toNat (([]:U5q),([]:U7q))):=by
  have h1:nL n_Series a0≤1048576:=h
  have hm:a0.getD i.toNat (([]:U5q),([]:U7q))∈a0:=getD_mem (by omega)
  show n_Series _≤1048576
  have:=nL_mem n_Series hm;omega
 rw [w64 (x:=i+1) (by omega) (by omega)]
 simp only [fTo_Series,hl]
 exact⟨h2,hi,hp,h2,hi,cp_step hI hi,by unfold cpM;omega⟩
set_option maxRecDepth 100000 in
theorem laws_toSeriesS.eq:EqS c_laws_toSeriesS Tryz.f60 [29] [laws_toSeries.e] [] (fun i x=>laws_toSeriesS.L x) (fun i x=>laws_toSeriesS.F x):=by intro i x;kernel_rfl
theorem laws_toSeriesS.ok:ConOk Tryz.prog 60 c_laws_toSeriesS:=okOf laws_toSeriesS.eq Tryz.func60 rfl (by kernel_rfl) fun i x h hi hw=>laws_toSeriesS.pure x h hw
def laws_toSeriesS.e:GE:=⟨60,c_laws_toSeriesS,⟨_,Tryz.func60,rfl,rfl⟩,laws_toSeriesS.ok⟩
instance dec_Series:DecidableEq (U5q×U7q):=by (iterate 20 (all_goals (first | infer_instance | refine @instDecidableEqProd _ _ ?_ ?_)))
def fEq_Series (a b:(U5q×U7q)):Bool:=decide (a=b)
def c_laws_eqSeries:Con:={A:=(.pair T3q T3q),shA:=[.agg 2,.agg 2],R:=.bool,shR:=[(false,1)],pre:=fun _ _=>True,f:=some fun _ a=>((fEq_Series a.1 a.2),((),()))}
def laws_eqSeries.F (a0:(U5q×U7q)) (a1:(U5q×U7q)):Prop:=(caseB (!(a0.1==a1.1)) (Eq (false,((),())) ((fEq_Series a0 a1),((),()))) (True∧∀r1,(Eq r1 ((fEq_PointS a0.2 a1.2),((),())))→(caseB (!r1.1) (Eq (false,((),())) ((fEq_Series a0 a1),((),()))) (Eq (true,((),())) ((fEq_Series a0 a1),((),()))))))
theorem laws_eqSeries.pure (a0:(U5q×U7q)) (a1:(U5q×U7q)) (h:True) (hw:Wf c_laws_eqSeries.A (a0,a1)):laws_eqSeries.F a0 a1:=by
 unfold laws_eqSeries.F
 obtain⟨x1,x2⟩:=a0
 obtain⟨y1,y2⟩:=a1
 simp only [forall_eq,true_and,and_true,caseB_iff,Prod.mk.injEq,decide_eq_true_eq,decide_eq_false_iff_not,Bool.not_eq_true',Bool.not_eq_false',bne_iff_ne,ne_eq,beq_iff_eq,Bool.not_true,Bool.not_false,beq_eq_false_iff_ne,bne_eq_false_iff_eq,List.length_append,List.length_cons,List.length_nil,List.append_nil,Nat.zero_add,decide_true,decide_false,eq_self_iff_true,fEq_Series,fEq_PointS]
 repeat' (first | (refine And.intro ?_ ?_) | intro _)
 all_goals simp_all
set_option maxRecDepth 100000 in
theorem laws_eqSeries.eq:EqS c_laws_eqSeries Tryz.f69 [4] [laws_eqPointS.e] [] noL (fun i x=>laws_eqSeries.F x.1 x.2):=by intro i x;kernel_rfl
theorem laws_eqSeries.ok:ConOk Tryz.prog 69 c_laws_eqSeries:=okOf laws_eqSeries.eq Tryz.func69 rfl (by kernel_rfl) fun i x h hi hw=>laws_eqSeries.pure x.1 x.2 h hw
def laws_eqSeries.e:GE:=⟨69,c_laws_eqSeries,⟨_,Tryz.func69,rfl,rfl⟩,laws_eqSeries.ok⟩
def fEq_SeriesS (a b:List (U5q×U7q)):Bool:=decide (a=b)
def c_laws_eqSeriesS:Con:={A:=(.pair T15q T15q),shA:=[.one,.one],R:=.bool,shR:=[(false,1)],pre:=fun _ _=>True,f:=some fun _ a=>((fEq_SeriesS a.1 a.2),((),()))}
def laws_eqSeriesS.F (a0:U2q) (a1:U2q):Prop:=(caseB ((ln a0)!=(ln a1)) (Eq (false,((),())) ((fEq_SeriesS a0 a1),((),()))) (eS [(0,.val false [.lst T3q a0 none]),(1,.val false [.lst T3q a1 none])] [(0,.val false [.lst T3q a0 none]),(1,.val false [.lst T3q a1 none])]∧((eqLI a0 a1 0)∧∀(y1:Int),(eqLI a0 a1 y1)→(caseB (decide (y1<(ln a0))) (0≤y1∧(y1<(ln a0)∧(0≤y1∧(y1<(ln a1)∧(True∧∀r2,(Eq r2 ((fEq_Series ((List.getD a0 (tN y1) ([],[])).1,(List.getD a0 (tN y1) ([],[])).2) ((List.getD a1 (tN y1) ([],[])).1,(List.getD a1 (tN y1) ([],[])).2)),((),())))→(caseB (!r2.1) (Eq (false,((),())) ((fEq_SeriesS a0 a1),((),()))) (eS [(0,.val false [.lst T3q a0 none]),(1,.val false [.lst T3q a1 none])] [(0,.val false [.lst T3q a0 none]),(1,.val false [.lst T3q a1 none])]∧(eqLI a0 a1 (wI (y1+(1:Int))))∧(eqLM a0 a1 (wI (y1+(1:Int))))<(eqLM a0 a1 y1)))))))) (Eq (true,((),())) ((fEq_SeriesS a0 a1),((),())))))))
def laws_eqSeriesS.L (a0:U2q) (a1:U2q):Nat→Option LoopAnn:=fun p=>Go.Proofs.YtnoapekdbmpiaaaGreat.Bv.look p [(58,{kp:={hold:=[0,1],slots:=[5],boxes:=[],rows:=[]},T:=(.int .i64),I:=fun st y=>eqLI a0 a1 y,μ:=fun st y=>eqLM a0 a1 y})]
theorem laws_eqSeriesS.pure (a0:U2q) (a1:U2q) (h:True) (hw:Wf c_laws_eqSeriesS.A (a0,a1)):laws_eqSeriesS.F a0 a1:=by
 delta laws_eqSeriesS.F ln tN wI eS
 have hw1:a0.length≤9223372036854775807:=hw.1.1
 simp only [forall_eq,true_and,and_true,caseB_iff,Prod.mk.injEq,decide_eq_true_eq,decide_eq_false_iff_not,Bool.not_eq_true',Bool.not_eq_false',bne_iff_ne,ne_eq,beq_iff_eq,Bool.not_true,Bool.not_false,beq_eq_false_iff_ne,bne_eq_false_iff_eq,List.length_append,List.length_cons,List.length_nil,List.append_nil,Nat.zero_add,decide_true,decide_false,eq_self_iff_true]
 refine⟨fun h1=>?_,fun h1=>?_⟩
 · have:a0≠a1:=fun e=>by subst e;simp at h1
   simp [fEq_SeriesS,this]
 have hl:a0.length=a1.length:=by omega
 refine⟨⟨by omega,by omega,hl,by simp⟩,?_⟩
 rintro i hI
 have h2:=hI.1
 have h3:=hI.2.1
 refine⟨fun hi=>⟨h2,hi,h2,by omega,fun hne=>?_,fun he=>?_⟩,fun hi=>?_⟩
 · have:a0≠a1:=fun e=>by subst e;simp [fEq_Series] at hne
   simp [fEq_SeriesS,this]
 · have hg:a0.getD i.toNat (([]:U5q),([]:U7q))=a1.getD i.toNat (([]:U5q),([]:U7q)):=by simpa only [fEq_Series,decide_eq_true_eq] using he
   rw [w64 (x:=i+1) (by omega) (by omega)]
   exact⟨eqL_step hI hi hg,by unfold eqLM;omega⟩
 · have h6:=eqL_end hI hi
   simp [fEq_SeriesS,h6]
set_option maxRecDepth 100000 in
theorem laws_eqSeriesS.eq:EqS c_laws_eqSeriesS Tryz.f25 [4] [laws_eqSeries.e] [] (fun i x=>laws_eqSeriesS.L x.1 x.2) (fun i x=>laws_eqSeriesS.F x.1 x.2):=by intro i x;kernel_rfl
theorem laws_eqSeriesS.ok:ConOk Tryz.prog 25 c_laws_eqSeriesS:=okOf laws_eqSeriesS.eq Tryz.func25 rfl (by kernel_rfl) fun i x h hi hw=>laws_eqSeriesS.pure x.1 x.2 h hw
def laws_eqSeriesS.e:GE:=⟨25,c_laws_eqSeriesS,⟨_,Tryz.func25,rfl,rfl⟩,laws_eqSeriesS.ok⟩
def c_mSeries (x:(U5q×U7q)):Int:=1+cL c_mPoint x.2
def m_Series (x:(U5q×U7q)) (k:Int):(U5q×U7q):=((fMT k),(mL c_mPoint m_Point x.2 (k+1)))
def o_Series (x:(U5q×U7q)) (k:Int):Bool:=(decide (x.1=fMT k))&&(oL c_mPoint o_Point x.2 (k+1))
def laws_markSeriesS.L (a0:U2q) (a1:Int):Nat→Option LoopAnn:=fun p=>Go.Proofs.YtnoapekdbmpiaaaGreat.Bv.look p [(26,{kp:={hold:=[0],slots:=[1,5],boxes:=[],rows:=[{bx:=false,s:=0,i:=0,k:=2,e:=72,hot:=true}]},T:=(.pair (.int .i64) (.pair (.int .i64) T15q)),I:=fun st y=>mkI c_mSeries m_Series a0 a1 y.1 y.2.1 y.2.2,μ:=fun st y=>mkM a0 a1 y.1 y.2.1 y.2.2})]
def laws_heldSeriesS.L (a0:U2q) (a1:Int):Nat→Option LoopAnn:=fun p=>Go.Proofs.YtnoapekdbmpiaaaGreat.Bv.look p [(26,{kp:={hold:=[0],slots:=[1,5],boxes:=[],rows:=[]},T:=T0q,I:=fun st y=>hdI c_mSeries o_Series a0 a1 y.1 y.2,μ:=fun st y=>hdM a0 a1 y.1 y.2})]
end Go.Proofs.YtnoapekdbmpiaaaGreat.B
