/- Series of points:are they right? -/
import Derived.Test.YtnoapekdbmpiaaaCCover
namespace Go.Proofs.Ytnoapekdbmpiaaa.B
set_option linter.unusedVariables false
set_option linter.unusedSimpArgs false
open Go Go.Proofs.Ytnoapekdbmpiaaa.Bv
abbrev Pt:=Int×Int
abbrev Ser:=List UInt8×List (Int×Int)
def allB (p:Nat→Bool) (n:Nat):Bool:=(List.range n).all p
theorem all_yes {p:Nat→Bool} {n:Nat} (h:∀j,j<n→p j=true):allB p n=true:=by
 simp only [allB,List.all_eq_true,List.mem_range];exact h
theorem all_no {p:Nat→Bool} {n j:Nat} (h:j<n) (hp:p j=false):allB p n=false:=by
 cases e:allB p n with
 | false=>rfl
 | true=>
   simp only [allB,List.all_eq_true,List.mem_range] at e
   rw [e j h] at hp;cases hp
theorem all_more {p:Nat→Bool} {i:Int} (h0:0≤i) (h:∀j,j<i.toNat→p j=true) (hp:p i.toNat=true):∀j,j<(i+1).toNat→p j=true:=fun j hj=>by
 by_cases e:j=i.toNat
 · rw [e];exact hp
 · exact h j (by omega)
def ptAt (l:List Pt) (i:Nat):Bool:=fIn (l.getD i (0,0)).1 0 1099511627776&&(fIn (l.getD i (0,0)).2 (-1099511627776) 1099511627776&&(decide (i=0)||decide ((l.getD (i - 1) (0,0)).1<(l.getD i (0,0)).1)))
def fPtsOk (l:List Pt):Bool:=decide (l.length≤60)&&allB (ptAt l) l.length
def ptI (l:List Pt) (i:Int):Prop:=0≤i∧i≤l.length∧∀j,j<i.toNat→ptAt l j=true
def ptM (l:List Pt) (i:Int):Nat:=(l.length - i).toNat
theorem pts_no {l:List Pt} {j:Nat} (h:j<l.length) (hp:ptAt l j=false):false=fPtsOk l:=by simp [fPtsOk,all_no h hp]
def chAt (s:List UInt8) (i:Nat):Bool:=decide ((97:Int)≤((s.getD i 0).toNat:Int))&&decide (((s.getD i 0).toNat:Int)≤122)
def fKey (s:List UInt8):Bool:=fIn s.length 1 8&&allB (chAt s) s.length
def chI (s:List UInt8) (i:Int):Prop:=0≤i∧i≤s.length∧∀j,j<i.toNat→chAt s j=true
def chM (s:List UInt8) (i:Int):Nat:=(s.length - i).toNat
theorem key_no {s:List UInt8} {j:Nat} (h:j<s.length) (hp:chAt s j=false):false=fKey s:=by simp [fKey,all_no h hp]
def srAt (l:List Ser) (i:Nat):Bool:=fKey (l.getD i ([],[])).1&&((decide (i=0)||Op.bytesLess (l.getD (i - 1) ([],[])).1 (l.getD i ([],[])).1)&&(decide ((l.getD i ([],[])).2.length≠0)&&fPtsOk (l.getD i ([],[])).2))
def fSerOk (l:List Ser):Bool:=decide (l.length≤5)&&allB (srAt l) l.length
def srI (l:List Ser) (i:Int):Prop:=0≤i∧i≤l.length∧∀j,j<i.toNat→srAt l j=true
def srM (l:List Ser) (i:Int):Nat:=(l.length - i).toNat
theorem ser_no {l:List Ser} {j:Nat} (h:j<l.length) (hp:srAt l j=false):false=fSerOk l:=by simp [fSerOk,all_no h hp]
def c_spec_PointsOk:Con:={A:=(.list (.pair (.int .i64) (.int .i64))),shA:=[.one],R:=.bool,shR:=[(false,1)],pre:=fun _ _=>True,f:=some fun _ a=>((fPtsOk a),((),()))}
def spec_PointsOk.F (a0:(List (Int×Int))):Prop:=(caseB (decide ((ln a0)>(60:Int))) (Eq (false,((),())) ((fPtsOk a0),((),()))) (eS [(0,.val false [.lst (.pair (.int .i64) (.int .i64)) a0 none])] [(0,.val false [.lst (.pair (.int .i64) (.int .i64)) a0 none])]∧((ptI a0 0)∧∀(y1:Int),(ptI a0 y1)→(caseB (decide (y1<(ln a0))) (0≤y1∧(y1<(ln a0)∧(True∧∀r2,(Eq r2 ((fIn ((List.getD a0 (tN y1) (0,0)).1) 0 1099511627776),((),())))→(caseB (!r2.1) (Eq (false,((),())) ((fPtsOk a0),((),()))) (0≤y1∧(y1<(ln a0)∧(True∧∀r3,(Eq r3 ((fIn ((List.getD a0 (tN y1) (0,0)).2) (-1099511627776) 1099511627776),((),())))→(caseB (!r3.1) (Eq (false,((),())) ((fPtsOk a0),((),()))) (caseB (decide (y1>(0:Int))) (0≤(wI (y1 - (1:Int)))∧((wI (y1 - (1:Int)))<(ln a0)∧(0≤y1∧(y1<(ln a0)∧(caseB (decide (((List.getD a0 (tN (wI (y1 - (1:Int)))) (0,0)).1)≥((List.getD a0 (tN y1) (0,0)).1))) (Eq (false,((),())) ((fPtsOk a0),((),()))) (eS [(0,.val false [.lst (.pair (.int .i64) (.int .i64)) a0 none])] [(0,.val false [.lst (.pair (.int .i64) (.int .i64)) a0 none])]∧(ptI a0 (wI (y1+(1:Int))))∧(ptM a0 (wI (y1+(1:Int))))<(ptM a0 y1))))))) (eS [(0,.val false [.lst (.pair (.int .i64) (.int .i64)) a0 none])] [(0,.val false [.lst (.pair (.int .i64) (.int .i64)) a0 none])]∧(ptI a0 (wI (y1+(1:Int))))∧(ptM a0 (wI (y1+(1:Int))))<(ptM a0 y1))))))))))) (Eq (true,((),())) ((fPtsOk a0),((),())))))))
def spec_PointsOk.L (a0:(List (Int×Int))):Nat→Option LoopAnn:=fun p=>Go.Proofs.Ytnoapekdbmpiaaa.Bv.look p [(58,{kp:={hold:=[0],slots:=[3],boxes:=[],rows:=[]},T:=(.int .i64),I:=fun st y=>ptI a0 y,μ:=fun st y=>ptM a0 y})]
theorem spec_PointsOk.pure (a0:(List (Int×Int))) (h:True) (hw:Wf c_spec_PointsOk.A a0):spec_PointsOk.F a0:=by
 delta spec_PointsOk.F ln tN wI eS
 have hw1:a0.length≤maxLen:=hw.1
 unfold maxLen at hw1
 simp only [forall_eq,true_and,and_true,caseB_iff,Prod.mk.injEq,decide_eq_true_eq,decide_eq_false_iff_not,Bool.not_eq_true',Bool.not_eq_false']
 refine⟨fun h1=>?_,fun h1=>⟨⟨by omega,by omega,fun j hj=>absurd hj (by simp)⟩,?_⟩⟩
 · have:¬a0.length≤60:=by omega
   simp [fPtsOk,this]
 rintro i ⟨h2,h3,h4⟩
 have fin:¬i<(a0.length:Int)→true=fPtsOk a0:=fun hi=>by
  have:allB (ptAt a0) a0.length=true:=all_yes fun j hj=>h4 j (by omega)
  have h60:a0.length≤60:=by omega
  simp [fPtsOk,this,h60]
 refine⟨?_,fin⟩
 intro hi
 have e2:IntKind.wrap .i64 (i+1)=i+1:=Go.IntWalk.i64_in _ (by omega)
 have e1:IntKind.wrap .i64 (i - 1)=i - 1:=Go.IntWalk.i64_in _ (by omega)
 have e3:(i - 1).toNat=i.toNat - 1:=by omega
 rw [e1,e2,e3]
 have no:ptAt a0 i.toNat=false→false=fPtsOk a0:=fun hp=>pts_no (by omega) hp
 have yes:ptAt a0 i.toNat=true→ptI a0 (i+1)∧ptM a0 (i+1)<ptM a0 i:=fun hp=>⟨⟨by omega,by omega,all_more h2 h4 hp⟩,by unfold ptM;omega⟩
 refine⟨h2,hi,fun t1=>no (by unfold ptAt;rw [t1];rfl),fun t1=>⟨h2,hi,?_,fun t2=>⟨fun hp=>⟨by omega,by omega,h2,hi,?_,?_⟩,fun hp=>?_⟩⟩⟩
 · intro t2;exact no (by unfold ptAt;rw [t1,t2];rfl)
 · intro t3;exact no (by unfold ptAt;rw [t1,t2,decide_eq_false (by omega:¬i.toNat=0),decide_eq_false (by omega)];rfl)
 · intro t3;exact yes (by unfold ptAt;rw [t1,t2,decide_eq_true (by omega:(a0.getD (i.toNat - 1) (0,0)).1<(a0.getD i.toNat (0,0)).1),Bool.or_true];rfl)
 · exact yes (by unfold ptAt;rw [t1,t2,decide_eq_true (by omega:i.toNat=0)];rfl)
set_option maxRecDepth 100000 in
theorem spec_PointsOk.eq:EqS c_spec_PointsOk Try.f18 [4] [spec_l1In.e] [] (fun i x=>spec_PointsOk.L x) (fun i x=>spec_PointsOk.F x):=by intro i x;kernel_rfl
theorem spec_PointsOk.ok:ConOk Try.prog 18 c_spec_PointsOk:=okOf spec_PointsOk.eq Try.func18 rfl (by kernel_rfl) fun i x h hi hw=>spec_PointsOk.pure x h hw
def spec_PointsOk.e:GE:=⟨18,c_spec_PointsOk,⟨_,Try.func18,rfl,rfl⟩,spec_PointsOk.ok⟩
def c_impl_PointsOk:Con:={A:=(.list (.pair (.int .i64) (.int .i64))),shA:=[.one],R:=.bool,shR:=[(false,1)],pre:=fun _ _=>True,f:=some fun _ a=>((fPtsOk a),((),()))}
def impl_PointsOk.F (a0:(List (Int×Int))):Prop:=(eS [(0,.val false [.lst (.pair (.int .i64) (.int .i64)) a0 none]),(5,.val false [.lst (.pair (.int .i64) (.int .i64)) a0 none]),(6,.val false [.int .i64 (ln a0)])] [(0,.val false [.lst (.pair (.int .i64) (.int .i64)) a0 none]),(5,.val false [.lst (.pair (.int .i64) (.int .i64)) a0 none]),(6,.val false [.int .i64 (ln a0)])]∧((ptI a0 0)∧∀(y1:Int),(ptI a0 y1)→(caseB (decide (y1<(ln a0))) (0≤y1∧(y1<(ln a0)∧(True∧∀r2,(Eq r2 ((fIn ((List.getD a0 (tN y1) (0,0)).1) 0 1099511627776),((),())))→(caseB (!r2.1) (Eq (false,((),())) ((fPtsOk a0),((),()))) (True∧∀r3,(Eq r3 ((fIn ((List.getD a0 (tN y1) (0,0)).2) (-1099511627776) 1099511627776),((),())))→(caseB (!r3.1) (Eq (false,((),())) ((fPtsOk a0),((),()))) (caseB (decide (y1>(0:Int))) (0≤(wI (y1 - (1:Int)))∧((wI (y1 - (1:Int)))<(ln a0)∧(caseB (decide (((List.getD a0 (tN (wI (y1 - (1:Int)))) (0,0)).1)≥((List.getD a0 (tN y1) (0,0)).1))) (Eq (false,((),())) ((fPtsOk a0),((),()))) (eS [(0,.val false [.lst (.pair (.int .i64) (.int .i64)) a0 none]),(5,.val false [.lst (.pair (.int .i64) (.int .i64)) a0 none]),(6,.val false [.int .i64 (ln a0)])] [(0,.val false [.lst (.pair (.int .i64) (.int .i64)) a0 none]),(5,.val false [.lst (.pair (.int .i64) (.int .i64)) a0 none]),(6,.val false [.int .i64 (ln a0)])]∧(ptI a0 (wI (y1+(1:Int))))∧(ptM a0 (wI (y1+(1:Int))))<(ptM a0 y1))))) (eS [(0,.val false [.lst (.pair (.int .i64) (.int .i64)) a0 none]),(5,.val false [.lst (.pair (.int .i64) (.int .i64)) a0 none]),(6,.val false [.int .i64 (ln a0)])] [(0,.val false [.lst (.pair (.int .i64) (.int .i64)) a0 none]),(5,.val false [.lst (.pair (.int .i64) (.int .i64)) a0 none]),(6,.val false [.int .i64 (ln a0)])]∧(ptI a0 (wI (y1+(1:Int))))∧(ptM a0 (wI (y1+(1:Int))))<(ptM a0 y1))))))))) (Eq ((decide ((ln a0)≤(60:Int))),((),())) ((fPtsOk a0),((),()))))))
def impl_PointsOk.L (a0:(List (Int×Int))):Nat→Option LoopAnn:=fun p=>Go.Proofs.Ytnoapekdbmpiaaa.Bv.look p [(26,{kp:={hold:=[0,5,6],slots:=[7],boxes:=[],rows:=[]},T:=(.int .i64),I:=fun st y=>ptI a0 y,μ:=fun st y=>ptM a0 y})]
theorem impl_PointsOk.pure (a0:(List (Int×Int))) (h:True) (hw:Wf c_impl_PointsOk.A a0):impl_PointsOk.F a0:=by
 delta impl_PointsOk.F ln tN wI eS
 have hw1:a0.length≤maxLen:=hw.1
 unfold maxLen at hw1
 simp only [forall_eq,true_and,and_true,caseB_iff,Prod.mk.injEq,decide_eq_true_eq,decide_eq_false_iff_not,Bool.not_eq_true',Bool.not_eq_false']
 refine⟨⟨by omega,by omega,fun j hj=>absurd hj (by simp)⟩,?_⟩
 rintro i ⟨h2,h3,h4⟩
 have fin:¬i<(a0.length:Int)→decide ((a0.length:Int)≤60)=fPtsOk a0:=fun hi=>by
  have:allB (ptAt a0) a0.length=true:=all_yes fun j hj=>h4 j (by omega)
  simp [fPtsOk,this];omega
 refine⟨?_,fin⟩
 intro hi
 have e2:IntKind.wrap .i64 (i+1)=i+1:=Go.IntWalk.i64_in _ (by omega)
 have e1:IntKind.wrap .i64 (i - 1)=i - 1:=Go.IntWalk.i64_in _ (by omega)
 have e3:(i - 1).toNat=i.toNat - 1:=by omega
 rw [e1,e2,e3]
 have no:ptAt a0 i.toNat=false→false=fPtsOk a0:=fun hp=>pts_no (by omega) hp
 have yes:ptAt a0 i.toNat=true→ptI a0 (i+1)∧ptM a0 (i+1)<ptM a0 i:=fun hp=>⟨⟨by omega,by omega,all_more h2 h4 hp⟩,by unfold ptM;omega⟩
 refine⟨h2,hi,fun t1=>no (by unfold ptAt;rw [t1];rfl),fun t1=>⟨?_,fun t2=>⟨fun hp=>⟨by omega,by omega,?_,?_⟩,fun hp=>?_⟩⟩⟩
 · intro t2;exact no (by unfold ptAt;rw [t1,t2];rfl)
 · intro t3;exact no (by unfold ptAt;rw [t1,t2,decide_eq_false (by omega:¬i.toNat=0),decide_eq_false (by omega)];rfl)
 · intro t3;exact yes (by unfold ptAt;rw [t1,t2,decide_eq_true (by omega:(a0.getD (i.toNat - 1) (0,0)).1<(a0.getD i.toNat (0,0)).1),Bool.or_true];rfl)
 · exact yes (by unfold ptAt;rw [t1,t2,decide_eq_true (by omega:i.toNat=0)];rfl)
set_option maxRecDepth 100000 in
theorem impl_PointsOk.eq:EqS c_impl_PointsOk Try.f24 [4] [impl_from.e] [] (fun i x=>impl_PointsOk.L x) (fun i x=>impl_PointsOk.F x):=by intro i x;kernel_rfl
theorem impl_PointsOk.ok:ConOk Try.prog 24 c_impl_PointsOk:=okOf impl_PointsOk.eq Try.func24 rfl (by kernel_rfl) fun i x h hi hw=>impl_PointsOk.pure x h hw
def impl_PointsOk.e:GE:=⟨24,c_impl_PointsOk,⟨_,Try.func24,rfl,rfl⟩,impl_PointsOk.ok⟩
def pKey (s:List UInt8):Prop:=s.length≤maxLen
def c_spec_l9Key:Con:={A:=.str,shA:=[.one],R:=.bool,shR:=[(false,1)],pre:=fun _ a=>(pKey a),f:=some fun _ a=>((fKey a),((),()))}
def spec_l9Key.F (a0:(List UInt8)):Prop:=(True∧∀r1,(Eq r1 ((fIn (ln a0) 1 8),((),())))→(caseB (!r1.1) (Eq (false,((),())) ((fKey a0),((),()))) (eS [(0,.val false [.str a0])] [(0,.val false [.str a0])]∧((chI a0 0)∧∀(y2:Int),(chI a0 y2)→(caseB (decide (y2<(ln a0))) (0≤y2∧(y2<(ln a0)∧(caseB (decide (((UInt8.toNat (List.getD a0 (tN y2) 0):Nat):Int)<(97:Int))) (Eq (false,((),())) ((fKey a0),((),()))) (0≤y2∧(y2<(ln a0)∧(caseB (decide (((UInt8.toNat (List.getD a0 (tN y2) 0):Nat):Int)>(122:Int))) (Eq (false,((),())) ((fKey a0),((),()))) (eS [(0,.val false [.str a0])] [(0,.val false [.str a0])]∧(chI a0 (wI (y2+(1:Int))))∧(chM a0 (wI (y2+(1:Int))))<(chM a0 y2)))))))) (Eq (true,((),())) ((fKey a0),((),()))))))))
def spec_l9Key.L (a0:(List UInt8)):Nat→Option LoopAnn:=fun p=>Go.Proofs.Ytnoapekdbmpiaaa.Bv.look p [(58,{kp:={hold:=[0],slots:=[3],boxes:=[],rows:=[]},T:=(.int .i64),I:=fun st y=>chI a0 y,μ:=fun st y=>chM a0 y})]
theorem spec_l9Key.pure (a0:(List UInt8)) (h:(pKey a0)) (hw:Wf c_spec_l9Key.A a0):spec_l9Key.F a0:=by
 delta spec_l9Key.F ln tN wI eS
 have hw1:a0.length≤maxLen:=h
 unfold maxLen at hw1
 simp only [forall_eq,true_and,and_true,caseB_iff,Prod.mk.injEq,decide_eq_true_eq,decide_eq_false_iff_not,Bool.not_eq_true',Bool.not_eq_false']
 refine⟨fun h1=>by simp [fKey,h1],fun h1=>⟨⟨by omega,by omega,fun j hj=>absurd hj (by simp)⟩,?_⟩⟩
 have hin:¬(a0.length:Int)>8:=by
  simp only [fIn,Bool.and_eq_true,decide_eq_true_eq] at h1;omega
 rintro i ⟨h2,h3,h4⟩
 have fin:¬i<(a0.length:Int)→true=fKey a0:=fun hi=>by
  have:allB (chAt a0) a0.length=true:=all_yes fun j hj=>h4 j (by omega)
  simp [fKey,this,h1]
 refine⟨?_,fin⟩
 intro hi
 have e2:IntKind.wrap .i64 (i+1)=i+1:=Go.IntWalk.i64_in _ (by omega)
 rw [e2]
 have no:chAt a0 i.toNat=false→false=fKey a0:=fun hp=>key_no (by omega) hp
 refine⟨h2,hi,fun t1=>no (by unfold chAt;rw [decide_eq_false (by omega)];rfl),fun t1=>⟨h2,hi,fun t2=>no (by unfold chAt;rw [decide_eq_false (p:=_≤(122:Int)) (by omega),Bool.and_false]),fun t2=>?_⟩⟩
 exact⟨⟨by omega,by omega,all_more h2 h4 (by unfold chAt;rw [decide_eq_true (by omega),decide_eq_true (by omega)];rfl)⟩,by unfold chM;omega⟩
set_option maxRecDepth 100000 in
theorem spec_l9Key.eq:EqS c_spec_l9Key Try.f155 [4] [spec_l1In.e] [] (fun i x=>spec_l9Key.L x) (fun i x=>spec_l9Key.F x):=by intro i x;kernel_rfl
theorem spec_l9Key.ok:ConOk Try.prog 155 c_spec_l9Key:=okOf spec_l9Key.eq Try.func155 rfl (by kernel_rfl) fun i x h hi hw=>spec_l9Key.pure x h hw
def spec_l9Key.e:GE:=⟨155,c_spec_l9Key,⟨_,Try.func155,rfl,rfl⟩,spec_l9Key.ok⟩
def c_impl_keyOk:Con:={A:=.str,shA:=[.one],R:=.bool,shR:=[(false,1)],pre:=fun _ a=>(pKey a),f:=some fun _ a=>((fKey a),((),()))}
def impl_keyOk.F (a0:(List UInt8)):Prop:=(eS [(0,.val false [.str a0]),(5,.val false [.int .i64 (ln a0)])] [(0,.val false [.str a0]),(5,.val false [.int .i64 (ln a0)])]∧((chI a0 0)∧∀(y1:Int),(chI a0 y1)→(caseB (decide (y1<(ln a0))) (0≤y1∧(y1<(ln a0)∧(caseB (decide (((UInt8.toNat (List.getD a0 (tN y1) 0):Nat):Int)<(97:Int))) (Eq (false,((),())) ((fKey a0),((),()))) (0≤y1∧(y1<(ln a0)∧(caseB (decide (((UInt8.toNat (List.getD a0 (tN y1) 0):Nat):Int)>(122:Int))) (Eq (false,((),())) ((fKey a0),((),()))) (eS [(0,.val false [.str a0]),(5,.val false [.int .i64 (ln a0)])] [(0,.val false [.str a0]),(5,.val false [.int .i64 (ln a0)])]∧(chI a0 (wI (y1+(1:Int))))∧(chM a0 (wI (y1+(1:Int))))<(chM a0 y1)))))))) (True∧∀r2,(Eq r2 ((fIn (ln a0) 1 8),((),())))→(Eq (r2.1,((),())) ((fKey a0),((),())))))))
def impl_keyOk.L (a0:(List UInt8)):Nat→Option LoopAnn:=fun p=>Go.Proofs.Ytnoapekdbmpiaaa.Bv.look p [(26,{kp:={hold:=[0,5],slots:=[6],boxes:=[],rows:=[]},T:=(.int .i64),I:=fun st y=>chI a0 y,μ:=fun st y=>chM a0 y})]
theorem impl_keyOk.pure (a0:(List UInt8)) (h:(pKey a0)) (hw:Wf c_impl_keyOk.A a0):impl_keyOk.F a0:=by
 delta impl_keyOk.F ln tN wI eS
 have hw1:a0.length≤maxLen:=h
 unfold maxLen at hw1
 simp only [forall_eq,true_and,and_true,caseB_iff,Prod.mk.injEq,decide_eq_true_eq,decide_eq_false_iff_not,Bool.not_eq_true',Bool.not_eq_false']
 refine⟨⟨by omega,by omega,fun j hj=>absurd hj (by simp)⟩,?_⟩
 rintro i ⟨h2,h3,h4⟩
 have fin:¬i<(a0.length:Int)→fIn (a0.length:Int) 1 8=fKey a0:=fun hi=>by
  have:allB (chAt a0) a0.length=true:=all_yes fun j hj=>h4 j (by omega)
  simp [fKey,this]
 refine⟨?_,fin⟩
 intro hi
 have e2:IntKind.wrap .i64 (i+1)=i+1:=Go.IntWalk.i64_in _ (by omega)
 rw [e2]
 have no:chAt a0 i.toNat=false→false=fKey a0:=fun hp=>key_no (by omega) hp
 refine⟨h2,hi,fun t1=>no (by unfold chAt;rw [decide_eq_false (by omega)];rfl),fun t1=>⟨h2,hi,fun t2=>no (by unfold chAt;rw [decide_eq_false (p:=_≤(122:Int)) (by omega),Bool.and_false]),fun t2=>?_⟩⟩
 exact⟨⟨by omega,by omega,all_more h2 h4 (by unfold chAt;rw [decide_eq_true (by omega),decide_eq_true (by omega)];rfl)⟩,by unfold chM;omega⟩
set_option maxRecDepth 100000 in
theorem impl_keyOk.eq:EqS c_impl_keyOk Try.f164 [4] [impl_from.e] [] (fun i x=>impl_keyOk.L x) (fun i x=>impl_keyOk.F x):=by intro i x;kernel_rfl
theorem impl_keyOk.ok:ConOk Try.prog 164 c_impl_keyOk:=okOf impl_keyOk.eq Try.func164 rfl (by kernel_rfl) fun i x h hi hw=>impl_keyOk.pure x h hw
def impl_keyOk.e:GE:=⟨164,c_impl_keyOk,⟨_,Try.func164,rfl,rfl⟩,impl_keyOk.ok⟩
def pSerOk (l:List Ser):Prop:=∀s∈l,s.1.length≤maxLen
theorem ser_key {l:List Ser} (h:pSerOk l) {i:Int} (h0:0≤i) (hi:i<l.length):pKey (l.getD i.toNat ([],[])).1:=by
 have hlt:i.toNat<l.length:=by omega
 rw [List.getD_eq_getElem?_getD,List.getElem?_eq_getElem hlt]
 exact h _ (List.getElem_mem hlt)
def c_spec_SeriesOk:Con:={A:=(.list (.pair .str (.list (.pair (.int .i64) (.int .i64))))),shA:=[.one],R:=.bool,shR:=[(false,1)],pre:=fun _ a=>(pSerOk a),f:=some fun _ a=>((fSerOk a),((),()))}
def spec_SeriesOk.F (a0:(List ((List UInt8)×(List (Int×Int))))):Prop:=(caseB (decide ((ln a0)>(5:Int))) (Eq (false,((),())) ((fSerOk a0),((),()))) (eS [(0,.val false [.lst (.pair .str (.list (.pair (.int .i64) (.int .i64)))) a0 none])] [(0,.val false [.lst (.pair .str (.list (.pair (.int .i64) (.int .i64)))) a0 none])]∧((srI a0 0)∧∀(y1:Int),(srI a0 y1)→(caseB (decide (y1<(ln a0))) (0≤y1∧(y1<(ln a0)∧((pKey ((List.getD a0 (tN y1) ([],[])).1))∧∀r2,(Eq r2 ((fKey ((List.getD a0 (tN y1) ([],[])).1)),((),())))→(caseB (!r2.1) (Eq (false,((),())) ((fSerOk a0),((),()))) (caseB (decide (y1>(0:Int))) (0≤(wI (y1 - (1:Int)))∧((wI (y1 - (1:Int)))<(ln a0)∧(0≤y1∧(y1<(ln a0)∧(caseB (!Op.bytesLess ((List.getD a0 (tN (wI (y1 - (1:Int)))) ([],[])).1) ((List.getD a0 (tN y1) ([],[])).1)) (Eq (false,((),())) ((fSerOk a0),((),()))) (0≤y1∧(y1<(ln a0)∧(caseB ((ln ((List.getD a0 (tN y1) ([],[])).2))==(0:Int)) (Eq (false,((),())) ((fSerOk a0),((),()))) (0≤y1∧(y1<(ln a0)∧(True∧∀r3,(Eq r3 ((fPtsOk ((List.getD a0 (tN y1) ([],[])).2)),((),())))→(caseB (!r3.1) (Eq (false,((),())) ((fSerOk a0),((),()))) (eS [(0,.val false [.lst (.pair .str (.list (.pair (.int .i64) (.int .i64)))) a0 none])] [(0,.val false [.lst (.pair .str (.list (.pair (.int .i64) (.int .i64)))) a0 none])]∧(srI a0 (wI (y1+(1:Int))))∧(srM a0 (wI (y1+(1:Int))))<(srM a0 y1)))))))))))))) (0≤y1∧(y1<(ln a0)∧(caseB ((ln ((List.getD a0 (tN y1) ([],[])).2))==(0:Int)) (Eq (false,((),())) ((fSerOk a0),((),()))) (0≤y1∧(y1<(ln a0)∧(True∧∀r4,(Eq r4 ((fPtsOk ((List.getD a0 (tN y1) ([],[])).2)),((),())))→(caseB (!r4.1) (Eq (false,((),())) ((fSerOk a0),((),()))) (eS [(0,.val false [.lst (.pair .str (.list (.pair (.int .i64) (.int .i64)))) a0 none])] [(0,.val false [.lst (.pair .str (.list (.pair (.int .i64) (.int .i64)))) a0 none])]∧(srI a0 (wI (y1+(1:Int))))∧(srM a0 (wI (y1+(1:Int))))<(srM a0 y1)))))))))))))) (Eq (true,((),())) ((fSerOk a0),((),())))))))
def spec_SeriesOk.L (a0:(List ((List UInt8)×(List (Int×Int))))):Nat→Option LoopAnn:=fun p=>Go.Proofs.Ytnoapekdbmpiaaa.Bv.look p [(58,{kp:={hold:=[0],slots:=[3],boxes:=[],rows:=[]},T:=(.int .i64),I:=fun st y=>srI a0 y,μ:=fun st y=>srM a0 y})]
theorem spec_SeriesOk.pure (a0:(List ((List UInt8)×(List (Int×Int))))) (h:(pSerOk a0)) (hw:Wf c_spec_SeriesOk.A a0):spec_SeriesOk.F a0:=by
 delta spec_SeriesOk.F ln tN wI eS
 have hw1:a0.length≤maxLen:=hw.1
 unfold maxLen at hw1
 simp only [forall_eq,true_and,and_true,caseB_iff,Prod.mk.injEq,decide_eq_true_eq,decide_eq_false_iff_not,Bool.not_eq_true',Bool.not_eq_false']
 refine⟨fun h1=>?_,fun h1=>⟨⟨by omega,by omega,fun j hj=>absurd hj (by simp)⟩,?_⟩⟩
 · have:¬a0.length≤5:=by omega
   simp [fSerOk,this]
 rintro i ⟨h2,h3,h4⟩
 have fin:¬i<(a0.length:Int)→true=fSerOk a0:=fun hi=>by
  have:allB (srAt a0) a0.length=true:=all_yes fun j hj=>h4 j (by omega)
  have h60:a0.length≤5:=by omega
  simp [fSerOk,this,h60]
 refine⟨?_,fin⟩
 intro hi
 have e2:IntKind.wrap .i64 (i+1)=i+1:=Go.IntWalk.i64_in _ (by omega)
 have e1:IntKind.wrap .i64 (i - 1)=i - 1:=Go.IntWalk.i64_in _ (by omega)
 have e3:(i - 1).toNat=i.toNat - 1:=by omega
 rw [e1,e2,e3]
 have no:srAt a0 i.toNat=false→false=fSerOk a0:=fun hp=>ser_no (by omega) hp
 have yes:srAt a0 i.toNat=true→srI a0 (i+1)∧srM a0 (i+1)<srM a0 i:=fun hp=>⟨⟨by omega,by omega,all_more h2 h4 hp⟩,by unfold srM;omega⟩
 have hk:=ser_key h h2 hi
 generalize hx:a0.getD i.toNat ([],[])=x at*
 generalize hy:a0.getD (i.toNat - 1) ([],[])=y at*
 have hsr:srAt a0 i.toNat=(fKey x.1&&((decide (i.toNat=0)||Op.bytesLess y.1 x.1)&&(decide (x.2.length≠0)&&fPtsOk x.2))):=by unfold srAt;rw [hx,hy]
 refine⟨h2,hi,hk,fun t1=>no (by rw [hsr,t1];rfl),fun t1=>⟨fun hp=>⟨by omega,by omega,h2,hi,fun t2=>no ?_,fun t2=>⟨h2,hi,fun t3=>no ?_,fun t3=>⟨h2,hi,fun t4=>no ?_,fun t4=>yes ?_⟩⟩⟩,fun hp=>⟨h2,hi,fun t3=>no ?_,fun t3=>⟨h2,hi,fun t4=>no ?_,fun t4=>yes ?_⟩⟩⟩⟩
 · rw [hsr,t1,decide_eq_false (by omega),t2];rfl
 · rw [hsr,decide_eq_false (p:=x.2.length≠0) (by simp at t3;simp [t3])];simp
 · rw [hsr,t4];simp
 · have t5:x.2.length≠0:=by simp at t3;simpa using t3
   rw [hsr,t1,t2,t4,decide_eq_true t5];simp
 · rw [hsr,decide_eq_false (p:=x.2.length≠0) (by simp at t3;simp [t3])];simp
 · rw [hsr,t4];simp
 · have t5:x.2.length≠0:=by simp at t3;simpa using t3
   rw [hsr,t1,t4,decide_eq_true t5,decide_eq_true (by omega:i.toNat=0)];simp
set_option maxRecDepth 100000 in
theorem spec_SeriesOk.eq:EqS c_spec_SeriesOk Try.f128 [4] [spec_PointsOk.e,spec_l9Key.e] [] (fun i x=>spec_SeriesOk.L x) (fun i x=>spec_SeriesOk.F x):=by intro i x;kernel_rfl
theorem spec_SeriesOk.ok:ConOk Try.prog 128 c_spec_SeriesOk:=okOf spec_SeriesOk.eq Try.func128 rfl (by kernel_rfl) fun i x h hi hw=>spec_SeriesOk.pure x h hw
def spec_SeriesOk.e:GE:=⟨128,c_spec_SeriesOk,⟨_,Try.func128,rfl,rfl⟩,spec_SeriesOk.ok⟩
def c_impl_SeriesOk:Con:={A:=(.list (.pair .str (.list (.pair (.int .i64) (.int .i64))))),shA:=[.one],R:=.bool,shR:=[(false,1)],pre:=fun _ a=>(pSerOk a),f:=some fun _ a=>((fSerOk a),((),()))}
def impl_SeriesOk.F (a0:(List ((List UInt8)×(List (Int×Int))))):Prop:=(eS [(0,.val false [.lst (.pair .str (.list (.pair (.int .i64) (.int .i64)))) a0 none]),(5,.val false [.lst (.pair .str (.list (.pair (.int .i64) (.int .i64)))) a0 none]),(6,.val false [.int .i64 (ln a0)])] [(0,.val false [.lst (.pair .str (.list (.pair (.int .i64) (.int .i64)))) a0 none]),(5,.val false [.lst (.pair .str (.list (.pair (.int .i64) (.int .i64)))) a0 none]),(6,.val false [.int .i64 (ln a0)])]∧((srI a0 0)∧∀(y1:Int),(srI a0 y1)→(caseB (decide (y1<(ln a0))) (0≤y1∧(y1<(ln a0)∧((pKey ((List.getD a0 (tN y1) ([],[])).1))∧∀r2,(Eq r2 ((fKey ((List.getD a0 (tN y1) ([],[])).1)),((),())))→(caseB (!r2.1) (Eq (false,((),())) ((fSerOk a0),((),()))) (True∧∀r3,(Eq r3 ((fPtsOk ((List.getD a0 (tN y1) ([],[])).2)),((),())))→(caseB (!r3.1) (Eq (false,((),())) ((fSerOk a0),((),()))) (caseB ((ln ((List.getD a0 (tN y1) ([],[])).2))==(0:Int)) (Eq (false,((),())) ((fSerOk a0),((),()))) (caseB (decide (y1>(0:Int))) (0≤(wI (y1 - (1:Int)))∧((wI (y1 - (1:Int)))<(ln a0)∧(caseB (!Op.bytesLess ((List.getD a0 (tN (wI (y1 - (1:Int)))) ([],[])).1) ((List.getD a0 (tN y1) ([],[])).1)) (Eq (false,((),())) ((fSerOk a0),((),()))) (eS [(0,.val false [.lst (.pair .str (.list (.pair (.int .i64) (.int .i64)))) a0 none]),(5,.val false [.lst (.pair .str (.list (.pair (.int .i64) (.int .i64)))) a0 none]),(6,.val false [.int .i64 (ln a0)])] [(0,.val false [.lst (.pair .str (.list (.pair (.int .i64) (.int .i64)))) a0 none]),(5,.val false [.lst (.pair .str (.list (.pair (.int .i64) (.int .i64)))) a0 none]),(6,.val false [.int .i64 (ln a0)])]∧(srI a0 (wI (y1+(1:Int))))∧(srM a0 (wI (y1+(1:Int))))<(srM a0 y1))))) (eS [(0,.val false [.lst (.pair .str (.list (.pair (.int .i64) (.int .i64)))) a0 none]),(5,.val false [.lst (.pair .str (.list (.pair (.int .i64) (.int .i64)))) a0 none]),(6,.val false [.int .i64 (ln a0)])] [(0,.val false [.lst (.pair .str (.list (.pair (.int .i64) (.int .i64)))) a0 none]),(5,.val false [.lst (.pair .str (.list (.pair (.int .i64) (.int .i64)))) a0 none]),(6,.val false [.int .i64 (ln a0)])]∧(srI a0 (wI (y1+(1:Int))))∧(srM a0 (wI (y1+(1:Int))))<(srM a0 y1)))))))))) (Eq ((decide ((ln a0)≤(5:Int))),((),())) ((fSerOk a0),((),()))))))
def impl_SeriesOk.L (a0:(List ((List UInt8)×(List (Int×Int))))):Nat→Option LoopAnn:=fun p=>Go.Proofs.Ytnoapekdbmpiaaa.Bv.look p [(26,{kp:={hold:=[0,5,6],slots:=[7],boxes:=[],rows:=[]},T:=(.int .i64),I:=fun st y=>srI a0 y,μ:=fun st y=>srM a0 y})]
theorem impl_SeriesOk.pure (a0:(List ((List UInt8)×(List (Int×Int))))) (h:(pSerOk a0)) (hw:Wf c_impl_SeriesOk.A a0):impl_SeriesOk.F a0:=by
 delta impl_SeriesOk.F ln tN wI eS
 have hw1:a0.length≤maxLen:=hw.1
 unfold maxLen at hw1
 simp only [forall_eq,true_and,and_true,caseB_iff,Prod.mk.injEq,decide_eq_true_eq,decide_eq_false_iff_not,Bool.not_eq_true',Bool.not_eq_false']
 refine⟨⟨by omega,by omega,fun j hj=>absurd hj (by simp)⟩,?_⟩
 rintro i ⟨h2,h3,h4⟩
 have fin:¬i<(a0.length:Int)→decide ((a0.length:Int)≤5)=fSerOk a0:=fun hi=>by
  have:allB (srAt a0) a0.length=true:=all_yes fun j hj=>h4 j (by omega)
  simp [fSerOk,this];omega
 refine⟨?_,fin⟩
 intro hi
 have e2:IntKind.wrap .i64 (i+1)=i+1:=Go.IntWalk.i64_in _ (by omega)
 have e1:IntKind.wrap .i64 (i - 1)=i - 1:=Go.IntWalk.i64_in _ (by omega)
 have e3:(i - 1).toNat=i.toNat - 1:=by omega
 rw [e1,e2,e3]
 have no:srAt a0 i.toNat=false→false=fSerOk a0:=fun hp=>ser_no (by omega) hp
 have yes:srAt a0 i.toNat=true→srI a0 (i+1)∧srM a0 (i+1)<srM a0 i:=fun hp=>⟨⟨by omega,by omega,all_more h2 h4 hp⟩,by unfold srM;omega⟩
 have hk:=ser_key h h2 hi
 generalize hx:a0.getD i.toNat ([],[])=x at*
 generalize hy:a0.getD (i.toNat - 1) ([],[])=y at*
 have hsr:srAt a0 i.toNat=(fKey x.1&&((decide (i.toNat=0)||Op.bytesLess y.1 x.1)&&(decide (x.2.length≠0)&&fPtsOk x.2))):=by unfold srAt;rw [hx,hy]
 refine⟨h2,hi,hk,fun t1=>no (by rw [hsr,t1];rfl),fun t1=>⟨fun t4=>no ?_,fun t4=>⟨fun t3=>no ?_,fun t3=>⟨fun hp=>⟨by omega,by omega,fun t2=>no ?_,fun t2=>yes ?_⟩,fun hp=>yes ?_⟩⟩⟩⟩
 · rw [hsr,t4];simp
 · rw [hsr,decide_eq_false (p:=x.2.length≠0) (by simp at t3;simp [t3])];simp
 · rw [hsr,t1,decide_eq_false (by omega),t2];rfl
 · have t5:x.2.length≠0:=by simp at t3;simpa using t3
   rw [hsr,t1,t2,t4,decide_eq_true t5];simp
 · have t5:x.2.length≠0:=by simp at t3;simpa using t3
   rw [hsr,t1,t4,decide_eq_true t5,decide_eq_true (by omega:i.toNat=0)];simp
set_option maxRecDepth 100000 in
theorem impl_SeriesOk.eq:EqS c_impl_SeriesOk Try.f139 [4] [impl_PointsOk.e,impl_keyOk.e] [] (fun i x=>impl_SeriesOk.L x) (fun i x=>impl_SeriesOk.F x):=by intro i x;kernel_rfl
theorem impl_SeriesOk.ok:ConOk Try.prog 139 c_impl_SeriesOk:=okOf impl_SeriesOk.eq Try.func139 rfl (by kernel_rfl) fun i x h hi hw=>impl_SeriesOk.pure x h hw
def impl_SeriesOk.e:GE:=⟨139,c_impl_SeriesOk,⟨_,Try.func139,rfl,rfl⟩,impl_SeriesOk.ok⟩
end Go.Proofs.Ytnoapekdbmpiaaa.B
