/- Series of points:are they right? -/
import Derived.Test.YtfnafjgehdeccaaCCover
namespace Go.Proofs.Ytfnafjgehdeccaa.B
set_option linter.unusedVariables false
set_option linter.unusedSimpArgs false
open Go Go.Proofs.Ytfnafjgehdeccaa.Bv
abbrev Pt:=Int×Int
def allB (p:Nat→Bool) (n:Nat):Bool:=(List.range n).all p
theorem all_yes {p:Nat→Bool} {n:Nat} (h:∀j,j<n→p j=true):allB p n=true:=by
 simp only [allB,List.all_eq_true,List.mem_range];exact h
theorem all_no {p:Nat→Bool} {n j:Nat} (h:j<n) (hp:p j=false):allB p n=false:=by
 cases e:allB p n with
 | false=>rfl
 | true=>
   simp only [allB,List.all_eq_true,List.mem_range] at e
   rw [e j h] at hp;cases hp
theorem all_more {p:Nat→Bool} {i:Int} (h0:0≤i) (h:∀j,j<i.toNat→p j=true) (hp:p i.toNat=true):∀j,j<(i+1).toNat→p j=true:=fun j hj=>by
 by_cases e:j=i.toNat
 · rw [e];exact hp
 · exact h j (by omega)
def ptAt (l:List Pt) (i:Nat):Bool:=fIn (l.getD i (0,0)).1 0 1099511627776&&(fIn (l.getD i (0,0)).2 (-1099511627776) 1099511627776&&(decide (i=0)||decide ((l.getD (i - 1) (0,0)).1<(l.getD i (0,0)).1)))
def fPtsOk (l:List Pt):Bool:=decide (l.length≤60)&&allB (ptAt l) l.length
def ptI (l:List Pt) (i:Int):Prop:=0≤i∧i≤l.length∧∀j,j<i.toNat→ptAt l j=true
def ptM (l:List Pt) (i:Int):Nat:=(l.length - i).toNat
theorem pts_no {l:List Pt} {j:Nat} (h:j<l.length) (hp:ptAt l j=false):false=fPtsOk l:=by simp [fPtsOk,all_no h hp]
def c_spec_PointsOk:Con:={A:=(.list (.pair (.int .i64) (.int .i64))),shA:=[.one],R:=.bool,shR:=[(false,1)],pre:=fun _ _=>True,f:=some fun _ a=>((fPtsOk a),((),()))}
def spec_PointsOk.F (a0:(List (Int×Int))):Prop:=(caseB (decide ((ln a0)>(60:Int))) (Eq (false,((),())) ((fPtsOk a0),((),()))) (eS [(0,.val false [.lst (.pair (.int .i64) (.int .i64)) a0 none])] [(0,.val false [.lst (.pair (.int .i64) (.int .i64)) a0 none])]∧((ptI a0 0)∧∀(y1:Int),(ptI a0 y1)→(caseB (decide (y1<(ln a0))) (0≤y1∧(y1<(ln a0)∧(True∧∀r2,(Eq r2 ((fIn ((List.getD a0 (tN y1) (0,0)).1) 0 1099511627776),((),())))→(caseB (!r2.1) (Eq (false,((),())) ((fPtsOk a0),((),()))) (0≤y1∧(y1<(ln a0)∧(True∧∀r3,(Eq r3 ((fIn ((List.getD a0 (tN y1) (0,0)).2) (-1099511627776) 1099511627776),((),())))→(caseB (!r3.1) (Eq (false,((),())) ((fPtsOk a0),((),()))) (caseB (decide (y1>(0:Int))) (0≤(wI (y1 - (1:Int)))∧((wI (y1 - (1:Int)))<(ln a0)∧(0≤y1∧(y1<(ln a0)∧(caseB (decide (((List.getD a0 (tN (wI (y1 - (1:Int)))) (0,0)).1)≥((List.getD a0 (tN y1) (0,0)).1))) (Eq (false,((),())) ((fPtsOk a0),((),()))) (eS [(0,.val false [.lst (.pair (.int .i64) (.int .i64)) a0 none])] [(0,.val false [.lst (.pair (.int .i64) (.int .i64)) a0 none])]∧(ptI a0 (wI (y1+(1:Int))))∧(ptM a0 (wI (y1+(1:Int))))<(ptM a0 y1))))))) (eS [(0,.val false [.lst (.pair (.int .i64) (.int .i64)) a0 none])] [(0,.val false [.lst (.pair (.int .i64) (.int .i64)) a0 none])]∧(ptI a0 (wI (y1+(1:Int))))∧(ptM a0 (wI (y1+(1:Int))))<(ptM a0 y1))))))))))) (Eq (true,((),())) ((fPtsOk a0),((),())))))))
def spec_PointsOk.L (a0:(List (Int×Int))):Nat→Option LoopAnn:=fun p=>Go.Proofs.Ytfnafjgehdeccaa.Bv.look p [(58,{kp:={hold:=[0],slots:=[3],boxes:=[],rows:=[]},T:=(.int .i64),I:=fun st y=>ptI a0 y,μ:=fun st y=>ptM a0 y})]
theorem spec_PointsOk.pure (a0:(List (Int×Int))) (h:True) (hw:Wf c_spec_PointsOk.A a0):spec_PointsOk.F a0:=by
 delta spec_PointsOk.F ln tN wI eS
 have hw1:a0.length≤maxLen:=hw.1
 unfold maxLen at hw1
 simp only [forall_eq,true_and,and_true,caseB_iff,Prod.mk.injEq,decide_eq_true_eq,decide_eq_false_iff_not,Bool.not_eq_true',Bool.not_eq_false']
 refine⟨fun h1=>?_,fun h1=>⟨⟨by omega,by omega,fun j hj=>absurd hj (by simp)⟩,?_⟩⟩
 · have:¬a0.length≤60:=by omega
   simp [fPtsOk,this]
 rintro i ⟨h2,h3,h4⟩
 have fin:¬i<(a0.length:Int)→true=fPtsOk a0:=fun hi=>by
  have:allB (ptAt a0) a0.length=true:=all_yes fun j hj=>h4 j (by omega)
  have h60:a0.length≤60:=by omega
  simp [fPtsOk,this,h60]
 refine⟨?_,fin⟩
 intro hi
 have e2:IntKind.wrap .i64 (i+1)=i+1:=Go.IntWalk.i64_in _ (by omega)
 have e1:IntKind.wrap .i64 (i - 1)=i - 1:=Go.IntWalk.i64_in _ (by omega)
 have e3:(i - 1).toNat=i.toNat - 1:=by omega
 rw [e1,e2,e3]
 have no:ptAt a0 i.toNat=false→false=fPtsOk a0:=fun hp=>pts_no (by omega) hp
 have yes:ptAt a0 i.toNat=true→ptI a0 (i+1)∧ptM a0 (i+1)<ptM a0 i:=fun hp=>⟨⟨by omega,by omega,all_more h2 h4 hp⟩,by unfold ptM;omega⟩
 refine⟨h2,hi,fun t1=>no (by unfold ptAt;rw [t1];rfl),fun t1=>⟨h2,hi,?_,fun t2=>⟨fun hp=>⟨by omega,by omega,h2,hi,?_,?_⟩,fun hp=>?_⟩⟩⟩
 · intro t2;exact no (by unfold ptAt;rw [t1,t2];rfl)
 · intro t3;exact no (by unfold ptAt;rw [t1,t2,decide_eq_false (by omega:¬i.toNat=0),decide_eq_false (by omega)];rfl)
 · intro t3;exact yes (by unfold ptAt;rw [t1,t2,decide_eq_true (by omega:(a0.getD (i.toNat - 1) (0,0)).1<(a0.getD i.toNat (0,0)).1),Bool.or_true];rfl)
 · exact yes (by unfold ptAt;rw [t1,t2,decide_eq_true (by omega:i.toNat=0)];rfl)
set_option maxRecDepth 100000 in
theorem spec_PointsOk.eq:EqS c_spec_PointsOk Try.f8 [4] [spec_l1In.e] [] (fun i x=>spec_PointsOk.L x) (fun i x=>spec_PointsOk.F x):=by intro i x;kernel_rfl
theorem spec_PointsOk.ok:ConOk Try.prog 8 c_spec_PointsOk:=okOf spec_PointsOk.eq Try.func8 rfl (by kernel_rfl) fun i x h hi hw=>spec_PointsOk.pure x h hw
def spec_PointsOk.e:GE:=⟨8,c_spec_PointsOk,⟨_,Try.func8,rfl,rfl⟩,spec_PointsOk.ok⟩
def c_impl_PointsOk:Con:={A:=(.list (.pair (.int .i64) (.int .i64))),shA:=[.one],R:=.bool,shR:=[(false,1)],pre:=fun _ _=>True,f:=some fun _ a=>((fPtsOk a),((),()))}
def impl_PointsOk.F (a0:(List (Int×Int))):Prop:=(eS [(0,.val false [.lst (.pair (.int .i64) (.int .i64)) a0 none]),(5,.val false [.lst (.pair (.int .i64) (.int .i64)) a0 none]),(6,.val false [.int .i64 (ln a0)])] [(0,.val false [.lst (.pair (.int .i64) (.int .i64)) a0 none]),(5,.val false [.lst (.pair (.int .i64) (.int .i64)) a0 none]),(6,.val false [.int .i64 (ln a0)])]∧((ptI a0 0)∧∀(y1:Int),(ptI a0 y1)→(caseB (decide (y1<(ln a0))) (0≤y1∧(y1<(ln a0)∧(True∧∀r2,(Eq r2 ((fIn ((List.getD a0 (tN y1) (0,0)).1) 0 1099511627776),((),())))→(caseB (!r2.1) (Eq (false,((),())) ((fPtsOk a0),((),()))) (True∧∀r3,(Eq r3 ((fIn ((List.getD a0 (tN y1) (0,0)).2) (-1099511627776) 1099511627776),((),())))→(caseB (!r3.1) (Eq (false,((),())) ((fPtsOk a0),((),()))) (caseB (decide (y1>(0:Int))) (0≤(wI (y1 - (1:Int)))∧((wI (y1 - (1:Int)))<(ln a0)∧(caseB (decide (((List.getD a0 (tN (wI (y1 - (1:Int)))) (0,0)).1)≥((List.getD a0 (tN y1) (0,0)).1))) (Eq (false,((),())) ((fPtsOk a0),((),()))) (eS [(0,.val false [.lst (.pair (.int .i64) (.int .i64)) a0 none]),(5,.val false [.lst (.pair (.int .i64) (.int .i64)) a0 none]),(6,.val false [.int .i64 (ln a0)])] [(0,.val false [.lst (.pair (.int .i64) (.int .i64)) a0 none]),(5,.val false [.lst (.pair (.int .i64) (.int .i64)) a0 none]),(6,.val false [.int .i64 (ln a0)])]∧(ptI a0 (wI (y1+(1:Int))))∧(ptM a0 (wI (y1+(1:Int))))<(ptM a0 y1))))) (eS [(0,.val false [.lst (.pair (.int .i64) (.int .i64)) a0 none]),(5,.val false [.lst (.pair (.int .i64) (.int .i64)) a0 none]),(6,.val false [.int .i64 (ln a0)])] [(0,.val false [.lst (.pair (.int .i64) (.int .i64)) a0 none]),(5,.val false [.lst (.pair (.int .i64) (.int .i64)) a0 none]),(6,.val false [.int .i64 (ln a0)])]∧(ptI a0 (wI (y1+(1:Int))))∧(ptM a0 (wI (y1+(1:Int))))<(ptM a0 y1))))))))) (Eq ((decide ((ln a0)≤(60:Int))),((),())) ((fPtsOk a0),((),()))))))
def impl_PointsOk.L (a0:(List (Int×Int))):Nat→Option LoopAnn:=fun p=>Go.Proofs.Ytfnafjgehdeccaa.Bv.look p [(26,{kp:={hold:=[0,5,6],slots:=[7],boxes:=[],rows:=[]},T:=(.int .i64),I:=fun st y=>ptI a0 y,μ:=fun st y=>ptM a0 y})]
theorem impl_PointsOk.pure (a0:(List (Int×Int))) (h:True) (hw:Wf c_impl_PointsOk.A a0):impl_PointsOk.F a0:=by
 delta impl_PointsOk.F ln tN wI eS
 have hw1:a0.length≤maxLen:=hw.1
 unfold maxLen at hw1
 simp only [forall_eq,true_and,and_true,caseB_iff,Prod.mk.injEq,decide_eq_true_eq,decide_eq_false_iff_not,Bool.not_eq_true',Bool.not_eq_false']
 refine⟨⟨by omega,by omega,fun j hj=>absurd hj (by simp)⟩,?_⟩
 rintro i ⟨h2,h3,h4⟩
 have fin:¬i<(a0.length:Int)→decide ((a0.length:Int)≤60)=fPtsOk a0:=fun hi=>by
  have:allB (ptAt a0) a0.length=true:=all_yes fun j hj=>h4 j (by omega)
  simp [fPtsOk,this];omega
 refine⟨?_,fin⟩
 intro hi
 have e2:IntKind.wrap .i64 (i+1)=i+1:=Go.IntWalk.i64_in _ (by omega)
 have e1:IntKind.wrap .i64 (i - 1)=i - 1:=Go.IntWalk.i64_in _ (by omega)
 have e3:(i - 1).toNat=i.toNat - 1:=by omega
 rw [e1,e2,e3]
 have no:ptAt a0 i.toNat=false→false=fPtsOk a0:=fun hp=>pts_no (by omega) hp
 have yes:ptAt a0 i.toNat=true→ptI a0 (i+1)∧ptM a0 (i+1)<ptM a0 i:=fun hp=>⟨⟨by omega,by omega,all_more h2 h4 hp⟩,by unfold ptM;omega⟩
 refine⟨h2,hi,fun t1=>no (by unfold ptAt;rw [t1];rfl),fun t1=>⟨?_,fun t2=>⟨fun hp=>⟨by omega,by omega,?_,?_⟩,fun hp=>?_⟩⟩⟩
 · intro t2;exact no (by unfold ptAt;rw [t1,t2];rfl)
 · intro t3;exact no (by unfold ptAt;rw [t1,t2,decide_eq_false (by omega:¬i.toNat=0),decide_eq_false (by omega)];rfl)
 · intro t3;exact yes (by unfold ptAt;rw [t1,t2,decide_eq_true (by omega:(a0.getD (i.toNat - 1) (0,0)).1<(a0.getD i.toNat (0,0)).1),Bool.or_true];rfl)
 · exact yes (by unfold ptAt;rw [t1,t2,decide_eq_true (by omega:i.toNat=0)];rfl)
set_option maxRecDepth 100000 in
theorem impl_PointsOk.eq:EqS c_impl_PointsOk Try.f11 [4] [impl_from.e] [] (fun i x=>impl_PointsOk.L x) (fun i x=>impl_PointsOk.F x):=by intro i x;kernel_rfl
theorem impl_PointsOk.ok:ConOk Try.prog 11 c_impl_PointsOk:=okOf impl_PointsOk.eq Try.func11 rfl (by kernel_rfl) fun i x h hi hw=>impl_PointsOk.pure x h hw
def impl_PointsOk.e:GE:=⟨11,c_impl_PointsOk,⟨_,Try.func11,rfl,rfl⟩,impl_PointsOk.ok⟩
end Go.Proofs.Ytfnafjgehdeccaa.B
