/- Series of points:are they right? -/
import Derived.Test.YtcfaphojdacmbaaGreatRCCover
set_option maxRecDepth 100000
set_option linter.unusedVariables false
set_option linter.unusedSimpArgs false
namespace Go.Proofs.YtcfaphojdacmbaaGreatR.B
open Go Go.Proofs.YtcfaphojdacmbaaGreatR.Bv
abbrev Pt:=Int×Int
abbrev Ser:=List UInt8×List (Int×Int)
def Xj5(a:Int):Bool:=fIn a 0 1099511627776
def Xfa(p:Nat→Bool)(n:Nat):Bool:=(List.range n).all p
theorem Xaj{p:Nat→Bool}{n:Nat}(h:∀j,j<n→p j=true):Xfa p n=true:=by
 simp only[Xfa,List.all_eq_true,List.mem_range];exact h
theorem Xmc{p:Nat→Bool}{n j:Nat}(h:j<n)(hp:p j=false):Xfa p n=false:=by
 cases e:Xfa p n with
 | false=>rfl
 | true=>
   simp only[Xfa,List.all_eq_true,List.mem_range]at e
   rw[e j h]at hp;cases hp
theorem XaJ{p:Nat→Bool}{i:Int}(h0:0≤i)(h:∀j,j<i.toNat→p j=true)(hp:p i.toNat=true):∀j,j<(i+1).toNat→p j=true:=fun j hj=>by
 by_cases e:j=i.toNat
 · rw[e];exact hp
 · exact h j (by omega)
def Xdi(l:List Pt)(i:Nat):Bool:=fIn (l.getD i (0,0)).1 0 1099511627776&&(fIn (l.getD i (0,0)).2 (-1099511627776) 1099511627776&&(decide (i=0)||decide ((l.getD (i - 1) (0,0)).1<(l.getD i (0,0)).1)))
def X0s(l:List Pt):Bool:=decide (l.length≤60)&&Xfa (Xdi l) l.length
def ptI(l:List Pt)(i:Int):Prop:=0≤i∧i≤l.length∧∀j,j<i.toNat→Xdi l j=true
def ptM(l:List Pt)(i:Int):Nat:=(l.length - i).toNat
theorem XoC{l:List Pt}{j:Nat}(h:j<l.length)(hp:Xdi l j=false):false=X0s l:=by simp[X0s,Xmc h hp]
def XkE(s:List UInt8)(i:Nat):Bool:=decide ((97:Int)≤((s.getD i 0).toNat:Int))&&decide (((s.getD i 0).toNat:Int)≤122)
def X8b(s:List UInt8):Bool:=fIn s.length 1 8&&Xfa (XkE s) s.length
def chI(s:List UInt8)(i:Int):Prop:=0≤i∧i≤s.length∧∀j,j<i.toNat→XkE s j=true
def chM(s:List UInt8)(i:Int):Nat:=(s.length - i).toNat
theorem Xph{s:List UInt8}{j:Nat}(h:j<s.length)(hp:XkE s j=false):false=X8b s:=by simp[X8b,Xmc h hp]
def Xi5(l:List Ser)(i:Nat):Bool:=X8b (l.getD i ([],[])).1&&((decide (i=0)||Op.bytesLess (l.getD (i - 1) ([],[])).1 (l.getD i ([],[])).1)&&(decide ((l.getD i ([],[])).2.length≠0)&&X0s (l.getD i ([],[])).2))
def X0y(l:List Ser):Bool:=decide (l.length≤5)&&Xfa (Xi5 l) l.length
def srI(l:List Ser)(i:Int):Prop:=0≤i∧i≤l.length∧∀j,j<i.toNat→Xi5 l j=true
def srM(l:List Ser)(i:Int):Nat:=(l.length - i).toNat
theorem Xp1{l:List Ser}{j:Nat}(h:j<l.length)(hp:Xi5 l j=false):false=X0y l:=by simp[X0y,Xmc h hp]
def X6s:Con:={A:=X9z,shA:=[.one],R:=.bool,shR:=[(false,1)],pre:=fun _ _=>True,f:=some fun _ a=>((X0s a),((),()))}
def X0O.F(a0:U6q):Prop:=(X00 (decide ((ln a0)>(60:Int))) (Eq (false,((),())) ((X0s a0),((),()))) (eS [(0,.val false [.lst T0q a0 none])] [(0,.val false [.lst T0q a0 none])]∧((ptI a0 0)∧∀(y1:Int),(ptI a0 y1)→(X00 (decide (y1<(ln a0))) (0≤y1∧(y1<(ln a0)∧(True∧∀r2,(Eq r2 ((fIn ((List.getD a0 (tN y1) (0,0)).1) 0 1099511627776),((),())))→(X00 (!r2.1) (Eq (false,((),())) ((X0s a0),((),()))) (0≤y1∧(y1<(ln a0)∧(True∧∀r3,(Eq r3 ((fIn ((List.getD a0 (tN y1) (0,0)).2) (-1099511627776) 1099511627776),((),())))→(X00 (!r3.1) (Eq (false,((),())) ((X0s a0),((),()))) (X00 (decide (y1>(0:Int))) (0≤(wI (y1 - (1:Int)))∧((wI (y1 - (1:Int)))<(ln a0)∧(0≤y1∧(y1<(ln a0)∧(X00 (decide (((List.getD a0 (tN (wI (y1 - (1:Int)))) (0,0)).1)≥((List.getD a0 (tN y1) (0,0)).1))) (Eq (false,((),())) ((X0s a0),((),()))) (eS [(0,.val false [.lst T0q a0 none])] [(0,.val false [.lst T0q a0 none])]∧(ptI a0 (wI (y1+(1:Int))))∧(ptM a0 (wI (y1+(1:Int))))<(ptM a0 y1))))))) (eS [(0,.val false [.lst T0q a0 none])] [(0,.val false [.lst T0q a0 none])]∧(ptI a0 (wI (y1+(1:Int))))∧(ptM a0 (wI (y1+(1:Int))))<(ptM a0 y1))))))))))) (Eq (true,((),())) ((X0s a0),((),())))))))
def X0O.L(a0:U6q):Nat→Option X0d:=fun p=>Go.Proofs.YtcfaphojdacmbaaGreatR.Bv.look p [(58,{kp:={hold:=[0],slots:=[3],boxes:=[],rows:=[]},T:=(.int .i64),I:=fun st y=>ptI a0 y,μ:=fun st y=>ptM a0 y})]
theorem X0O.pure(a0:U6q)(h:True)(hw:Wf X6s.A a0):X0O.F a0:=by
 delta X0O.F ln tN wI eS
 have hw1:a0.length≤maxLen:=hw.1
 unfold maxLen at hw1
 simp only[forall_eq,true_and,and_true,X01,Prod.mk.injEq,decide_eq_true_eq,decide_eq_false_iff_not,Bool.not_eq_true',Bool.not_eq_false']
 refine⟨fun h1=>?_,fun h1=>⟨⟨by omega,by omega,fun j hj=>absurd hj (by simp)⟩,?_⟩⟩
 · have:¬a0.length≤60:=by omega
   simp[X0s,this]
 rintro i ⟨h2,h3,h4⟩
 have fin:¬i<(a0.length:Int)→true=X0s a0:=fun hi=>by
  have:Xfa (Xdi a0) a0.length=true:=Xaj fun j hj=>h4 j (by omega)
  have h60:a0.length≤60:=by omega
  simp[X0s,this,h60]
 refine⟨?_,fin⟩
 intro hi
 have e2:IntKind.wrap .i64 (i+1)=i+1:=Go.IntWalk.i64_in _ (by omega)
 have e1:IntKind.wrap .i64 (i - 1)=i - 1:=Go.IntWalk.i64_in _ (by omega)
 have e3:(i - 1).toNat=i.toNat - 1:=by omega
 rw[e1,e2,e3]
 have no:Xdi a0 i.toNat=false→false=X0s a0:=fun hp=>XoC (by omega) hp
 have yes:Xdi a0 i.toNat=true→ptI a0 (i+1)∧ptM a0 (i+1)<ptM a0 i:=fun hp=>⟨⟨by omega,by omega,XaJ h2 h4 hp⟩,by unfold ptM;omega⟩
 refine⟨h2,hi,fun t1=>no (by unfold Xdi;rw[t1];rfl),fun t1=>⟨h2,hi,?_,fun t2=>⟨fun hp=>⟨by omega,by omega,h2,hi,?_,?_⟩,fun hp=>?_⟩⟩⟩
 · intro t2;exact no (by unfold Xdi;rw[t1,t2];rfl)
 · intro t3;exact no (by unfold Xdi;rw[t1,t2,decide_eq_false (by omega:¬i.toNat=0),decide_eq_false (by omega)];rfl)
 · intro t3;exact yes (by unfold Xdi;rw[t1,t2,decide_eq_true (by omega:(a0.getD (i.toNat - 1) (0,0)).1<(a0.getD i.toNat (0,0)).1),Bool.or_true];rfl)
 · exact yes (by unfold Xdi;rw[t1,t2,decide_eq_true (by omega:i.toNat=0)];rfl)
theorem X0O.eq:EqS X6s Tryz.f95 [4] [X2a.e] [] (fun i x=>X0O.L x) (fun i x=>X0O.F x):=by intro i x;kernel_rfl
theorem X0O.ok:X0l Tryz.prog 95 X6s:=X2b X0O.eq Tryz.func95 rfl (by kernel_rfl) fun i x h hi hw=>X0O.pure x h hw
def X0O.e:GE:=⟨95,X6s,⟨_,Tryz.func95,rfl,rfl⟩,X0O.ok⟩
def X63:Con:={A:=X9z,shA:=[.one],R:=.bool,shR:=[(false,1)],pre:=fun _ _=>True,f:=some fun _ a=>((X0s a),((),()))}
def X1t.F(a0:U6q):Prop:=(eS [(0,.val false [.lst T0q a0 none]),(5,.val false [.lst T0q a0 none]),(6,.val false [.int .i64 (ln a0)])] [(0,.val false [.lst T0q a0 none]),(5,.val false [.lst T0q a0 none]),(6,.val false [.int .i64 (ln a0)])]∧((ptI a0 0)∧∀(y1:Int),(ptI a0 y1)→(X00 (decide (y1<(ln a0))) (0≤y1∧(y1<(ln a0)∧(True∧∀r2,(Eq r2 ((fIn ((List.getD a0 (tN y1) (0,0)).1) 0 1099511627776),((),())))→(X00 (!r2.1) (Eq (false,((),())) ((X0s a0),((),()))) (True∧∀r3,(Eq r3 ((fIn ((List.getD a0 (tN y1) (0,0)).2) (-1099511627776) 1099511627776),((),())))→(X00 (!r3.1) (Eq (false,((),())) ((X0s a0),((),()))) (X00 (decide (y1>(0:Int))) (0≤(wI (y1 - (1:Int)))∧((wI (y1 - (1:Int)))<(ln a0)∧(X00 (decide (((List.getD a0 (tN (wI (y1 - (1:Int)))) (0,0)).1)≥((List.getD a0 (tN y1) (0,0)).1))) (Eq (false,((),())) ((X0s a0),((),()))) (eS [(0,.val false [.lst T0q a0 none]),(5,.val false [.lst T0q a0 none]),(6,.val false [.int .i64 (ln a0)])] [(0,.val false [.lst T0q a0 none]),(5,.val false [.lst T0q a0 none]),(6,.val false [.int .i64 (ln a0)])]∧(ptI a0 (wI (y1+(1:Int))))∧(ptM a0 (wI (y1+(1:Int))))<(ptM a0 y1))))) (eS [(0,.val false [.lst T0q a0 none]),(5,.val false [.lst T0q a0 none]),(6,.val false [.int .i64 (ln a0)])] [(0,.val false [.lst T0q a0 none]),(5,.val false [.lst T0q a0 none]),(6,.val false [.int .i64 (ln a0)])]∧(ptI a0 (wI (y1+(1:Int))))∧(ptM a0 (wI (y1+(1:Int))))<(ptM a0 y1))))))))) (Eq ((decide ((ln a0)≤(60:Int))),((),())) ((X0s a0),((),()))))))
def X1t.L(a0:U6q):Nat→Option X0d:=fun p=>Go.Proofs.YtcfaphojdacmbaaGreatR.Bv.look p [(26,{kp:={hold:=[0,5,6],slots:=[7],boxes:=[],rows:=[]},T:=(.int .i64),I:=fun st y=>ptI a0 y,μ:=fun st y=>ptM a0 y})]
theorem X1t.pure(a0:U6q)(h:True)(hw:Wf X63.A a0):X1t.F a0:=by
 delta X1t.F ln tN wI eS
 have hw1:a0.length≤maxLen:=hw.1
 unfold maxLen at hw1
 simp only[forall_eq,true_and,and_true,X01,Prod.mk.injEq,decide_eq_true_eq,decide_eq_false_iff_not,Bool.not_eq_true',Bool.not_eq_false']
 refine⟨⟨by omega,by omega,fun j hj=>absurd hj (by simp)⟩,?_⟩
 rintro i ⟨h2,h3,h4⟩
 have fin:¬i<(a0.length:Int)→decide ((a0.length:Int)≤60)=X0s a0:=fun hi=>by
  have:Xfa (Xdi a0) a0.length=true:=Xaj fun j hj=>h4 j (by omega)
  simp[X0s,this];omega
 refine⟨?_,fin⟩
 intro hi
 have e2:IntKind.wrap .i64 (i+1)=i+1:=Go.IntWalk.i64_in _ (by omega)
 have e1:IntKind.wrap .i64 (i - 1)=i - 1:=Go.IntWalk.i64_in _ (by omega)
 have e3:(i - 1).toNat=i.toNat - 1:=by omega
 rw[e1,e2,e3]
 have no:Xdi a0 i.toNat=false→false=X0s a0:=fun hp=>XoC (by omega) hp
 have yes:Xdi a0 i.toNat=true→ptI a0 (i+1)∧ptM a0 (i+1)<ptM a0 i:=fun hp=>⟨⟨by omega,by omega,XaJ h2 h4 hp⟩,by unfold ptM;omega⟩
 refine⟨h2,hi,fun t1=>no (by unfold Xdi;rw[t1];rfl),fun t1=>⟨?_,fun t2=>⟨fun hp=>⟨by omega,by omega,?_,?_⟩,fun hp=>?_⟩⟩⟩
 · intro t2;exact no (by unfold Xdi;rw[t1,t2];rfl)
 · intro t3;exact no (by unfold Xdi;rw[t1,t2,decide_eq_false (by omega:¬i.toNat=0),decide_eq_false (by omega)];rfl)
 · intro t3;exact yes (by unfold Xdi;rw[t1,t2,decide_eq_true (by omega:(a0.getD (i.toNat - 1) (0,0)).1<(a0.getD i.toNat (0,0)).1),Bool.or_true];rfl)
 · exact yes (by unfold Xdi;rw[t1,t2,decide_eq_true (by omega:i.toNat=0)];rfl)
theorem X1t.eq:EqS X63 Tryz.f90 [4] [X1H.e] [] (fun i x=>X1t.L x) (fun i x=>X1t.F x):=by intro i x;kernel_rfl
theorem X1t.ok:X0l Tryz.prog 90 X63:=X2b X1t.eq Tryz.func90 rfl (by kernel_rfl) fun i x h hi hw=>X1t.pure x h hw
def X1t.e:GE:=⟨90,X63,⟨_,Tryz.func90,rfl,rfl⟩,X1t.ok⟩
def XiJ(s:List UInt8):Prop:=s.length≤maxLen
def X8r:Con:={A:=.str,shA:=[.one],R:=.bool,shR:=[(false,1)],pre:=fun _ a=>(XiJ a),f:=some fun _ a=>((X8b a),((),()))}
def X3c.F(a0:U5q):Prop:=(True∧∀r1,(Eq r1 ((fIn (ln a0) 1 8),((),())))→(X00 (!r1.1) (Eq (false,((),())) ((X8b a0),((),()))) (eS [(0,.val false [.str a0])] [(0,.val false [.str a0])]∧((chI a0 0)∧∀(y2:Int),(chI a0 y2)→(X00 (decide (y2<(ln a0))) (0≤y2∧(y2<(ln a0)∧(X00 (decide (((UInt8.toNat (List.getD a0 (tN y2) 0):Nat):Int)<(97:Int))) (Eq (false,((),())) ((X8b a0),((),()))) (0≤y2∧(y2<(ln a0)∧(X00 (decide (((UInt8.toNat (List.getD a0 (tN y2) 0):Nat):Int)>(122:Int))) (Eq (false,((),())) ((X8b a0),((),()))) (eS [(0,.val false [.str a0])] [(0,.val false [.str a0])]∧(chI a0 (wI (y2+(1:Int))))∧(chM a0 (wI (y2+(1:Int))))<(chM a0 y2)))))))) (Eq (true,((),())) ((X8b a0),((),()))))))))
def X3c.L(a0:U5q):Nat→Option X0d:=fun p=>Go.Proofs.YtcfaphojdacmbaaGreatR.Bv.look p [(58,{kp:={hold:=[0],slots:=[3],boxes:=[],rows:=[]},T:=(.int .i64),I:=fun st y=>chI a0 y,μ:=fun st y=>chM a0 y})]
theorem X3c.pure(a0:U5q)(h:(XiJ a0))(hw:Wf X8r.A a0):X3c.F a0:=by
 delta X3c.F ln tN wI eS
 have hw1:a0.length≤maxLen:=h
 unfold maxLen at hw1
 simp only[forall_eq,true_and,and_true,X01,Prod.mk.injEq,decide_eq_true_eq,decide_eq_false_iff_not,Bool.not_eq_true',Bool.not_eq_false']
 refine⟨fun h1=>by simp[X8b,h1],fun h1=>⟨⟨by omega,by omega,fun j hj=>absurd hj (by simp)⟩,?_⟩⟩
 have hin:¬(a0.length:Int)>8:=by
  simp only[fIn,Bool.and_eq_true,decide_eq_true_eq]at h1;omega
 rintro i ⟨h2,h3,h4⟩
 have fin:¬i<(a0.length:Int)→true=X8b a0:=fun hi=>by
  have:Xfa (XkE a0) a0.length=true:=Xaj fun j hj=>h4 j (by omega)
  simp[X8b,this,h1]
 refine⟨?_,fin⟩
 intro hi
 have e2:IntKind.wrap .i64 (i+1)=i+1:=Go.IntWalk.i64_in _ (by omega)
 rw[e2]
 have no:XkE a0 i.toNat=false→false=X8b a0:=fun hp=>Xph (by omega) hp
 refine⟨h2,hi,fun t1=>no (by unfold XkE;rw[decide_eq_false (by omega)];rfl),fun t1=>⟨h2,hi,fun t2=>no (by unfold XkE;rw[decide_eq_false (p:=_≤(122:Int)) (by omega),Bool.and_false]),fun t2=>?_⟩⟩
 exact⟨⟨by omega,by omega,XaJ h2 h4 (by unfold XkE;rw[decide_eq_true (by omega),decide_eq_true (by omega)];rfl)⟩,by unfold chM;omega⟩
theorem X3c.eq:EqS X8r Tryz.f178 [4] [X2a.e] [] (fun i x=>X3c.L x) (fun i x=>X3c.F x):=by intro i x;kernel_rfl
theorem X3c.ok:X0l Tryz.prog 178 X8r:=X2b X3c.eq Tryz.func178 rfl (by kernel_rfl) fun i x h hi hw=>X3c.pure x h hw
def X3c.e:GE:=⟨178,X8r,⟨_,Tryz.func178,rfl,rfl⟩,X3c.ok⟩
def X8P:Con:={A:=.str,shA:=[.one],R:=.bool,shR:=[(false,1)],pre:=fun _ a=>(XiJ a),f:=some fun _ a=>((X8b a),((),()))}
def X3h.F(a0:U5q):Prop:=(eS [(0,.val false [.str a0]),(5,.val false [.int .i64 (ln a0)])] [(0,.val false [.str a0]),(5,.val false [.int .i64 (ln a0)])]∧((chI a0 0)∧∀(y1:Int),(chI a0 y1)→(X00 (decide (y1<(ln a0))) (0≤y1∧(y1<(ln a0)∧(X00 (decide (((UInt8.toNat (List.getD a0 (tN y1) 0):Nat):Int)<(97:Int))) (Eq (false,((),())) ((X8b a0),((),()))) (0≤y1∧(y1<(ln a0)∧(X00 (decide (((UInt8.toNat (List.getD a0 (tN y1) 0):Nat):Int)>(122:Int))) (Eq (false,((),())) ((X8b a0),((),()))) (eS [(0,.val false [.str a0]),(5,.val false [.int .i64 (ln a0)])] [(0,.val false [.str a0]),(5,.val false [.int .i64 (ln a0)])]∧(chI a0 (wI (y1+(1:Int))))∧(chM a0 (wI (y1+(1:Int))))<(chM a0 y1)))))))) (True∧∀r2,(Eq r2 ((fIn (ln a0) 1 8),((),())))→(Eq (r2.1,((),())) ((X8b a0),((),())))))))
def X3h.L(a0:U5q):Nat→Option X0d:=fun p=>Go.Proofs.YtcfaphojdacmbaaGreatR.Bv.look p [(26,{kp:={hold:=[0,5],slots:=[6],boxes:=[],rows:=[]},T:=(.int .i64),I:=fun st y=>chI a0 y,μ:=fun st y=>chM a0 y})]
theorem X3h.pure(a0:U5q)(h:(XiJ a0))(hw:Wf X8P.A a0):X3h.F a0:=by
 delta X3h.F ln tN wI eS
 have hw1:a0.length≤maxLen:=h
 unfold maxLen at hw1
 simp only[forall_eq,true_and,and_true,X01,Prod.mk.injEq,decide_eq_true_eq,decide_eq_false_iff_not,Bool.not_eq_true',Bool.not_eq_false']
 refine⟨⟨by omega,by omega,fun j hj=>absurd hj (by simp)⟩,?_⟩
 rintro i ⟨h2,h3,h4⟩
 have fin:¬i<(a0.length:Int)→fIn (a0.length:Int) 1 8=X8b a0:=fun hi=>by
  have:Xfa (XkE a0) a0.length=true:=Xaj fun j hj=>h4 j (by omega)
  simp[X8b,this]
 refine⟨?_,fin⟩
 intro hi
 have e2:IntKind.wrap .i64 (i+1)=i+1:=Go.IntWalk.i64_in _ (by omega)
 rw[e2]
 have no:XkE a0 i.toNat=false→false=X8b a0:=fun hp=>Xph (by omega) hp
 refine⟨h2,hi,fun t1=>no (by unfold XkE;rw[decide_eq_false (by omega)];rfl),fun t1=>⟨h2,hi,fun t2=>no (by unfold XkE;rw[decide_eq_false (p:=_≤(122:Int)) (by omega),Bool.and_false]),fun t2=>?_⟩⟩
 exact⟨⟨by omega,by omega,XaJ h2 h4 (by unfold XkE;rw[decide_eq_true (by omega),decide_eq_true (by omega)];rfl)⟩,by unfold chM;omega⟩
theorem X3h.eq:EqS X8P Tryz.f89 [4] [X1H.e] [] (fun i x=>X3h.L x) (fun i x=>X3h.F x):=by intro i x;kernel_rfl
theorem X3h.ok:X0l Tryz.prog 89 X8P:=X2b X3h.eq Tryz.func89 rfl (by kernel_rfl) fun i x h hi hw=>X3h.pure x h hw
def X3h.e:GE:=⟨89,X8P,⟨_,Tryz.func89,rfl,rfl⟩,X3h.ok⟩
def X27(l:List Ser):Prop:=∀s∈l,s.1.length≤maxLen
theorem Xms{l:List Ser}(h:X27 l){i:Int}(h0:0≤i)(hi:i<l.length):XiJ (l.getD i.toNat ([],[])).1:=by
 have hlt:i.toNat<l.length:=by omega
 rw[List.getD_eq_getElem?_getD,List.getElem?_eq_getElem hlt]
 exact h _ (List.getElem_mem hlt)
def X6v:Con:={A:=T9q,shA:=[.one],R:=.bool,shR:=[(false,1)],pre:=fun _ a=>(X27 a),f:=some fun _ a=>((X0y a),((),()))}
def X1r.F(a0:(List U1q)):Prop:=(X00 (decide ((ln a0)>(5:Int))) (Eq (false,((),())) ((X0y a0),((),()))) (eS [(0,.val false [.lst T2q a0 none])] [(0,.val false [.lst T2q a0 none])]∧((srI a0 0)∧∀(y1:Int),(srI a0 y1)→(X00 (decide (y1<(ln a0))) (0≤y1∧(y1<(ln a0)∧((XiJ ((List.getD a0 (tN y1) ([],[])).1))∧∀r2,(Eq r2 ((X8b ((List.getD a0 (tN y1) ([],[])).1)),((),())))→(X00 (!r2.1) (Eq (false,((),())) ((X0y a0),((),()))) (X00 (decide (y1>(0:Int))) (0≤(wI (y1 - (1:Int)))∧((wI (y1 - (1:Int)))<(ln a0)∧(0≤y1∧(y1<(ln a0)∧(X00 (!Op.bytesLess ((List.getD a0 (tN (wI (y1 - (1:Int)))) ([],[])).1) ((List.getD a0 (tN y1) ([],[])).1)) (Eq (false,((),())) ((X0y a0),((),()))) (0≤y1∧(y1<(ln a0)∧(X00 ((ln ((List.getD a0 (tN y1) ([],[])).2))==(0:Int)) (Eq (false,((),())) ((X0y a0),((),()))) (0≤y1∧(y1<(ln a0)∧(True∧∀r3,(Eq r3 ((X0s ((List.getD a0 (tN y1) ([],[])).2)),((),())))→(X00 (!r3.1) (Eq (false,((),())) ((X0y a0),((),()))) (eS [(0,.val false [.lst T2q a0 none])] [(0,.val false [.lst T2q a0 none])]∧(srI a0 (wI (y1+(1:Int))))∧(srM a0 (wI (y1+(1:Int))))<(srM a0 y1)))))))))))))) (0≤y1∧(y1<(ln a0)∧(X00 ((ln ((List.getD a0 (tN y1) ([],[])).2))==(0:Int)) (Eq (false,((),())) ((X0y a0),((),()))) (0≤y1∧(y1<(ln a0)∧(True∧∀r4,(Eq r4 ((X0s ((List.getD a0 (tN y1) ([],[])).2)),((),())))→(X00 (!r4.1) (Eq (false,((),())) ((X0y a0),((),()))) (eS [(0,.val false [.lst T2q a0 none])] [(0,.val false [.lst T2q a0 none])]∧(srI a0 (wI (y1+(1:Int))))∧(srM a0 (wI (y1+(1:Int))))<(srM a0 y1)))))))))))))) (Eq (true,((),())) ((X0y a0),((),())))))))
def X1r.L(a0:(List U1q)):Nat→Option X0d:=fun p=>Go.Proofs.YtcfaphojdacmbaaGreatR.Bv.look p [(58,{kp:={hold:=[0],slots:=[3],boxes:=[],rows:=[]},T:=(.int .i64),I:=fun st y=>srI a0 y,μ:=fun st y=>srM a0 y})]
theorem X1r.pure(a0:(List U1q))(h:(X27 a0))(hw:Wf X6v.A a0):X1r.F a0:=by
 delta X1r.F ln tN wI eS
 have hw1:a0.length≤maxLen:=hw.1
 unfold maxLen at hw1
 simp only[forall_eq,true_and,and_true,X01,Prod.mk.injEq,decide_eq_true_eq,decide_eq_false_iff_not,Bool.not_eq_true',Bool.not_eq_false']
 refine⟨fun h1=>?_,fun h1=>⟨⟨by omega,by omega,fun j hj=>absurd hj (by simp)⟩,?_⟩⟩
 · have:¬a0.length≤5:=by omega
   simp[X0y,this]
 rintro i ⟨h2,h3,h4⟩
 have fin:¬i<(a0.length:Int)→true=X0y a0:=fun hi=>by
  have:Xfa (Xi5 a0) a0.length=true:=Xaj fun j hj=>h4 j (by omega)
  have h60:a0.length≤5:=by omega
  simp[X0y,this,h60]
 refine⟨?_,fin⟩
 intro hi
 have e2:IntKind.wrap .i64 (i+1)=i+1:=Go.IntWalk.i64_in _ (by omega)
 have e1:IntKind.wrap .i64 (i - 1)=i - 1:=Go.IntWalk.i64_in _ (by omega)
 have e3:(i - 1).toNat=i.toNat - 1:=by omega
 rw[e1,e2,e3]
 have no:Xi5 a0 i.toNat=false→false=X0y a0:=fun hp=>Xp1 (by omega) hp
 have yes:Xi5 a0 i.toNat=true→srI a0 (i+1)∧srM a0 (i+1)<srM a0 i:=fun hp=>⟨⟨by omega,by omega,XaJ h2 h4 hp⟩,by unfold srM;omega⟩
 have hk:=Xms h h2 hi
 generalize hx:a0.getD i.toNat ([],[])=x at*
 generalize hy:a0.getD (i.toNat - 1) ([],[])=y at*
 have hsr:Xi5 a0 i.toNat=(X8b x.1&&((decide (i.toNat=0)||Op.bytesLess y.1 x.1)&&(decide (x.2.length≠0)&&X0s x.2))):=by unfold Xi5;rw[hx,hy]
 refine⟨h2,hi,hk,fun t1=>no (by rw[hsr,t1];rfl),fun t1=>⟨fun hp=>⟨by omega,by omega,h2,hi,fun t2=>no ?_,fun t2=>⟨h2,hi,fun t3=>no ?_,fun t3=>⟨h2,hi,fun t4=>no ?_,fun t4=>yes ?_⟩⟩⟩,fun hp=>⟨h2,hi,fun t3=>no ?_,fun t3=>⟨h2,hi,fun t4=>no ?_,fun t4=>yes ?_⟩⟩⟩⟩
 · rw[hsr,t1,decide_eq_false (by omega),t2];rfl
 · rw[hsr,decide_eq_false (p:=x.2.length≠0) (by simp at t3;simp[t3])];simp
 · rw[hsr,t4];simp
 · have t5:x.2.length≠0:=by simp at t3;simpa using t3
   rw[hsr,t1,t2,t4,decide_eq_true t5];simp
 · rw[hsr,decide_eq_false (p:=x.2.length≠0) (by simp at t3;simp[t3])];simp
 · rw[hsr,t4];simp
 · have t5:x.2.length≠0:=by simp at t3;simpa using t3
   rw[hsr,t1,t4,decide_eq_true t5,decide_eq_true (by omega:i.toNat=0)];simp
theorem X1r.eq:EqS X6v Tryz.f104 [4] [X0O.e,X3c.e] [] (fun i x=>X1r.L x) (fun i x=>X1r.F x):=by intro i x;kernel_rfl
theorem X1r.ok:X0l Tryz.prog 104 X6v:=X2b X1r.eq Tryz.func104 rfl (by kernel_rfl) fun i x h hi hw=>X1r.pure x h hw
def X1r.e:GE:=⟨104,X6v,⟨_,Tryz.func104,rfl,rfl⟩,X1r.ok⟩
def X69:Con:={A:=T9q,shA:=[.one],R:=.bool,shR:=[(false,1)],pre:=fun _ a=>(X27 a),f:=some fun _ a=>((X0y a),((),()))}
def X1s.F(a0:(List U1q)):Prop:=(eS [(0,.val false [.lst T2q a0 none]),(5,.val false [.lst T2q a0 none]),(6,.val false [.int .i64 (ln a0)])] [(0,.val false [.lst T2q a0 none]),(5,.val false [.lst T2q a0 none]),(6,.val false [.int .i64 (ln a0)])]∧((srI a0 0)∧∀(y1:Int),(srI a0 y1)→(X00 (decide (y1<(ln a0))) (0≤y1∧(y1<(ln a0)∧((XiJ ((List.getD a0 (tN y1) ([],[])).1))∧∀r2,(Eq r2 ((X8b ((List.getD a0 (tN y1) ([],[])).1)),((),())))→(X00 (!r2.1) (Eq (false,((),())) ((X0y a0),((),()))) (True∧∀r3,(Eq r3 ((X0s ((List.getD a0 (tN y1) ([],[])).2)),((),())))→(X00 (!r3.1) (Eq (false,((),())) ((X0y a0),((),()))) (X00 ((ln ((List.getD a0 (tN y1) ([],[])).2))==(0:Int)) (Eq (false,((),())) ((X0y a0),((),()))) (X00 (decide (y1>(0:Int))) (0≤(wI (y1 - (1:Int)))∧((wI (y1 - (1:Int)))<(ln a0)∧(X00 (!Op.bytesLess ((List.getD a0 (tN (wI (y1 - (1:Int)))) ([],[])).1) ((List.getD a0 (tN y1) ([],[])).1)) (Eq (false,((),())) ((X0y a0),((),()))) (eS [(0,.val false [.lst T2q a0 none]),(5,.val false [.lst T2q a0 none]),(6,.val false [.int .i64 (ln a0)])] [(0,.val false [.lst T2q a0 none]),(5,.val false [.lst T2q a0 none]),(6,.val false [.int .i64 (ln a0)])]∧(srI a0 (wI (y1+(1:Int))))∧(srM a0 (wI (y1+(1:Int))))<(srM a0 y1))))) (eS [(0,.val false [.lst T2q a0 none]),(5,.val false [.lst T2q a0 none]),(6,.val false [.int .i64 (ln a0)])] [(0,.val false [.lst T2q a0 none]),(5,.val false [.lst T2q a0 none]),(6,.val false [.int .i64 (ln a0)])]∧(srI a0 (wI (y1+(1:Int))))∧(srM a0 (wI (y1+(1:Int))))<(srM a0 y1)))))))))) (Eq ((decide ((ln a0)≤(5:Int))),((),())) ((X0y a0),((),()))))))
def X1s.L(a0:(List U1q)):Nat→Option X0d:=fun p=>Go.Proofs.YtcfaphojdacmbaaGreatR.Bv.look p [(26,{kp:={hold:=[0,5,6],slots:=[7],boxes:=[],rows:=[]},T:=(.int .i64),I:=fun st y=>srI a0 y,μ:=fun st y=>srM a0 y})]
theorem X1s.pure(a0:(List U1q))(h:(X27 a0))(hw:Wf X69.A a0):X1s.F a0:=by
 delta X1s.F ln tN wI eS
 have hw1:a0.length≤maxLen:=hw.1
 unfold maxLen at hw1
 simp only[forall_eq,true_and,and_true,X01,Prod.mk.injEq,decide_eq_true_eq,decide_eq_false_iff_not,Bool.not_eq_true',Bool.not_eq_false']
 refine⟨⟨by omega,by omega,fun j hj=>absurd hj (by simp)⟩,?_⟩
 rintro i ⟨h2,h3,h4⟩
 have fin:¬i<(a0.length:Int)→decide ((a0.length:Int)≤5)=X0y a0:=fun hi=>by
  have:Xfa (Xi5 a0) a0.length=true:=Xaj fun j hj=>h4 j (by omega)
  simp[X0y,this];omega
 refine⟨?_,fin⟩
 intro hi
 have e2:IntKind.wrap .i64 (i+1)=i+1:=Go.IntWalk.i64_in _ (by omega)
 have e1:IntKind.wrap .i64 (i - 1)=i - 1:=Go.IntWalk.i64_in _ (by omega)
 have e3:(i - 1).toNat=i.toNat - 1:=by omega
 rw[e1,e2,e3]
 have no:Xi5 a0 i.toNat=false→false=X0y a0:=fun hp=>Xp1 (by omega) hp
 have yes:Xi5 a0 i.toNat=true→srI a0 (i+1)∧srM a0 (i+1)<srM a0 i:=fun hp=>⟨⟨by omega,by omega,XaJ h2 h4 hp⟩,by unfold srM;omega⟩
 have hk:=Xms h h2 hi
 generalize hx:a0.getD i.toNat ([],[])=x at*
 generalize hy:a0.getD (i.toNat - 1) ([],[])=y at*
 have hsr:Xi5 a0 i.toNat=(X8b x.1&&((decide (i.toNat=0)||Op.bytesLess y.1 x.1)&&(decide (x.2.length≠0)&&X0s x.2))):=by unfold Xi5;rw[hx,hy]
 refine⟨h2,hi,hk,fun t1=>no (by rw[hsr,t1];rfl),fun t1=>⟨fun t4=>no ?_,fun t4=>⟨fun t3=>no ?_,fun t3=>⟨fun hp=>⟨by omega,by omega,fun t2=>no ?_,fun t2=>yes ?_⟩,fun hp=>yes ?_⟩⟩⟩⟩
 · rw[hsr,t4];simp
 · rw[hsr,decide_eq_false (p:=x.2.length≠0) (by simp at t3;simp[t3])];simp
 · rw[hsr,t1,decide_eq_false (by omega),t2];rfl
 · have t5:x.2.length≠0:=by simp at t3;simpa using t3
   rw[hsr,t1,t2,t4,decide_eq_true t5];simp
 · have t5:x.2.length≠0:=by simp at t3;simpa using t3
   rw[hsr,t1,t4,decide_eq_true t5,decide_eq_true (by omega:i.toNat=0)];simp
theorem X1s.eq:EqS X69 Tryz.f91 [4] [X3h.e,X1t.e] [] (fun i x=>X1s.L x) (fun i x=>X1s.F x):=by intro i x;kernel_rfl
theorem X1s.ok:X0l Tryz.prog 91 X69:=X2b X1s.eq Tryz.func91 rfl (by kernel_rfl) fun i x h hi hw=>X1s.pure x h hw
def X1s.e:GE:=⟨91,X69,⟨_,Tryz.func91,rfl,rfl⟩,X1s.ok⟩
end Go.Proofs.YtcfaphojdacmbaaGreatR.B
