/- Series of points:are they right? -/
import Derived.Test.YtcfaphojdacmbaaGreatRCCover
set_option maxRecDepth 100000
set_option linter.unusedVariables false
set_option linter.unusedSimpArgs false
namespace Go.Proofs.YtcfaphojdacmbaaGreatR.B
open Go Go.Proofs.YtcfaphojdacmbaaGreatR.Bv
abbrev Pt:=Int×Int
abbrev Ser:=List UInt8×List (Int×Int)
def XiM(a:Int):Bool:=fIn a 0 1099511627776
def Xeu(p:Nat→Bool)(n:Nat):Bool:=(List.range n).all p
theorem X9l{p:Nat→Bool}{n:Nat}(h:∀j,j<n→p j=true):Xeu p n=true:=by
 simp only[Xeu,List.all_eq_true,List.mem_range];exact h
theorem XkS{p:Nat→Bool}{n j:Nat}(h:j<n)(hp:p j=false):Xeu p n=false:=by
 cases e:Xeu p n with
 | false=>rfl
 | true=>
   simp only[Xeu,List.all_eq_true,List.mem_range]at e
   rw[e j h]at hp;cases hp
theorem X9R{p:Nat→Bool}{i:Int}(h0:0≤i)(h:∀j,j<i.toNat→p j=true)(hp:p i.toNat=true):∀j,j<(i+1).toNat→p j=true:=fun j hj=>by
 by_cases e:j=i.toNat
 · rw[e];exact hp
 · exact h j (by omega)
def XcL(l:List Pt)(i:Nat):Bool:=fIn (l.getD i (0,0)).1 0 1099511627776&&(fIn (l.getD i (0,0)).2 (-1099511627776) 1099511627776&&(decide (i=0)||decide ((l.getD (i - 1) (0,0)).1<(l.getD i (0,0)).1)))
def X0F(l:List Pt):Bool:=decide (l.length≤60)&&Xeu (XcL l) l.length
def ptI(l:List Pt)(i:Int):Prop:=0≤i∧i≤l.length∧∀j,j<i.toNat→XcL l j=true
def ptM(l:List Pt)(i:Int):Nat:=(l.length - i).toNat
theorem XnZ{l:List Pt}{j:Nat}(h:j<l.length)(hp:XcL l j=false):false=X0F l:=by simp[X0F,XkS h hp]
def Xkj(s:List UInt8)(i:Nat):Bool:=decide ((97:Int)≤((s.getD i 0).toNat:Int))&&decide (((s.getD i 0).toNat:Int)≤122)
def X9f(s:List UInt8):Bool:=fIn s.length 1 8&&Xeu (Xkj s) s.length
def chI(s:List UInt8)(i:Int):Prop:=0≤i∧i≤s.length∧∀j,j<i.toNat→Xkj s j=true
def chM(s:List UInt8)(i:Int):Nat:=(s.length - i).toNat
theorem Xo8{s:List UInt8}{j:Nat}(h:j<s.length)(hp:Xkj s j=false):false=X9f s:=by simp[X9f,XkS h hp]
def XhL(l:List Ser)(i:Nat):Bool:=X9f (l.getD i ([],[])).1&&((decide (i=0)||Op.bytesLess (l.getD (i - 1) ([],[])).1 (l.getD i ([],[])).1)&&(decide ((l.getD i ([],[])).2.length≠0)&&X0F (l.getD i ([],[])).2))
def X0B(l:List Ser):Bool:=decide (l.length≤5)&&Xeu (XhL l) l.length
def srI(l:List Ser)(i:Int):Prop:=0≤i∧i≤l.length∧∀j,j<i.toNat→XhL l j=true
def srM(l:List Ser)(i:Int):Nat:=(l.length - i).toNat
theorem Xol{l:List Ser}{j:Nat}(h:j<l.length)(hp:XhL l j=false):false=X0B l:=by simp[X0B,XkS h hp]
def X63:Con:={A:=(.list T0q),shA:=[.one],R:=.bool,shR:=[(false,1)],pre:=fun _ _=>True,f:=some fun _ a=>((X0F a),((),()))}
def X1k.F(a0:U6q):Prop:=(X02 (decide ((ln a0)>(60:Int))) (Eq (false,((),())) ((X0F a0),((),()))) (eS [(0,.val false [.lst T0q a0 none])] [(0,.val false [.lst T0q a0 none])]∧((ptI a0 0)∧∀(y1:Int),(ptI a0 y1)→(X02 (decide (y1<(ln a0))) (0≤y1∧(y1<(ln a0)∧(True∧∀r2,(Eq r2 ((fIn ((List.getD a0 (tN y1) (0,0)).1) 0 1099511627776),((),())))→(X02 (!r2.1) (Eq (false,((),())) ((X0F a0),((),()))) (0≤y1∧(y1<(ln a0)∧(True∧∀r3,(Eq r3 ((fIn ((List.getD a0 (tN y1) (0,0)).2) (-1099511627776) 1099511627776),((),())))→(X02 (!r3.1) (Eq (false,((),())) ((X0F a0),((),()))) (X02 (decide (y1>(0:Int))) (0≤(wI (y1 - (1:Int)))∧((wI (y1 - (1:Int)))<(ln a0)∧(0≤y1∧(y1<(ln a0)∧(X02 (decide (((List.getD a0 (tN (wI (y1 - (1:Int)))) (0,0)).1)≥((List.getD a0 (tN y1) (0,0)).1))) (Eq (false,((),())) ((X0F a0),((),()))) (eS [(0,.val false [.lst T0q a0 none])] [(0,.val false [.lst T0q a0 none])]∧(ptI a0 (wI (y1+(1:Int))))∧(ptM a0 (wI (y1+(1:Int))))<(ptM a0 y1))))))) (eS [(0,.val false [.lst T0q a0 none])] [(0,.val false [.lst T0q a0 none])]∧(ptI a0 (wI (y1+(1:Int))))∧(ptM a0 (wI (y1+(1:Int))))<(ptM a0 y1))))))))))) (Eq (true,((),())) ((X0F a0),((),())))))))
def X1k.L(a0:U6q):Nat→Option X0c:=fun p=>Go.Proofs.YtcfaphojdacmbaaGreatR.Bv.look p [(58,{kp:={hold:=[0],slots:=[3],boxes:=[],rows:=[]},T:=(.int .i64),I:=fun st y=>ptI a0 y,μ:=fun st y=>ptM a0 y})]
theorem X1k.pure(a0:U6q)(h:True)(hw:Wf X63.A a0):X1k.F a0:=by
 delta X1k.F ln tN wI eS
 have hw1:a0.length≤maxLen:=hw.1
 unfold maxLen at hw1
 simp only[forall_eq,true_and,and_true,X01,Prod.mk.injEq,decide_eq_true_eq,decide_eq_false_iff_not,Bool.not_eq_true',Bool.not_eq_false']
 refine⟨fun h1=>?_,fun h1=>⟨⟨by omega,by omega,fun j hj=>absurd hj (by simp)⟩,?_⟩⟩
 · have:¬a0.length≤60:=by omega
   simp[X0F,this]
 rintro i ⟨h2,h3,h4⟩
 have fin:¬i<(a0.length:Int)→true=X0F a0:=fun hi=>by
  have:Xeu (XcL a0) a0.length=true:=X9l fun j hj=>h4 j (by omega)
  have h60:a0.length≤60:=by omega
  simp[X0F,this,h60]
 refine⟨?_,fin⟩
 intro hi
 have e2:IntKind.wrap .i64 (i+1)=i+1:=Go.IntWalk.i64_in _ (by omega)
 have e1:IntKind.wrap .i64 (i - 1)=i - 1:=Go.IntWalk.i64_in _ (by omega)
 have e3:(i - 1).toNat=i.toNat - 1:=by omega
 rw[e1,e2,e3]
 have no:XcL a0 i.toNat=false→false=X0F a0:=fun hp=>XnZ (by omega) hp
 have yes:XcL a0 i.toNat=true→ptI a0 (i+1)∧ptM a0 (i+1)<ptM a0 i:=fun hp=>⟨⟨by omega,by omega,X9R h2 h4 hp⟩,by unfold ptM;omega⟩
 refine⟨h2,hi,fun t1=>no (by unfold XcL;rw[t1];rfl),fun t1=>⟨h2,hi,?_,fun t2=>⟨fun hp=>⟨by omega,by omega,h2,hi,?_,?_⟩,fun hp=>?_⟩⟩⟩
 · intro t2;exact no (by unfold XcL;rw[t1,t2];rfl)
 · intro t3;exact no (by unfold XcL;rw[t1,t2,decide_eq_false (by omega:¬i.toNat=0),decide_eq_false (by omega)];rfl)
 · intro t3;exact yes (by unfold XcL;rw[t1,t2,decide_eq_true (by omega:(a0.getD (i.toNat - 1) (0,0)).1<(a0.getD i.toNat (0,0)).1),Bool.or_true];rfl)
 · exact yes (by unfold XcL;rw[t1,t2,decide_eq_true (by omega:i.toNat=0)];rfl)
theorem X1k.eq:EqS X63 Tryz.f95 [4] [X21.e] [] (fun i x=>X1k.L x) (fun i x=>X1k.F x):=by intro i x;kernel_rfl
theorem X1k.ok:X0n Tryz.prog 95 X63:=X2j X1k.eq Tryz.func95 rfl (by kernel_rfl) fun i x h hi hw=>X1k.pure x h hw
def X1k.e:GE:=⟨95,X63,⟨_,Tryz.func95,rfl,rfl⟩,X1k.ok⟩
def X64:Con:={A:=(.list T0q),shA:=[.one],R:=.bool,shR:=[(false,1)],pre:=fun _ _=>True,f:=some fun _ a=>((X0F a),((),()))}
def X1G.F(a0:U6q):Prop:=(eS [(0,.val false [.lst T0q a0 none]),(5,.val false [.lst T0q a0 none]),(6,.val false [.int .i64 (ln a0)])] [(0,.val false [.lst T0q a0 none]),(5,.val false [.lst T0q a0 none]),(6,.val false [.int .i64 (ln a0)])]∧((ptI a0 0)∧∀(y1:Int),(ptI a0 y1)→(X02 (decide (y1<(ln a0))) (0≤y1∧(y1<(ln a0)∧(True∧∀r2,(Eq r2 ((fIn ((List.getD a0 (tN y1) (0,0)).1) 0 1099511627776),((),())))→(X02 (!r2.1) (Eq (false,((),())) ((X0F a0),((),()))) (True∧∀r3,(Eq r3 ((fIn ((List.getD a0 (tN y1) (0,0)).2) (-1099511627776) 1099511627776),((),())))→(X02 (!r3.1) (Eq (false,((),())) ((X0F a0),((),()))) (X02 (decide (y1>(0:Int))) (0≤(wI (y1 - (1:Int)))∧((wI (y1 - (1:Int)))<(ln a0)∧(X02 (decide (((List.getD a0 (tN (wI (y1 - (1:Int)))) (0,0)).1)≥((List.getD a0 (tN y1) (0,0)).1))) (Eq (false,((),())) ((X0F a0),((),()))) (eS [(0,.val false [.lst T0q a0 none]),(5,.val false [.lst T0q a0 none]),(6,.val false [.int .i64 (ln a0)])] [(0,.val false [.lst T0q a0 none]),(5,.val false [.lst T0q a0 none]),(6,.val false [.int .i64 (ln a0)])]∧(ptI a0 (wI (y1+(1:Int))))∧(ptM a0 (wI (y1+(1:Int))))<(ptM a0 y1))))) (eS [(0,.val false [.lst T0q a0 none]),(5,.val false [.lst T0q a0 none]),(6,.val false [.int .i64 (ln a0)])] [(0,.val false [.lst T0q a0 none]),(5,.val false [.lst T0q a0 none]),(6,.val false [.int .i64 (ln a0)])]∧(ptI a0 (wI (y1+(1:Int))))∧(ptM a0 (wI (y1+(1:Int))))<(ptM a0 y1))))))))) (Eq ((decide ((ln a0)≤(60:Int))),((),())) ((X0F a0),((),()))))))
def X1G.L(a0:U6q):Nat→Option X0c:=fun p=>Go.Proofs.YtcfaphojdacmbaaGreatR.Bv.look p [(26,{kp:={hold:=[0,5,6],slots:=[7],boxes:=[],rows:=[]},T:=(.int .i64),I:=fun st y=>ptI a0 y,μ:=fun st y=>ptM a0 y})]
theorem X1G.pure(a0:U6q)(h:True)(hw:Wf X64.A a0):X1G.F a0:=by
 delta X1G.F ln tN wI eS
 have hw1:a0.length≤maxLen:=hw.1
 unfold maxLen at hw1
 simp only[forall_eq,true_and,and_true,X01,Prod.mk.injEq,decide_eq_true_eq,decide_eq_false_iff_not,Bool.not_eq_true',Bool.not_eq_false']
 refine⟨⟨by omega,by omega,fun j hj=>absurd hj (by simp)⟩,?_⟩
 rintro i ⟨h2,h3,h4⟩
 have fin:¬i<(a0.length:Int)→decide ((a0.length:Int)≤60)=X0F a0:=fun hi=>by
  have:Xeu (XcL a0) a0.length=true:=X9l fun j hj=>h4 j (by omega)
  simp[X0F,this];omega
 refine⟨?_,fin⟩
 intro hi
 have e2:IntKind.wrap .i64 (i+1)=i+1:=Go.IntWalk.i64_in _ (by omega)
 have e1:IntKind.wrap .i64 (i - 1)=i - 1:=Go.IntWalk.i64_in _ (by omega)
 have e3:(i - 1).toNat=i.toNat - 1:=by omega
 rw[e1,e2,e3]
 have no:XcL a0 i.toNat=false→false=X0F a0:=fun hp=>XnZ (by omega) hp
 have yes:XcL a0 i.toNat=true→ptI a0 (i+1)∧ptM a0 (i+1)<ptM a0 i:=fun hp=>⟨⟨by omega,by omega,X9R h2 h4 hp⟩,by unfold ptM;omega⟩
 refine⟨h2,hi,fun t1=>no (by unfold XcL;rw[t1];rfl),fun t1=>⟨?_,fun t2=>⟨fun hp=>⟨by omega,by omega,?_,?_⟩,fun hp=>?_⟩⟩⟩
 · intro t2;exact no (by unfold XcL;rw[t1,t2];rfl)
 · intro t3;exact no (by unfold XcL;rw[t1,t2,decide_eq_false (by omega:¬i.toNat=0),decide_eq_false (by omega)];rfl)
 · intro t3;exact yes (by unfold XcL;rw[t1,t2,decide_eq_true (by omega:(a0.getD (i.toNat - 1) (0,0)).1<(a0.getD i.toNat (0,0)).1),Bool.or_true];rfl)
 · exact yes (by unfold XcL;rw[t1,t2,decide_eq_true (by omega:i.toNat=0)];rfl)
theorem X1G.eq:EqS X64 Tryz.f90 [4] [X1B.e] [] (fun i x=>X1G.L x) (fun i x=>X1G.F x):=by intro i x;kernel_rfl
theorem X1G.ok:X0n Tryz.prog 90 X64:=X2j X1G.eq Tryz.func90 rfl (by kernel_rfl) fun i x h hi hw=>X1G.pure x h hw
def X1G.e:GE:=⟨90,X64,⟨_,Tryz.func90,rfl,rfl⟩,X1G.ok⟩
def XmI(s:List UInt8):Prop:=s.length≤maxLen
def X7N:Con:={A:=.str,shA:=[.one],R:=.bool,shR:=[(false,1)],pre:=fun _ a=>(XmI a),f:=some fun _ a=>((X9f a),((),()))}
def X31.F(a0:U5q):Prop:=(True∧∀r1,(Eq r1 ((fIn (ln a0) 1 8),((),())))→(X02 (!r1.1) (Eq (false,((),())) ((X9f a0),((),()))) (eS [(0,.val false [.str a0])] [(0,.val false [.str a0])]∧((chI a0 0)∧∀(y2:Int),(chI a0 y2)→(X02 (decide (y2<(ln a0))) (0≤y2∧(y2<(ln a0)∧(X02 (decide (((UInt8.toNat (List.getD a0 (tN y2) 0):Nat):Int)<(97:Int))) (Eq (false,((),())) ((X9f a0),((),()))) (0≤y2∧(y2<(ln a0)∧(X02 (decide (((UInt8.toNat (List.getD a0 (tN y2) 0):Nat):Int)>(122:Int))) (Eq (false,((),())) ((X9f a0),((),()))) (eS [(0,.val false [.str a0])] [(0,.val false [.str a0])]∧(chI a0 (wI (y2+(1:Int))))∧(chM a0 (wI (y2+(1:Int))))<(chM a0 y2)))))))) (Eq (true,((),())) ((X9f a0),((),()))))))))
def X31.L(a0:U5q):Nat→Option X0c:=fun p=>Go.Proofs.YtcfaphojdacmbaaGreatR.Bv.look p [(58,{kp:={hold:=[0],slots:=[3],boxes:=[],rows:=[]},T:=(.int .i64),I:=fun st y=>chI a0 y,μ:=fun st y=>chM a0 y})]
theorem X31.pure(a0:U5q)(h:(XmI a0))(hw:Wf X7N.A a0):X31.F a0:=by
 delta X31.F ln tN wI eS
 have hw1:a0.length≤maxLen:=h
 unfold maxLen at hw1
 simp only[forall_eq,true_and,and_true,X01,Prod.mk.injEq,decide_eq_true_eq,decide_eq_false_iff_not,Bool.not_eq_true',Bool.not_eq_false']
 refine⟨fun h1=>by simp[X9f,h1],fun h1=>⟨⟨by omega,by omega,fun j hj=>absurd hj (by simp)⟩,?_⟩⟩
 have hin:¬(a0.length:Int)>8:=by
  simp only[fIn,Bool.and_eq_true,decide_eq_true_eq]at h1;omega
 rintro i ⟨h2,h3,h4⟩
 have fin:¬i<(a0.length:Int)→true=X9f a0:=fun hi=>by
  have:Xeu (Xkj a0) a0.length=true:=X9l fun j hj=>h4 j (by omega)
  simp[X9f,this,h1]
 refine⟨?_,fin⟩
 intro hi
 have e2:IntKind.wrap .i64 (i+1)=i+1:=Go.IntWalk.i64_in _ (by omega)
 rw[e2]
 have no:Xkj a0 i.toNat=false→false=X9f a0:=fun hp=>Xo8 (by omega) hp
 refine⟨h2,hi,fun t1=>no (by unfold Xkj;rw[decide_eq_false (by omega)];rfl),fun t1=>⟨h2,hi,fun t2=>no (by unfold Xkj;rw[decide_eq_false (p:=_≤(122:Int)) (by omega),Bool.and_false]),fun t2=>?_⟩⟩
 exact⟨⟨by omega,by omega,X9R h2 h4 (by unfold Xkj;rw[decide_eq_true (by omega),decide_eq_true (by omega)];rfl)⟩,by unfold chM;omega⟩
theorem X31.eq:EqS X7N Tryz.f178 [4] [X21.e] [] (fun i x=>X31.L x) (fun i x=>X31.F x):=by intro i x;kernel_rfl
theorem X31.ok:X0n Tryz.prog 178 X7N:=X2j X31.eq Tryz.func178 rfl (by kernel_rfl) fun i x h hi hw=>X31.pure x h hw
def X31.e:GE:=⟨178,X7N,⟨_,Tryz.func178,rfl,rfl⟩,X31.ok⟩
def X7Z:Con:={A:=.str,shA:=[.one],R:=.bool,shR:=[(false,1)],pre:=fun _ a=>(XmI a),f:=some fun _ a=>((X9f a),((),()))}
def X3g.F(a0:U5q):Prop:=(eS [(0,.val false [.str a0]),(5,.val false [.int .i64 (ln a0)])] [(0,.val false [.str a0]),(5,.val false [.int .i64 (ln a0)])]∧((chI a0 0)∧∀(y1:Int),(chI a0 y1)→(X02 (decide (y1<(ln a0))) (0≤y1∧(y1<(ln a0)∧(X02 (decide (((UInt8.toNat (List.getD a0 (tN y1) 0):Nat):Int)<(97:Int))) (Eq (false,((),())) ((X9f a0),((),()))) (0≤y1∧(y1<(ln a0)∧(X02 (decide (((UInt8.toNat (List.getD a0 (tN y1) 0):Nat):Int)>(122:Int))) (Eq (false,((),())) ((X9f a0),((),()))) (eS [(0,.val false [.str a0]),(5,.val false [.int .i64 (ln a0)])] [(0,.val false [.str a0]),(5,.val false [.int .i64 (ln a0)])]∧(chI a0 (wI (y1+(1:Int))))∧(chM a0 (wI (y1+(1:Int))))<(chM a0 y1)))))))) (True∧∀r2,(Eq r2 ((fIn (ln a0) 1 8),((),())))→(Eq (r2.1,((),())) ((X9f a0),((),())))))))
def X3g.L(a0:U5q):Nat→Option X0c:=fun p=>Go.Proofs.YtcfaphojdacmbaaGreatR.Bv.look p [(26,{kp:={hold:=[0,5],slots:=[6],boxes:=[],rows:=[]},T:=(.int .i64),I:=fun st y=>chI a0 y,μ:=fun st y=>chM a0 y})]
theorem X3g.pure(a0:U5q)(h:(XmI a0))(hw:Wf X7Z.A a0):X3g.F a0:=by
 delta X3g.F ln tN wI eS
 have hw1:a0.length≤maxLen:=h
 unfold maxLen at hw1
 simp only[forall_eq,true_and,and_true,X01,Prod.mk.injEq,decide_eq_true_eq,decide_eq_false_iff_not,Bool.not_eq_true',Bool.not_eq_false']
 refine⟨⟨by omega,by omega,fun j hj=>absurd hj (by simp)⟩,?_⟩
 rintro i ⟨h2,h3,h4⟩
 have fin:¬i<(a0.length:Int)→fIn (a0.length:Int) 1 8=X9f a0:=fun hi=>by
  have:Xeu (Xkj a0) a0.length=true:=X9l fun j hj=>h4 j (by omega)
  simp[X9f,this]
 refine⟨?_,fin⟩
 intro hi
 have e2:IntKind.wrap .i64 (i+1)=i+1:=Go.IntWalk.i64_in _ (by omega)
 rw[e2]
 have no:Xkj a0 i.toNat=false→false=X9f a0:=fun hp=>Xo8 (by omega) hp
 refine⟨h2,hi,fun t1=>no (by unfold Xkj;rw[decide_eq_false (by omega)];rfl),fun t1=>⟨h2,hi,fun t2=>no (by unfold Xkj;rw[decide_eq_false (p:=_≤(122:Int)) (by omega),Bool.and_false]),fun t2=>?_⟩⟩
 exact⟨⟨by omega,by omega,X9R h2 h4 (by unfold Xkj;rw[decide_eq_true (by omega),decide_eq_true (by omega)];rfl)⟩,by unfold chM;omega⟩
theorem X3g.eq:EqS X7Z Tryz.f89 [4] [X1B.e] [] (fun i x=>X3g.L x) (fun i x=>X3g.F x):=by intro i x;kernel_rfl
theorem X3g.ok:X0n Tryz.prog 89 X7Z:=X2j X3g.eq Tryz.func89 rfl (by kernel_rfl) fun i x h hi hw=>X3g.pure x h hw
def X3g.e:GE:=⟨89,X7Z,⟨_,Tryz.func89,rfl,rfl⟩,X3g.ok⟩
def X2i(l:List Ser):Prop:=∀s∈l,s.1.length≤maxLen
theorem Xmp{l:List Ser}(h:X2i l){i:Int}(h0:0≤i)(hi:i<l.length):XmI (l.getD i.toNat ([],[])).1:=by
 have hlt:i.toNat<l.length:=by omega
 rw[List.getD_eq_getElem?_getD,List.getElem?_eq_getElem hlt]
 exact h _ (List.getElem_mem hlt)
def X5U:Con:={A:=T8q,shA:=[.one],R:=.bool,shR:=[(false,1)],pre:=fun _ a=>(X2i a),f:=some fun _ a=>((X0B a),((),()))}
def X1i.F(a0:(List U1q)):Prop:=(X02 (decide ((ln a0)>(5:Int))) (Eq (false,((),())) ((X0B a0),((),()))) (eS [(0,.val false [.lst T2q a0 none])] [(0,.val false [.lst T2q a0 none])]∧((srI a0 0)∧∀(y1:Int),(srI a0 y1)→(X02 (decide (y1<(ln a0))) (0≤y1∧(y1<(ln a0)∧((XmI ((List.getD a0 (tN y1) ([],[])).1))∧∀r2,(Eq r2 ((X9f ((List.getD a0 (tN y1) ([],[])).1)),((),())))→(X02 (!r2.1) (Eq (false,((),())) ((X0B a0),((),()))) (X02 (decide (y1>(0:Int))) (0≤(wI (y1 - (1:Int)))∧((wI (y1 - (1:Int)))<(ln a0)∧(0≤y1∧(y1<(ln a0)∧(X02 (!Op.bytesLess ((List.getD a0 (tN (wI (y1 - (1:Int)))) ([],[])).1) ((List.getD a0 (tN y1) ([],[])).1)) (Eq (false,((),())) ((X0B a0),((),()))) (0≤y1∧(y1<(ln a0)∧(X02 ((ln ((List.getD a0 (tN y1) ([],[])).2))==(0:Int)) (Eq (false,((),())) ((X0B a0),((),()))) (0≤y1∧(y1<(ln a0)∧(True∧∀r3,(Eq r3 ((X0F ((List.getD a0 (tN y1) ([],[])).2)),((),())))→(X02 (!r3.1) (Eq (false,((),())) ((X0B a0),((),()))) (eS [(0,.val false [.lst T2q a0 none])] [(0,.val false [.lst T2q a0 none])]∧(srI a0 (wI (y1+(1:Int))))∧(srM a0 (wI (y1+(1:Int))))<(srM a0 y1)))))))))))))) (0≤y1∧(y1<(ln a0)∧(X02 ((ln ((List.getD a0 (tN y1) ([],[])).2))==(0:Int)) (Eq (false,((),())) ((X0B a0),((),()))) (0≤y1∧(y1<(ln a0)∧(True∧∀r4,(Eq r4 ((X0F ((List.getD a0 (tN y1) ([],[])).2)),((),())))→(X02 (!r4.1) (Eq (false,((),())) ((X0B a0),((),()))) (eS [(0,.val false [.lst T2q a0 none])] [(0,.val false [.lst T2q a0 none])]∧(srI a0 (wI (y1+(1:Int))))∧(srM a0 (wI (y1+(1:Int))))<(srM a0 y1)))))))))))))) (Eq (true,((),())) ((X0B a0),((),())))))))
def X1i.L(a0:(List U1q)):Nat→Option X0c:=fun p=>Go.Proofs.YtcfaphojdacmbaaGreatR.Bv.look p [(58,{kp:={hold:=[0],slots:=[3],boxes:=[],rows:=[]},T:=(.int .i64),I:=fun st y=>srI a0 y,μ:=fun st y=>srM a0 y})]
theorem X1i.pure(a0:(List U1q))(h:(X2i a0))(hw:Wf X5U.A a0):X1i.F a0:=by
 delta X1i.F ln tN wI eS
 have hw1:a0.length≤maxLen:=hw.1
 unfold maxLen at hw1
 simp only[forall_eq,true_and,and_true,X01,Prod.mk.injEq,decide_eq_true_eq,decide_eq_false_iff_not,Bool.not_eq_true',Bool.not_eq_false']
 refine⟨fun h1=>?_,fun h1=>⟨⟨by omega,by omega,fun j hj=>absurd hj (by simp)⟩,?_⟩⟩
 · have:¬a0.length≤5:=by omega
   simp[X0B,this]
 rintro i ⟨h2,h3,h4⟩
 have fin:¬i<(a0.length:Int)→true=X0B a0:=fun hi=>by
  have:Xeu (XhL a0) a0.length=true:=X9l fun j hj=>h4 j (by omega)
  have h60:a0.length≤5:=by omega
  simp[X0B,this,h60]
 refine⟨?_,fin⟩
 intro hi
 have e2:IntKind.wrap .i64 (i+1)=i+1:=Go.IntWalk.i64_in _ (by omega)
 have e1:IntKind.wrap .i64 (i - 1)=i - 1:=Go.IntWalk.i64_in _ (by omega)
 have e3:(i - 1).toNat=i.toNat - 1:=by omega
 rw[e1,e2,e3]
 have no:XhL a0 i.toNat=false→false=X0B a0:=fun hp=>Xol (by omega) hp
 have yes:XhL a0 i.toNat=true→srI a0 (i+1)∧srM a0 (i+1)<srM a0 i:=fun hp=>⟨⟨by omega,by omega,X9R h2 h4 hp⟩,by unfold srM;omega⟩
 have hk:=Xmp h h2 hi
 generalize hx:a0.getD i.toNat ([],[])=x at*
 generalize hy:a0.getD (i.toNat - 1) ([],[])=y at*
 have hsr:XhL a0 i.toNat=(X9f x.1&&((decide (i.toNat=0)||Op.bytesLess y.1 x.1)&&(decide (x.2.length≠0)&&X0F x.2))):=by unfold XhL;rw[hx,hy]
 refine⟨h2,hi,hk,fun t1=>no (by rw[hsr,t1];rfl),fun t1=>⟨fun hp=>⟨by omega,by omega,h2,hi,fun t2=>no ?_,fun t2=>⟨h2,hi,fun t3=>no ?_,fun t3=>⟨h2,hi,fun t4=>no ?_,fun t4=>yes ?_⟩⟩⟩,fun hp=>⟨h2,hi,fun t3=>no ?_,fun t3=>⟨h2,hi,fun t4=>no ?_,fun t4=>yes ?_⟩⟩⟩⟩
 · rw[hsr,t1,decide_eq_false (by omega),t2];rfl
 · rw[hsr,decide_eq_false (p:=x.2.length≠0) (by simp at t3;simp[t3])];simp
 · rw[hsr,t4];simp
 · have t5:x.2.length≠0:=by simp at t3;simpa using t3
   rw[hsr,t1,t2,t4,decide_eq_true t5];simp
 · rw[hsr,decide_eq_false (p:=x.2.length≠0) (by simp at t3;simp[t3])];simp
 · rw[hsr,t4];simp
 · have t5:x.2.length≠0:=by simp at t3;simpa using t3
   rw[hsr,t1,t4,decide_eq_true t5,decide_eq_true (by omega:i.toNat=0)];simp
theorem X1i.eq:EqS X5U Tryz.f104 [4] [X1k.e,X31.e] [] (fun i x=>X1i.L x) (fun i x=>X1i.F x):=by intro i x;kernel_rfl
theorem X1i.ok:X0n Tryz.prog 104 X5U:=X2j X1i.eq Tryz.func104 rfl (by kernel_rfl) fun i x h hi hw=>X1i.pure x h hw
def X1i.e:GE:=⟨104,X5U,⟨_,Tryz.func104,rfl,rfl⟩,X1i.ok⟩
def X6d:Con:={A:=T8q,shA:=[.one],R:=.bool,shR:=[(false,1)],pre:=fun _ a=>(X2i a),f:=some fun _ a=>((X0B a),((),()))}
def X1D.F(a0:(List U1q)):Prop:=(eS [(0,.val false [.lst T2q a0 none]),(5,.val false [.lst T2q a0 none]),(6,.val false [.int .i64 (ln a0)])] [(0,.val false [.lst T2q a0 none]),(5,.val false [.lst T2q a0 none]),(6,.val false [.int .i64 (ln a0)])]∧((srI a0 0)∧∀(y1:Int),(srI a0 y1)→(X02 (decide (y1<(ln a0))) (0≤y1∧(y1<(ln a0)∧((XmI ((List.getD a0 (tN y1) ([],[])).1))∧∀r2,(Eq r2 ((X9f ((List.getD a0 (tN y1) ([],[])).1)),((),())))→(X02 (!r2.1) (Eq (false,((),())) ((X0B a0),((),()))) (True∧∀r3,(Eq r3 ((X0F ((List.getD a0 (tN y1) ([],[])).2)),((),())))→(X02 (!r3.1) (Eq (false,((),())) ((X0B a0),((),()))) (X02 ((ln ((List.getD a0 (tN y1) ([],[])).2))==(0:Int)) (Eq (false,((),())) ((X0B a0),((),()))) (X02 (decide (y1>(0:Int))) (0≤(wI (y1 - (1:Int)))∧((wI (y1 - (1:Int)))<(ln a0)∧(X02 (!Op.bytesLess ((List.getD a0 (tN (wI (y1 - (1:Int)))) ([],[])).1) ((List.getD a0 (tN y1) ([],[])).1)) (Eq (false,((),())) ((X0B a0),((),()))) (eS [(0,.val false [.lst T2q a0 none]),(5,.val false [.lst T2q a0 none]),(6,.val false [.int .i64 (ln a0)])] [(0,.val false [.lst T2q a0 none]),(5,.val false [.lst T2q a0 none]),(6,.val false [.int .i64 (ln a0)])]∧(srI a0 (wI (y1+(1:Int))))∧(srM a0 (wI (y1+(1:Int))))<(srM a0 y1))))) (eS [(0,.val false [.lst T2q a0 none]),(5,.val false [.lst T2q a0 none]),(6,.val false [.int .i64 (ln a0)])] [(0,.val false [.lst T2q a0 none]),(5,.val false [.lst T2q a0 none]),(6,.val false [.int .i64 (ln a0)])]∧(srI a0 (wI (y1+(1:Int))))∧(srM a0 (wI (y1+(1:Int))))<(srM a0 y1)))))))))) (Eq ((decide ((ln a0)≤(5:Int))),((),())) ((X0B a0),((),()))))))
def X1D.L(a0:(List U1q)):Nat→Option X0c:=fun p=>Go.Proofs.YtcfaphojdacmbaaGreatR.Bv.look p [(26,{kp:={hold:=[0,5,6],slots:=[7],boxes:=[],rows:=[]},T:=(.int .i64),I:=fun st y=>srI a0 y,μ:=fun st y=>srM a0 y})]
theorem X1D.pure(a0:(List U1q))(h:(X2i a0))(hw:Wf X6d.A a0):X1D.F a0:=by
 delta X1D.F ln tN wI eS
 have hw1:a0.length≤maxLen:=hw.1
 unfold maxLen at hw1
 simp only[forall_eq,true_and,and_true,X01,Prod.mk.injEq,decide_eq_true_eq,decide_eq_false_iff_not,Bool.not_eq_true',Bool.not_eq_false']
 refine⟨⟨by omega,by omega,fun j hj=>absurd hj (by simp)⟩,?_⟩
 rintro i ⟨h2,h3,h4⟩
 have fin:¬i<(a0.length:Int)→decide ((a0.length:Int)≤5)=X0B a0:=fun hi=>by
  have:Xeu (XhL a0) a0.length=true:=X9l fun j hj=>h4 j (by omega)
  simp[X0B,this];omega
 refine⟨?_,fin⟩
 intro hi
 have e2:IntKind.wrap .i64 (i+1)=i+1:=Go.IntWalk.i64_in _ (by omega)
 have e1:IntKind.wrap .i64 (i - 1)=i - 1:=Go.IntWalk.i64_in _ (by omega)
 have e3:(i - 1).toNat=i.toNat - 1:=by omega
 rw[e1,e2,e3]
 have no:XhL a0 i.toNat=false→false=X0B a0:=fun hp=>Xol (by omega) hp
 have yes:XhL a0 i.toNat=true→srI a0 (i+1)∧srM a0 (i+1)<srM a0 i:=fun hp=>⟨⟨by omega,by omega,X9R h2 h4 hp⟩,by unfold srM;omega⟩
 have hk:=Xmp h h2 hi
 generalize hx:a0.getD i.toNat ([],[])=x at*
 generalize hy:a0.getD (i.toNat - 1) ([],[])=y at*
 have hsr:XhL a0 i.toNat=(X9f x.1&&((decide (i.toNat=0)||Op.bytesLess y.1 x.1)&&(decide (x.2.length≠0)&&X0F x.2))):=by unfold XhL;rw[hx,hy]
 refine⟨h2,hi,hk,fun t1=>no (by rw[hsr,t1];rfl),fun t1=>⟨fun t4=>no ?_,fun t4=>⟨fun t3=>no ?_,fun t3=>⟨fun hp=>⟨by omega,by omega,fun t2=>no ?_,fun t2=>yes ?_⟩,fun hp=>yes ?_⟩⟩⟩⟩
 · rw[hsr,t4];simp
 · rw[hsr,decide_eq_false (p:=x.2.length≠0) (by simp at t3;simp[t3])];simp
 · rw[hsr,t1,decide_eq_false (by omega),t2];rfl
 · have t5:x.2.length≠0:=by simp at t3;simpa using t3
   rw[hsr,t1,t2,t4,decide_eq_true t5];simp
 · have t5:x.2.length≠0:=by simp at t3;simpa using t3
   rw[hsr,t1,t4,decide_eq_true t5,decide_eq_true (by omega:i.toNat=0)];simp
theorem X1D.eq:EqS X6d Tryz.f91 [4] [X3g.e,X1G.e] [] (fun i x=>X1D.L x) (fun i x=>X1D.F x):=by intro i x;kernel_rfl
theorem X1D.ok:X0n Tryz.prog 91 X6d:=X2j X1D.eq Tryz.func91 rfl (by kernel_rfl) fun i x h hi hw=>X1D.pure x h hw
def X1D.e:GE:=⟨91,X6d,⟨_,Tryz.func91,rfl,rfl⟩,X1D.ok⟩
end Go.Proofs.YtcfaphojdacmbaaGreatR.B
