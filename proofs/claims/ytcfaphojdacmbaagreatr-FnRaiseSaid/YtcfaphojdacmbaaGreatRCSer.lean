/- Series of points:are they right? -/
import Derived.Test.YtcfaphojdacmbaaGreatRCCover
set_option maxRecDepth 100000
set_option linter.unusedVariables false
set_option linter.unusedSimpArgs false
namespace Go.Proofs.YtcfaphojdacmbaaGreatR.B
open Go Go.Proofs.YtcfaphojdacmbaaGreatR.Bv
abbrev Pt:=Int×Int
abbrev Ser:=List UInt8×List (Int×Int)
def Xiv(a:Int):Bool:=fIn a 0 1099511627776
def Xdv(p:Nat→Bool)(n:Nat):Bool:=(List.range n).all p
theorem X9B{p:Nat→Bool}{n:Nat}(h:∀j,j<n→p j=true):Xdv p n=true:=by
 simp only[Xdv,List.all_eq_true,List.mem_range];exact h
theorem XmR{p:Nat→Bool}{n j:Nat}(h:j<n)(hp:p j=false):Xdv p n=false:=by
 cases e:Xdv p n with
 | false=>rfl
 | true=>
   simp only[Xdv,List.all_eq_true,List.mem_range]at e
   rw[e j h]at hp;cases hp
theorem Xao{p:Nat→Bool}{i:Int}(h0:0≤i)(h:∀j,j<i.toNat→p j=true)(hp:p i.toNat=true):∀j,j<(i+1).toNat→p j=true:=fun j hj=>by
 by_cases e:j=i.toNat
 · rw[e];exact hp
 · exact h j (by omega)
def XcD(l:List Pt)(i:Nat):Bool:=fIn (l.getD i (0,0)).1 0 1099511627776&&(fIn (l.getD i (0,0)).2 (-1099511627776) 1099511627776&&(decide (i=0)||decide ((l.getD (i - 1) (0,0)).1<(l.getD i (0,0)).1)))
def X0x(l:List Pt):Bool:=decide (l.length≤60)&&Xdv (XcD l) l.length
def ptI(l:List Pt)(i:Int):Prop:=0≤i∧i≤l.length∧∀j,j<i.toNat→XcD l j=true
def ptM(l:List Pt)(i:Int):Nat:=(l.length - i).toNat
theorem XoO{l:List Pt}{j:Nat}(h:j<l.length)(hp:XcD l j=false):false=X0x l:=by simp[X0x,XmR h hp]
def Xkk(s:List UInt8)(i:Nat):Bool:=decide ((97:Int)≤((s.getD i 0).toNat:Int))&&decide (((s.getD i 0).toNat:Int)≤122)
def X7L(s:List UInt8):Bool:=fIn s.length 1 8&&Xdv (Xkk s) s.length
def chI(s:List UInt8)(i:Int):Prop:=0≤i∧i≤s.length∧∀j,j<i.toNat→Xkk s j=true
def chM(s:List UInt8)(i:Int):Nat:=(s.length - i).toNat
theorem XoS{s:List UInt8}{j:Nat}(h:j<s.length)(hp:Xkk s j=false):false=X7L s:=by simp[X7L,XmR h hp]
def Xhn(l:List Ser)(i:Nat):Bool:=X7L (l.getD i ([],[])).1&&((decide (i=0)||Op.bytesLess (l.getD (i - 1) ([],[])).1 (l.getD i ([],[])).1)&&(decide ((l.getD i ([],[])).2.length≠0)&&X0x (l.getD i ([],[])).2))
def X0y(l:List Ser):Bool:=decide (l.length≤5)&&Xdv (Xhn l) l.length
def srI(l:List Ser)(i:Int):Prop:=0≤i∧i≤l.length∧∀j,j<i.toNat→Xhn l j=true
def srM(l:List Ser)(i:Int):Nat:=(l.length - i).toNat
theorem Xoi{l:List Ser}{j:Nat}(h:j<l.length)(hp:Xhn l j=false):false=X0y l:=by simp[X0y,XmR h hp]
def X6f:Con:={A:=Xar,shA:=[.one],R:=.bool,shR:=[(false,1)],pre:=fun _ _=>True,f:=some fun _ a=>((X0x a),((),()))}
def X13.F(a0:U6q):Prop:=(X00 (decide ((ln a0)>(60:Int))) (Eq (false,((),())) ((X0x a0),((),()))) (eS [(0,.val false [.lst T0q a0 none])] [(0,.val false [.lst T0q a0 none])]∧((ptI a0 0)∧∀(y1:Int),(ptI a0 y1)→(X00 (decide (y1<(ln a0))) (0≤y1∧(y1<(ln a0)∧(True∧∀r2,(Eq r2 ((fIn ((List.getD a0 (tN y1) (0,0)).1) 0 1099511627776),((),())))→(X00 (!r2.1) (Eq (false,((),())) ((X0x a0),((),()))) (0≤y1∧(y1<(ln a0)∧(True∧∀r3,(Eq r3 ((fIn ((List.getD a0 (tN y1) (0,0)).2) (-1099511627776) 1099511627776),((),())))→(X00 (!r3.1) (Eq (false,((),())) ((X0x a0),((),()))) (X00 (decide (y1>(0:Int))) (0≤(wI (y1 - (1:Int)))∧((wI (y1 - (1:Int)))<(ln a0)∧(0≤y1∧(y1<(ln a0)∧(X00 (decide (((List.getD a0 (tN (wI (y1 - (1:Int)))) (0,0)).1)≥((List.getD a0 (tN y1) (0,0)).1))) (Eq (false,((),())) ((X0x a0),((),()))) (eS [(0,.val false [.lst T0q a0 none])] [(0,.val false [.lst T0q a0 none])]∧(ptI a0 (wI (y1+(1:Int))))∧(ptM a0 (wI (y1+(1:Int))))<(ptM a0 y1))))))) (eS [(0,.val false [.lst T0q a0 none])] [(0,.val false [.lst T0q a0 none])]∧(ptI a0 (wI (y1+(1:Int))))∧(ptM a0 (wI (y1+(1:Int))))<(ptM a0 y1))))))))))) (Eq (true,((),())) ((X0x a0),((),())))))))
def X13.L(a0:U6q):Nat→Option X0c:=fun p=>Go.Proofs.YtcfaphojdacmbaaGreatR.Bv.look p [(58,{kp:={hold:=[0],slots:=[3],boxes:=[],rows:=[]},T:=(.int .i64),I:=fun st y=>ptI a0 y,μ:=fun st y=>ptM a0 y})]
theorem X13.pure(a0:U6q)(h:True)(hw:Wf X6f.A a0):X13.F a0:=by
 delta X13.F ln tN wI eS
 have hw1:a0.length≤maxLen:=hw.1
 unfold maxLen at hw1
 simp only[forall_eq,true_and,and_true,X01,Prod.mk.injEq,decide_eq_true_eq,decide_eq_false_iff_not,Bool.not_eq_true',Bool.not_eq_false']
 refine⟨fun h1=>?_,fun h1=>⟨⟨by omega,by omega,fun j hj=>absurd hj (by simp)⟩,?_⟩⟩
 · have:¬a0.length≤60:=by omega
   simp[X0x,this]
 rintro i ⟨h2,h3,h4⟩
 have fin:¬i<(a0.length:Int)→true=X0x a0:=fun hi=>by
  have:Xdv (XcD a0) a0.length=true:=X9B fun j hj=>h4 j (by omega)
  have h60:a0.length≤60:=by omega
  simp[X0x,this,h60]
 refine⟨?_,fin⟩
 intro hi
 have e2:IntKind.wrap .i64 (i+1)=i+1:=Go.IntWalk.i64_in _ (by omega)
 have e1:IntKind.wrap .i64 (i - 1)=i - 1:=Go.IntWalk.i64_in _ (by omega)
 have e3:(i - 1).toNat=i.toNat - 1:=by omega
 rw[e1,e2,e3]
 have no:XcD a0 i.toNat=false→false=X0x a0:=fun hp=>XoO (by omega) hp
 have yes:XcD a0 i.toNat=true→ptI a0 (i+1)∧ptM a0 (i+1)<ptM a0 i:=fun hp=>⟨⟨by omega,by omega,Xao h2 h4 hp⟩,by unfold ptM;omega⟩
 refine⟨h2,hi,fun t1=>no (by unfold XcD;rw[t1];rfl),fun t1=>⟨h2,hi,?_,fun t2=>⟨fun hp=>⟨by omega,by omega,h2,hi,?_,?_⟩,fun hp=>?_⟩⟩⟩
 · intro t2;exact no (by unfold XcD;rw[t1,t2];rfl)
 · intro t3;exact no (by unfold XcD;rw[t1,t2,decide_eq_false (by omega:¬i.toNat=0),decide_eq_false (by omega)];rfl)
 · intro t3;exact yes (by unfold XcD;rw[t1,t2,decide_eq_true (by omega:(a0.getD (i.toNat - 1) (0,0)).1<(a0.getD i.toNat (0,0)).1),Bool.or_true];rfl)
 · exact yes (by unfold XcD;rw[t1,t2,decide_eq_true (by omega:i.toNat=0)];rfl)
theorem X13.eq:EqS X6f Tryz.f95 [4] [X23.e] [] (fun i x=>X13.L x) (fun i x=>X13.F x):=by intro i x;kernel_rfl
theorem X13.ok:X0n Tryz.prog 95 X6f:=X2g X13.eq Tryz.func95 rfl (by kernel_rfl) fun i x h hi hw=>X13.pure x h hw
def X13.e:GE:=⟨95,X6f,⟨_,Tryz.func95,rfl,rfl⟩,X13.ok⟩
def X6c:Con:={A:=Xar,shA:=[.one],R:=.bool,shR:=[(false,1)],pre:=fun _ _=>True,f:=some fun _ a=>((X0x a),((),()))}
def X1o.F(a0:U6q):Prop:=(eS [(0,.val false [.lst T0q a0 none]),(5,.val false [.lst T0q a0 none]),(6,.val false [.int .i64 (ln a0)])] [(0,.val false [.lst T0q a0 none]),(5,.val false [.lst T0q a0 none]),(6,.val false [.int .i64 (ln a0)])]∧((ptI a0 0)∧∀(y1:Int),(ptI a0 y1)→(X00 (decide (y1<(ln a0))) (0≤y1∧(y1<(ln a0)∧(True∧∀r2,(Eq r2 ((fIn ((List.getD a0 (tN y1) (0,0)).1) 0 1099511627776),((),())))→(X00 (!r2.1) (Eq (false,((),())) ((X0x a0),((),()))) (True∧∀r3,(Eq r3 ((fIn ((List.getD a0 (tN y1) (0,0)).2) (-1099511627776) 1099511627776),((),())))→(X00 (!r3.1) (Eq (false,((),())) ((X0x a0),((),()))) (X00 (decide (y1>(0:Int))) (0≤(wI (y1 - (1:Int)))∧((wI (y1 - (1:Int)))<(ln a0)∧(X00 (decide (((List.getD a0 (tN (wI (y1 - (1:Int)))) (0,0)).1)≥((List.getD a0 (tN y1) (0,0)).1))) (Eq (false,((),())) ((X0x a0),((),()))) (eS [(0,.val false [.lst T0q a0 none]),(5,.val false [.lst T0q a0 none]),(6,.val false [.int .i64 (ln a0)])] [(0,.val false [.lst T0q a0 none]),(5,.val false [.lst T0q a0 none]),(6,.val false [.int .i64 (ln a0)])]∧(ptI a0 (wI (y1+(1:Int))))∧(ptM a0 (wI (y1+(1:Int))))<(ptM a0 y1))))) (eS [(0,.val false [.lst T0q a0 none]),(5,.val false [.lst T0q a0 none]),(6,.val false [.int .i64 (ln a0)])] [(0,.val false [.lst T0q a0 none]),(5,.val false [.lst T0q a0 none]),(6,.val false [.int .i64 (ln a0)])]∧(ptI a0 (wI (y1+(1:Int))))∧(ptM a0 (wI (y1+(1:Int))))<(ptM a0 y1))))))))) (Eq ((decide ((ln a0)≤(60:Int))),((),())) ((X0x a0),((),()))))))
def X1o.L(a0:U6q):Nat→Option X0c:=fun p=>Go.Proofs.YtcfaphojdacmbaaGreatR.Bv.look p [(26,{kp:={hold:=[0,5,6],slots:=[7],boxes:=[],rows:=[]},T:=(.int .i64),I:=fun st y=>ptI a0 y,μ:=fun st y=>ptM a0 y})]
theorem X1o.pure(a0:U6q)(h:True)(hw:Wf X6c.A a0):X1o.F a0:=by
 delta X1o.F ln tN wI eS
 have hw1:a0.length≤maxLen:=hw.1
 unfold maxLen at hw1
 simp only[forall_eq,true_and,and_true,X01,Prod.mk.injEq,decide_eq_true_eq,decide_eq_false_iff_not,Bool.not_eq_true',Bool.not_eq_false']
 refine⟨⟨by omega,by omega,fun j hj=>absurd hj (by simp)⟩,?_⟩
 rintro i ⟨h2,h3,h4⟩
 have fin:¬i<(a0.length:Int)→decide ((a0.length:Int)≤60)=X0x a0:=fun hi=>by
  have:Xdv (XcD a0) a0.length=true:=X9B fun j hj=>h4 j (by omega)
  simp[X0x,this];omega
 refine⟨?_,fin⟩
 intro hi
 have e2:IntKind.wrap .i64 (i+1)=i+1:=Go.IntWalk.i64_in _ (by omega)
 have e1:IntKind.wrap .i64 (i - 1)=i - 1:=Go.IntWalk.i64_in _ (by omega)
 have e3:(i - 1).toNat=i.toNat - 1:=by omega
 rw[e1,e2,e3]
 have no:XcD a0 i.toNat=false→false=X0x a0:=fun hp=>XoO (by omega) hp
 have yes:XcD a0 i.toNat=true→ptI a0 (i+1)∧ptM a0 (i+1)<ptM a0 i:=fun hp=>⟨⟨by omega,by omega,Xao h2 h4 hp⟩,by unfold ptM;omega⟩
 refine⟨h2,hi,fun t1=>no (by unfold XcD;rw[t1];rfl),fun t1=>⟨?_,fun t2=>⟨fun hp=>⟨by omega,by omega,?_,?_⟩,fun hp=>?_⟩⟩⟩
 · intro t2;exact no (by unfold XcD;rw[t1,t2];rfl)
 · intro t3;exact no (by unfold XcD;rw[t1,t2,decide_eq_false (by omega:¬i.toNat=0),decide_eq_false (by omega)];rfl)
 · intro t3;exact yes (by unfold XcD;rw[t1,t2,decide_eq_true (by omega:(a0.getD (i.toNat - 1) (0,0)).1<(a0.getD i.toNat (0,0)).1),Bool.or_true];rfl)
 · exact yes (by unfold XcD;rw[t1,t2,decide_eq_true (by omega:i.toNat=0)];rfl)
theorem X1o.eq:EqS X6c Tryz.f90 [4] [X1D.e] [] (fun i x=>X1o.L x) (fun i x=>X1o.F x):=by intro i x;kernel_rfl
theorem X1o.ok:X0n Tryz.prog 90 X6c:=X2g X1o.eq Tryz.func90 rfl (by kernel_rfl) fun i x h hi hw=>X1o.pure x h hw
def X1o.e:GE:=⟨90,X6c,⟨_,Tryz.func90,rfl,rfl⟩,X1o.ok⟩
def Xiy(s:List UInt8):Prop:=s.length≤maxLen
def X84:Con:={A:=.str,shA:=[.one],R:=.bool,shR:=[(false,1)],pre:=fun _ a=>(Xiy a),f:=some fun _ a=>((X7L a),((),()))}
def X37.F(a0:U5q):Prop:=(True∧∀r1,(Eq r1 ((fIn (ln a0) 1 8),((),())))→(X00 (!r1.1) (Eq (false,((),())) ((X7L a0),((),()))) (eS [(0,.val false [.str a0])] [(0,.val false [.str a0])]∧((chI a0 0)∧∀(y2:Int),(chI a0 y2)→(X00 (decide (y2<(ln a0))) (0≤y2∧(y2<(ln a0)∧(X00 (decide (((UInt8.toNat (List.getD a0 (tN y2) 0):Nat):Int)<(97:Int))) (Eq (false,((),())) ((X7L a0),((),()))) (0≤y2∧(y2<(ln a0)∧(X00 (decide (((UInt8.toNat (List.getD a0 (tN y2) 0):Nat):Int)>(122:Int))) (Eq (false,((),())) ((X7L a0),((),()))) (eS [(0,.val false [.str a0])] [(0,.val false [.str a0])]∧(chI a0 (wI (y2+(1:Int))))∧(chM a0 (wI (y2+(1:Int))))<(chM a0 y2)))))))) (Eq (true,((),())) ((X7L a0),((),()))))))))
def X37.L(a0:U5q):Nat→Option X0c:=fun p=>Go.Proofs.YtcfaphojdacmbaaGreatR.Bv.look p [(58,{kp:={hold:=[0],slots:=[3],boxes:=[],rows:=[]},T:=(.int .i64),I:=fun st y=>chI a0 y,μ:=fun st y=>chM a0 y})]
theorem X37.pure(a0:U5q)(h:(Xiy a0))(hw:Wf X84.A a0):X37.F a0:=by
 delta X37.F ln tN wI eS
 have hw1:a0.length≤maxLen:=h
 unfold maxLen at hw1
 simp only[forall_eq,true_and,and_true,X01,Prod.mk.injEq,decide_eq_true_eq,decide_eq_false_iff_not,Bool.not_eq_true',Bool.not_eq_false']
 refine⟨fun h1=>by simp[X7L,h1],fun h1=>⟨⟨by omega,by omega,fun j hj=>absurd hj (by simp)⟩,?_⟩⟩
 have hin:¬(a0.length:Int)>8:=by
  simp only[fIn,Bool.and_eq_true,decide_eq_true_eq]at h1;omega
 rintro i ⟨h2,h3,h4⟩
 have fin:¬i<(a0.length:Int)→true=X7L a0:=fun hi=>by
  have:Xdv (Xkk a0) a0.length=true:=X9B fun j hj=>h4 j (by omega)
  simp[X7L,this,h1]
 refine⟨?_,fin⟩
 intro hi
 have e2:IntKind.wrap .i64 (i+1)=i+1:=Go.IntWalk.i64_in _ (by omega)
 rw[e2]
 have no:Xkk a0 i.toNat=false→false=X7L a0:=fun hp=>XoS (by omega) hp
 refine⟨h2,hi,fun t1=>no (by unfold Xkk;rw[decide_eq_false (by omega)];rfl),fun t1=>⟨h2,hi,fun t2=>no (by unfold Xkk;rw[decide_eq_false (p:=_≤(122:Int)) (by omega),Bool.and_false]),fun t2=>?_⟩⟩
 exact⟨⟨by omega,by omega,Xao h2 h4 (by unfold Xkk;rw[decide_eq_true (by omega),decide_eq_true (by omega)];rfl)⟩,by unfold chM;omega⟩
theorem X37.eq:EqS X84 Tryz.f178 [4] [X23.e] [] (fun i x=>X37.L x) (fun i x=>X37.F x):=by intro i x;kernel_rfl
theorem X37.ok:X0n Tryz.prog 178 X84:=X2g X37.eq Tryz.func178 rfl (by kernel_rfl) fun i x h hi hw=>X37.pure x h hw
def X37.e:GE:=⟨178,X84,⟨_,Tryz.func178,rfl,rfl⟩,X37.ok⟩
def X7P:Con:={A:=.str,shA:=[.one],R:=.bool,shR:=[(false,1)],pre:=fun _ a=>(Xiy a),f:=some fun _ a=>((X7L a),((),()))}
def X34.F(a0:U5q):Prop:=(eS [(0,.val false [.str a0]),(5,.val false [.int .i64 (ln a0)])] [(0,.val false [.str a0]),(5,.val false [.int .i64 (ln a0)])]∧((chI a0 0)∧∀(y1:Int),(chI a0 y1)→(X00 (decide (y1<(ln a0))) (0≤y1∧(y1<(ln a0)∧(X00 (decide (((UInt8.toNat (List.getD a0 (tN y1) 0):Nat):Int)<(97:Int))) (Eq (false,((),())) ((X7L a0),((),()))) (0≤y1∧(y1<(ln a0)∧(X00 (decide (((UInt8.toNat (List.getD a0 (tN y1) 0):Nat):Int)>(122:Int))) (Eq (false,((),())) ((X7L a0),((),()))) (eS [(0,.val false [.str a0]),(5,.val false [.int .i64 (ln a0)])] [(0,.val false [.str a0]),(5,.val false [.int .i64 (ln a0)])]∧(chI a0 (wI (y1+(1:Int))))∧(chM a0 (wI (y1+(1:Int))))<(chM a0 y1)))))))) (True∧∀r2,(Eq r2 ((fIn (ln a0) 1 8),((),())))→(Eq (r2.1,((),())) ((X7L a0),((),())))))))
def X34.L(a0:U5q):Nat→Option X0c:=fun p=>Go.Proofs.YtcfaphojdacmbaaGreatR.Bv.look p [(26,{kp:={hold:=[0,5],slots:=[6],boxes:=[],rows:=[]},T:=(.int .i64),I:=fun st y=>chI a0 y,μ:=fun st y=>chM a0 y})]
theorem X34.pure(a0:U5q)(h:(Xiy a0))(hw:Wf X7P.A a0):X34.F a0:=by
 delta X34.F ln tN wI eS
 have hw1:a0.length≤maxLen:=h
 unfold maxLen at hw1
 simp only[forall_eq,true_and,and_true,X01,Prod.mk.injEq,decide_eq_true_eq,decide_eq_false_iff_not,Bool.not_eq_true',Bool.not_eq_false']
 refine⟨⟨by omega,by omega,fun j hj=>absurd hj (by simp)⟩,?_⟩
 rintro i ⟨h2,h3,h4⟩
 have fin:¬i<(a0.length:Int)→fIn (a0.length:Int) 1 8=X7L a0:=fun hi=>by
  have:Xdv (Xkk a0) a0.length=true:=X9B fun j hj=>h4 j (by omega)
  simp[X7L,this]
 refine⟨?_,fin⟩
 intro hi
 have e2:IntKind.wrap .i64 (i+1)=i+1:=Go.IntWalk.i64_in _ (by omega)
 rw[e2]
 have no:Xkk a0 i.toNat=false→false=X7L a0:=fun hp=>XoS (by omega) hp
 refine⟨h2,hi,fun t1=>no (by unfold Xkk;rw[decide_eq_false (by omega)];rfl),fun t1=>⟨h2,hi,fun t2=>no (by unfold Xkk;rw[decide_eq_false (p:=_≤(122:Int)) (by omega),Bool.and_false]),fun t2=>?_⟩⟩
 exact⟨⟨by omega,by omega,Xao h2 h4 (by unfold Xkk;rw[decide_eq_true (by omega),decide_eq_true (by omega)];rfl)⟩,by unfold chM;omega⟩
theorem X34.eq:EqS X7P Tryz.f89 [4] [X1D.e] [] (fun i x=>X34.L x) (fun i x=>X34.F x):=by intro i x;kernel_rfl
theorem X34.ok:X0n Tryz.prog 89 X7P:=X2g X34.eq Tryz.func89 rfl (by kernel_rfl) fun i x h hi hw=>X34.pure x h hw
def X34.e:GE:=⟨89,X7P,⟨_,Tryz.func89,rfl,rfl⟩,X34.ok⟩
def X21(l:List Ser):Prop:=∀s∈l,s.1.length≤maxLen
theorem XlW{l:List Ser}(h:X21 l){i:Int}(h0:0≤i)(hi:i<l.length):Xiy (l.getD i.toNat ([],[])).1:=by
 have hlt:i.toNat<l.length:=by omega
 rw[List.getD_eq_getElem?_getD,List.getElem?_eq_getElem hlt]
 exact h _ (List.getElem_mem hlt)
def X5Z:Con:={A:=T8q,shA:=[.one],R:=.bool,shR:=[(false,1)],pre:=fun _ a=>(X21 a),f:=some fun _ a=>((X0y a),((),()))}
def X1p.F(a0:(List U1q)):Prop:=(X00 (decide ((ln a0)>(5:Int))) (Eq (false,((),())) ((X0y a0),((),()))) (eS [(0,.val false [.lst T2q a0 none])] [(0,.val false [.lst T2q a0 none])]∧((srI a0 0)∧∀(y1:Int),(srI a0 y1)→(X00 (decide (y1<(ln a0))) (0≤y1∧(y1<(ln a0)∧((Xiy ((List.getD a0 (tN y1) ([],[])).1))∧∀r2,(Eq r2 ((X7L ((List.getD a0 (tN y1) ([],[])).1)),((),())))→(X00 (!r2.1) (Eq (false,((),())) ((X0y a0),((),()))) (X00 (decide (y1>(0:Int))) (0≤(wI (y1 - (1:Int)))∧((wI (y1 - (1:Int)))<(ln a0)∧(0≤y1∧(y1<(ln a0)∧(X00 (!Op.bytesLess ((List.getD a0 (tN (wI (y1 - (1:Int)))) ([],[])).1) ((List.getD a0 (tN y1) ([],[])).1)) (Eq (false,((),())) ((X0y a0),((),()))) (0≤y1∧(y1<(ln a0)∧(X00 ((ln ((List.getD a0 (tN y1) ([],[])).2))==(0:Int)) (Eq (false,((),())) ((X0y a0),((),()))) (0≤y1∧(y1<(ln a0)∧(True∧∀r3,(Eq r3 ((X0x ((List.getD a0 (tN y1) ([],[])).2)),((),())))→(X00 (!r3.1) (Eq (false,((),())) ((X0y a0),((),()))) (eS [(0,.val false [.lst T2q a0 none])] [(0,.val false [.lst T2q a0 none])]∧(srI a0 (wI (y1+(1:Int))))∧(srM a0 (wI (y1+(1:Int))))<(srM a0 y1)))))))))))))) (0≤y1∧(y1<(ln a0)∧(X00 ((ln ((List.getD a0 (tN y1) ([],[])).2))==(0:Int)) (Eq (false,((),())) ((X0y a0),((),()))) (0≤y1∧(y1<(ln a0)∧(True∧∀r4,(Eq r4 ((X0x ((List.getD a0 (tN y1) ([],[])).2)),((),())))→(X00 (!r4.1) (Eq (false,((),())) ((X0y a0),((),()))) (eS [(0,.val false [.lst T2q a0 none])] [(0,.val false [.lst T2q a0 none])]∧(srI a0 (wI (y1+(1:Int))))∧(srM a0 (wI (y1+(1:Int))))<(srM a0 y1)))))))))))))) (Eq (true,((),())) ((X0y a0),((),())))))))
def X1p.L(a0:(List U1q)):Nat→Option X0c:=fun p=>Go.Proofs.YtcfaphojdacmbaaGreatR.Bv.look p [(58,{kp:={hold:=[0],slots:=[3],boxes:=[],rows:=[]},T:=(.int .i64),I:=fun st y=>srI a0 y,μ:=fun st y=>srM a0 y})]
theorem X1p.pure(a0:(List U1q))(h:(X21 a0))(hw:Wf X5Z.A a0):X1p.F a0:=by
 delta X1p.F ln tN wI eS
 have hw1:a0.length≤maxLen:=hw.1
 unfold maxLen at hw1
 simp only[forall_eq,true_and,and_true,X01,Prod.mk.injEq,decide_eq_true_eq,decide_eq_false_iff_not,Bool.not_eq_true',Bool.not_eq_false']
 refine⟨fun h1=>?_,fun h1=>⟨⟨by omega,by omega,fun j hj=>absurd hj (by simp)⟩,?_⟩⟩
 · have:¬a0.length≤5:=by omega
   simp[X0y,this]
 rintro i ⟨h2,h3,h4⟩
 have fin:¬i<(a0.length:Int)→true=X0y a0:=fun hi=>by
  have:Xdv (Xhn a0) a0.length=true:=X9B fun j hj=>h4 j (by omega)
  have h60:a0.length≤5:=by omega
  simp[X0y,this,h60]
 refine⟨?_,fin⟩
 intro hi
 have e2:IntKind.wrap .i64 (i+1)=i+1:=Go.IntWalk.i64_in _ (by omega)
 have e1:IntKind.wrap .i64 (i - 1)=i - 1:=Go.IntWalk.i64_in _ (by omega)
 have e3:(i - 1).toNat=i.toNat - 1:=by omega
 rw[e1,e2,e3]
 have no:Xhn a0 i.toNat=false→false=X0y a0:=fun hp=>Xoi (by omega) hp
 have yes:Xhn a0 i.toNat=true→srI a0 (i+1)∧srM a0 (i+1)<srM a0 i:=fun hp=>⟨⟨by omega,by omega,Xao h2 h4 hp⟩,by unfold srM;omega⟩
 have hk:=XlW h h2 hi
 generalize hx:a0.getD i.toNat ([],[])=x at*
 generalize hy:a0.getD (i.toNat - 1) ([],[])=y at*
 have hsr:Xhn a0 i.toNat=(X7L x.1&&((decide (i.toNat=0)||Op.bytesLess y.1 x.1)&&(decide (x.2.length≠0)&&X0x x.2))):=by unfold Xhn;rw[hx,hy]
 refine⟨h2,hi,hk,fun t1=>no (by rw[hsr,t1];rfl),fun t1=>⟨fun hp=>⟨by omega,by omega,h2,hi,fun t2=>no ?_,fun t2=>⟨h2,hi,fun t3=>no ?_,fun t3=>⟨h2,hi,fun t4=>no ?_,fun t4=>yes ?_⟩⟩⟩,fun hp=>⟨h2,hi,fun t3=>no ?_,fun t3=>⟨h2,hi,fun t4=>no ?_,fun t4=>yes ?_⟩⟩⟩⟩
 · rw[hsr,t1,decide_eq_false (by omega),t2];rfl
 · rw[hsr,decide_eq_false (p:=x.2.length≠0) (by simp at t3;simp[t3])];simp
 · rw[hsr,t4];simp
 · have t5:x.2.length≠0:=by simp at t3;simpa using t3
   rw[hsr,t1,t2,t4,decide_eq_true t5];simp
 · rw[hsr,decide_eq_false (p:=x.2.length≠0) (by simp at t3;simp[t3])];simp
 · rw[hsr,t4];simp
 · have t5:x.2.length≠0:=by simp at t3;simpa using t3
   rw[hsr,t1,t4,decide_eq_true t5,decide_eq_true (by omega:i.toNat=0)];simp
theorem X1p.eq:EqS X5Z Tryz.f104 [4] [X13.e,X37.e] [] (fun i x=>X1p.L x) (fun i x=>X1p.F x):=by intro i x;kernel_rfl
theorem X1p.ok:X0n Tryz.prog 104 X5Z:=X2g X1p.eq Tryz.func104 rfl (by kernel_rfl) fun i x h hi hw=>X1p.pure x h hw
def X1p.e:GE:=⟨104,X5Z,⟨_,Tryz.func104,rfl,rfl⟩,X1p.ok⟩
def X5V:Con:={A:=T8q,shA:=[.one],R:=.bool,shR:=[(false,1)],pre:=fun _ a=>(X21 a),f:=some fun _ a=>((X0y a),((),()))}
def X1q.F(a0:(List U1q)):Prop:=(eS [(0,.val false [.lst T2q a0 none]),(5,.val false [.lst T2q a0 none]),(6,.val false [.int .i64 (ln a0)])] [(0,.val false [.lst T2q a0 none]),(5,.val false [.lst T2q a0 none]),(6,.val false [.int .i64 (ln a0)])]∧((srI a0 0)∧∀(y1:Int),(srI a0 y1)→(X00 (decide (y1<(ln a0))) (0≤y1∧(y1<(ln a0)∧((Xiy ((List.getD a0 (tN y1) ([],[])).1))∧∀r2,(Eq r2 ((X7L ((List.getD a0 (tN y1) ([],[])).1)),((),())))→(X00 (!r2.1) (Eq (false,((),())) ((X0y a0),((),()))) (True∧∀r3,(Eq r3 ((X0x ((List.getD a0 (tN y1) ([],[])).2)),((),())))→(X00 (!r3.1) (Eq (false,((),())) ((X0y a0),((),()))) (X00 ((ln ((List.getD a0 (tN y1) ([],[])).2))==(0:Int)) (Eq (false,((),())) ((X0y a0),((),()))) (X00 (decide (y1>(0:Int))) (0≤(wI (y1 - (1:Int)))∧((wI (y1 - (1:Int)))<(ln a0)∧(X00 (!Op.bytesLess ((List.getD a0 (tN (wI (y1 - (1:Int)))) ([],[])).1) ((List.getD a0 (tN y1) ([],[])).1)) (Eq (false,((),())) ((X0y a0),((),()))) (eS [(0,.val false [.lst T2q a0 none]),(5,.val false [.lst T2q a0 none]),(6,.val false [.int .i64 (ln a0)])] [(0,.val false [.lst T2q a0 none]),(5,.val false [.lst T2q a0 none]),(6,.val false [.int .i64 (ln a0)])]∧(srI a0 (wI (y1+(1:Int))))∧(srM a0 (wI (y1+(1:Int))))<(srM a0 y1))))) (eS [(0,.val false [.lst T2q a0 none]),(5,.val false [.lst T2q a0 none]),(6,.val false [.int .i64 (ln a0)])] [(0,.val false [.lst T2q a0 none]),(5,.val false [.lst T2q a0 none]),(6,.val false [.int .i64 (ln a0)])]∧(srI a0 (wI (y1+(1:Int))))∧(srM a0 (wI (y1+(1:Int))))<(srM a0 y1)))))))))) (Eq ((decide ((ln a0)≤(5:Int))),((),())) ((X0y a0),((),()))))))
def X1q.L(a0:(List U1q)):Nat→Option X0c:=fun p=>Go.Proofs.YtcfaphojdacmbaaGreatR.Bv.look p [(26,{kp:={hold:=[0,5,6],slots:=[7],boxes:=[],rows:=[]},T:=(.int .i64),I:=fun st y=>srI a0 y,μ:=fun st y=>srM a0 y})]
theorem X1q.pure(a0:(List U1q))(h:(X21 a0))(hw:Wf X5V.A a0):X1q.F a0:=by
 delta X1q.F ln tN wI eS
 have hw1:a0.length≤maxLen:=hw.1
 unfold maxLen at hw1
 simp only[forall_eq,true_and,and_true,X01,Prod.mk.injEq,decide_eq_true_eq,decide_eq_false_iff_not,Bool.not_eq_true',Bool.not_eq_false']
 refine⟨⟨by omega,by omega,fun j hj=>absurd hj (by simp)⟩,?_⟩
 rintro i ⟨h2,h3,h4⟩
 have fin:¬i<(a0.length:Int)→decide ((a0.length:Int)≤5)=X0y a0:=fun hi=>by
  have:Xdv (Xhn a0) a0.length=true:=X9B fun j hj=>h4 j (by omega)
  simp[X0y,this];omega
 refine⟨?_,fin⟩
 intro hi
 have e2:IntKind.wrap .i64 (i+1)=i+1:=Go.IntWalk.i64_in _ (by omega)
 have e1:IntKind.wrap .i64 (i - 1)=i - 1:=Go.IntWalk.i64_in _ (by omega)
 have e3:(i - 1).toNat=i.toNat - 1:=by omega
 rw[e1,e2,e3]
 have no:Xhn a0 i.toNat=false→false=X0y a0:=fun hp=>Xoi (by omega) hp
 have yes:Xhn a0 i.toNat=true→srI a0 (i+1)∧srM a0 (i+1)<srM a0 i:=fun hp=>⟨⟨by omega,by omega,Xao h2 h4 hp⟩,by unfold srM;omega⟩
 have hk:=XlW h h2 hi
 generalize hx:a0.getD i.toNat ([],[])=x at*
 generalize hy:a0.getD (i.toNat - 1) ([],[])=y at*
 have hsr:Xhn a0 i.toNat=(X7L x.1&&((decide (i.toNat=0)||Op.bytesLess y.1 x.1)&&(decide (x.2.length≠0)&&X0x x.2))):=by unfold Xhn;rw[hx,hy]
 refine⟨h2,hi,hk,fun t1=>no (by rw[hsr,t1];rfl),fun t1=>⟨fun t4=>no ?_,fun t4=>⟨fun t3=>no ?_,fun t3=>⟨fun hp=>⟨by omega,by omega,fun t2=>no ?_,fun t2=>yes ?_⟩,fun hp=>yes ?_⟩⟩⟩⟩
 · rw[hsr,t4];simp
 · rw[hsr,decide_eq_false (p:=x.2.length≠0) (by simp at t3;simp[t3])];simp
 · rw[hsr,t1,decide_eq_false (by omega),t2];rfl
 · have t5:x.2.length≠0:=by simp at t3;simpa using t3
   rw[hsr,t1,t2,t4,decide_eq_true t5];simp
 · have t5:x.2.length≠0:=by simp at t3;simpa using t3
   rw[hsr,t1,t4,decide_eq_true t5,decide_eq_true (by omega:i.toNat=0)];simp
theorem X1q.eq:EqS X5V Tryz.f91 [4] [X34.e,X1o.e] [] (fun i x=>X1q.L x) (fun i x=>X1q.F x):=by intro i x;kernel_rfl
theorem X1q.ok:X0n Tryz.prog 91 X5V:=X2g X1q.eq Tryz.func91 rfl (by kernel_rfl) fun i x h hi hw=>X1q.pure x h hw
def X1q.e:GE:=⟨91,X5V,⟨_,Tryz.func91,rfl,rfl⟩,X1q.ok⟩
end Go.Proofs.YtcfaphojdacmbaaGreatR.B
