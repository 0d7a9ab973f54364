/- Series of points:are they right? -/
import Derived.Test.YtegmokdppbagiaaCCover
set_option maxRecDepth 100000
set_option linter.unusedVariables false
set_option linter.unusedSimpArgs false
namespace Go.Proofs.Ytegmokdppbagiaa.B
open Go Go.Proofs.Ytegmokdppbagiaa.Bv
abbrev Pt:=Int×Int
abbrev Ser:=List UInt8×List (Int×Int)
def Xa7(p:Nat→Bool)(n:Nat):Bool:=(List.range n).all p
theorem X7B{p:Nat→Bool}{n:Nat}(h:∀j,j<n→p j=true):Xa7 p n=true:=by
 simp only[Xa7,List.all_eq_true,List.mem_range];exact h
theorem Xfa{p:Nat→Bool}{n j:Nat}(h:j<n)(hp:p j=false):Xa7 p n=false:=by
 cases e:Xa7 p n with
 | false=>rfl
 | true=>
   simp only[Xa7,List.all_eq_true,List.mem_range]at e
   rw[e j h]at hp;cases hp
theorem X65{p:Nat→Bool}{i:Int}(h0:0≤i)(h:∀j,j<i.toNat→p j=true)(hp:p i.toNat=true):∀j,j<(i+1).toNat→p j=true:=fun j hj=>by
 by_cases e:j=i.toNat
 · rw[e];exact hp
 · exact h j (by omega)
def X8R(l:List Pt)(i:Nat):Bool:=fIn (l.getD i (0,0)).1 0 1099511627776&&(fIn (l.getD i (0,0)).2 (-1099511627776) 1099511627776&&(decide (i=0)||decide ((l.getD (i - 1) (0,0)).1<(l.getD i (0,0)).1)))
def X0N(l:List Pt):Bool:=decide (l.length≤60)&&Xa7 (X8R l) l.length
def ptI(l:List Pt)(i:Int):Prop:=0≤i∧i≤l.length∧∀j,j<i.toNat→X8R l j=true
def ptM(l:List Pt)(i:Int):Nat:=(l.length - i).toNat
theorem Xhe{l:List Pt}{j:Nat}(h:j<l.length)(hp:X8R l j=false):false=X0N l:=by simp[X0N,Xfa h hp]
def Xeq(s:List UInt8)(i:Nat):Bool:=decide ((97:Int)≤((s.getD i 0).toNat:Int))&&decide (((s.getD i 0).toNat:Int)≤122)
def X7V(s:List UInt8):Bool:=fIn s.length 1 8&&Xa7 (Xeq s) s.length
def chI(s:List UInt8)(i:Int):Prop:=0≤i∧i≤s.length∧∀j,j<i.toNat→Xeq s j=true
def chM(s:List UInt8)(i:Int):Nat:=(s.length - i).toNat
theorem Xhm{s:List UInt8}{j:Nat}(h:j<s.length)(hp:Xeq s j=false):false=X7V s:=by simp[X7V,Xfa h hp]
def Xcm(l:List Ser)(i:Nat):Bool:=X7V (l.getD i ([],[])).1&&((decide (i=0)||Op.bytesLess (l.getD (i - 1) ([],[])).1 (l.getD i ([],[])).1)&&(decide ((l.getD i ([],[])).2.length≠0)&&X0N (l.getD i ([],[])).2))
def X0L(l:List Ser):Bool:=decide (l.length≤5)&&Xa7 (Xcm l) l.length
def srI(l:List Ser)(i:Int):Prop:=0≤i∧i≤l.length∧∀j,j<i.toNat→Xcm l j=true
def srM(l:List Ser)(i:Int):Nat:=(l.length - i).toNat
theorem Xhr{l:List Ser}{j:Nat}(h:j<l.length)(hp:Xcm l j=false):false=X0L l:=by simp[X0L,Xfa h hp]
def X39:Con:={A:=(.list T0q),shA:=[.one],R:=.bool,shR:=[(false,1)],pre:=fun _ _=>True,f:=some fun _ a=>((X0N a),((),()))}
def X0V.F(a0:U4q):Prop:=(X04 (decide ((ln a0)>(60:Int))) (Eq (false,((),())) ((X0N a0),((),()))) (eS [(0,.val false [.lst T0q a0 none])] [(0,.val false [.lst T0q a0 none])]∧((ptI a0 0)∧∀(y1:Int),(ptI a0 y1)→(X04 (decide (y1<(ln a0))) (0≤y1∧(y1<(ln a0)∧(True∧∀r2,(Eq r2 ((fIn ((List.getD a0 (tN y1) (0,0)).1) 0 1099511627776),((),())))→(X04 (!r2.1) (Eq (false,((),())) ((X0N a0),((),()))) (0≤y1∧(y1<(ln a0)∧(True∧∀r3,(Eq r3 ((fIn ((List.getD a0 (tN y1) (0,0)).2) (-1099511627776) 1099511627776),((),())))→(X04 (!r3.1) (Eq (false,((),())) ((X0N a0),((),()))) (X04 (decide (y1>(0:Int))) (0≤(wI (y1 - (1:Int)))∧((wI (y1 - (1:Int)))<(ln a0)∧(0≤y1∧(y1<(ln a0)∧(X04 (decide (((List.getD a0 (tN (wI (y1 - (1:Int)))) (0,0)).1)≥((List.getD a0 (tN y1) (0,0)).1))) (Eq (false,((),())) ((X0N a0),((),()))) (eS [(0,.val false [.lst T0q a0 none])] [(0,.val false [.lst T0q a0 none])]∧(ptI a0 (wI (y1+(1:Int))))∧(ptM a0 (wI (y1+(1:Int))))<(ptM a0 y1))))))) (eS [(0,.val false [.lst T0q a0 none])] [(0,.val false [.lst T0q a0 none])]∧(ptI a0 (wI (y1+(1:Int))))∧(ptM a0 (wI (y1+(1:Int))))<(ptM a0 y1))))))))))) (Eq (true,((),())) ((X0N a0),((),())))))))
def X0V.L(a0:U4q):Nat→Option X0g:=fun p=>Go.Proofs.Ytegmokdppbagiaa.Bv.look p [(58,{kp:={hold:=[0],slots:=[3],boxes:=[],rows:=[]},T:=(.int .i64),I:=fun st y=>ptI a0 y,μ:=fun st y=>ptM a0 y})]
theorem X0V.pure(a0:U4q)(h:True)(hw:Wf X39.A a0):X0V.F a0:=by
 delta X0V.F ln tN wI eS
 have hw1:a0.length≤maxLen:=hw.1
 unfold maxLen at hw1
 simp only[forall_eq,true_and,and_true,X06,Prod.mk.injEq,decide_eq_true_eq,decide_eq_false_iff_not,Bool.not_eq_true',Bool.not_eq_false']
 refine⟨fun h1=>?_,fun h1=>⟨⟨by omega,by omega,fun j hj=>absurd hj (by simp)⟩,?_⟩⟩
 · have:¬a0.length≤60:=by omega
   simp[X0N,this]
 rintro i ⟨h2,h3,h4⟩
 have fin:¬i<(a0.length:Int)→true=X0N a0:=fun hi=>by
  have:Xa7 (X8R a0) a0.length=true:=X7B fun j hj=>h4 j (by omega)
  have h60:a0.length≤60:=by omega
  simp[X0N,this,h60]
 refine⟨?_,fin⟩
 intro hi
 have e2:IntKind.wrap .i64 (i+1)=i+1:=Go.IntWalk.i64_in _ (by omega)
 have e1:IntKind.wrap .i64 (i - 1)=i - 1:=Go.IntWalk.i64_in _ (by omega)
 have e3:(i - 1).toNat=i.toNat - 1:=by omega
 rw[e1,e2,e3]
 have no:X8R a0 i.toNat=false→false=X0N a0:=fun hp=>Xhe (by omega) hp
 have yes:X8R a0 i.toNat=true→ptI a0 (i+1)∧ptM a0 (i+1)<ptM a0 i:=fun hp=>⟨⟨by omega,by omega,X65 h2 h4 hp⟩,by unfold ptM;omega⟩
 refine⟨h2,hi,fun t1=>no (by unfold X8R;rw[t1];rfl),fun t1=>⟨h2,hi,?_,fun t2=>⟨fun hp=>⟨by omega,by omega,h2,hi,?_,?_⟩,fun hp=>?_⟩⟩⟩
 · intro t2;exact no (by unfold X8R;rw[t1,t2];rfl)
 · intro t3;exact no (by unfold X8R;rw[t1,t2,decide_eq_false (by omega:¬i.toNat=0),decide_eq_false (by omega)];rfl)
 · intro t3;exact yes (by unfold X8R;rw[t1,t2,decide_eq_true (by omega:(a0.getD (i.toNat - 1) (0,0)).1<(a0.getD i.toNat (0,0)).1),Bool.or_true];rfl)
 · exact yes (by unfold X8R;rw[t1,t2,decide_eq_true (by omega:i.toNat=0)];rfl)
theorem X0V.eq:EqS X39 Try.f44 [4] [X2e.e] [] (fun i x=>X0V.L x) (fun i x=>X0V.F x):=by intro i x;kernel_rfl
theorem X0V.ok:X11 Try.prog 44 X39:=X3V X0V.eq Try.func44 rfl (by kernel_rfl) fun i x h hi hw=>X0V.pure x h hw
def X0V.e:GE:=⟨44,X39,⟨_,Try.func44,rfl,rfl⟩,X0V.ok⟩
def X34:Con:={A:=(.list T0q),shA:=[.one],R:=.bool,shR:=[(false,1)],pre:=fun _ _=>True,f:=some fun _ a=>((X0N a),((),()))}
def X0K.F(a0:U4q):Prop:=(eS [(0,.val false [.lst T0q a0 none]),(5,.val false [.lst T0q a0 none]),(6,.val false [.int .i64 (ln a0)])] [(0,.val false [.lst T0q a0 none]),(5,.val false [.lst T0q a0 none]),(6,.val false [.int .i64 (ln a0)])]∧((ptI a0 0)∧∀(y1:Int),(ptI a0 y1)→(X04 (decide (y1<(ln a0))) (0≤y1∧(y1<(ln a0)∧(True∧∀r2,(Eq r2 ((fIn ((List.getD a0 (tN y1) (0,0)).1) 0 1099511627776),((),())))→(X04 (!r2.1) (Eq (false,((),())) ((X0N a0),((),()))) (True∧∀r3,(Eq r3 ((fIn ((List.getD a0 (tN y1) (0,0)).2) (-1099511627776) 1099511627776),((),())))→(X04 (!r3.1) (Eq (false,((),())) ((X0N a0),((),()))) (X04 (decide (y1>(0:Int))) (0≤(wI (y1 - (1:Int)))∧((wI (y1 - (1:Int)))<(ln a0)∧(X04 (decide (((List.getD a0 (tN (wI (y1 - (1:Int)))) (0,0)).1)≥((List.getD a0 (tN y1) (0,0)).1))) (Eq (false,((),())) ((X0N a0),((),()))) (eS [(0,.val false [.lst T0q a0 none]),(5,.val false [.lst T0q a0 none]),(6,.val false [.int .i64 (ln a0)])] [(0,.val false [.lst T0q a0 none]),(5,.val false [.lst T0q a0 none]),(6,.val false [.int .i64 (ln a0)])]∧(ptI a0 (wI (y1+(1:Int))))∧(ptM a0 (wI (y1+(1:Int))))<(ptM a0 y1))))) (eS [(0,.val false [.lst T0q a0 none]),(5,.val false [.lst T0q a0 none]),(6,.val false [.int .i64 (ln a0)])] [(0,.val false [.lst T0q a0 none]),(5,.val false [.lst T0q a0 none]),(6,.val false [.int .i64 (ln a0)])]∧(ptI a0 (wI (y1+(1:Int))))∧(ptM a0 (wI (y1+(1:Int))))<(ptM a0 y1))))))))) (Eq ((decide ((ln a0)≤(60:Int))),((),())) ((X0N a0),((),()))))))
def X0K.L(a0:U4q):Nat→Option X0g:=fun p=>Go.Proofs.Ytegmokdppbagiaa.Bv.look p [(26,{kp:={hold:=[0,5,6],slots:=[7],boxes:=[],rows:=[]},T:=(.int .i64),I:=fun st y=>ptI a0 y,μ:=fun st y=>ptM a0 y})]
theorem X0K.pure(a0:U4q)(h:True)(hw:Wf X34.A a0):X0K.F a0:=by
 delta X0K.F ln tN wI eS
 have hw1:a0.length≤maxLen:=hw.1
 unfold maxLen at hw1
 simp only[forall_eq,true_and,and_true,X06,Prod.mk.injEq,decide_eq_true_eq,decide_eq_false_iff_not,Bool.not_eq_true',Bool.not_eq_false']
 refine⟨⟨by omega,by omega,fun j hj=>absurd hj (by simp)⟩,?_⟩
 rintro i ⟨h2,h3,h4⟩
 have fin:¬i<(a0.length:Int)→decide ((a0.length:Int)≤60)=X0N a0:=fun hi=>by
  have:Xa7 (X8R a0) a0.length=true:=X7B fun j hj=>h4 j (by omega)
  simp[X0N,this];omega
 refine⟨?_,fin⟩
 intro hi
 have e2:IntKind.wrap .i64 (i+1)=i+1:=Go.IntWalk.i64_in _ (by omega)
 have e1:IntKind.wrap .i64 (i - 1)=i - 1:=Go.IntWalk.i64_in _ (by omega)
 have e3:(i - 1).toNat=i.toNat - 1:=by omega
 rw[e1,e2,e3]
 have no:X8R a0 i.toNat=false→false=X0N a0:=fun hp=>Xhe (by omega) hp
 have yes:X8R a0 i.toNat=true→ptI a0 (i+1)∧ptM a0 (i+1)<ptM a0 i:=fun hp=>⟨⟨by omega,by omega,X65 h2 h4 hp⟩,by unfold ptM;omega⟩
 refine⟨h2,hi,fun t1=>no (by unfold X8R;rw[t1];rfl),fun t1=>⟨?_,fun t2=>⟨fun hp=>⟨by omega,by omega,?_,?_⟩,fun hp=>?_⟩⟩⟩
 · intro t2;exact no (by unfold X8R;rw[t1,t2];rfl)
 · intro t3;exact no (by unfold X8R;rw[t1,t2,decide_eq_false (by omega:¬i.toNat=0),decide_eq_false (by omega)];rfl)
 · intro t3;exact yes (by unfold X8R;rw[t1,t2,decide_eq_true (by omega:(a0.getD (i.toNat - 1) (0,0)).1<(a0.getD i.toNat (0,0)).1),Bool.or_true];rfl)
 · exact yes (by unfold X8R;rw[t1,t2,decide_eq_true (by omega:i.toNat=0)];rfl)
theorem X0K.eq:EqS X34 Try.f81 [4] [X0O.e] [] (fun i x=>X0K.L x) (fun i x=>X0K.F x):=by intro i x;kernel_rfl
theorem X0K.ok:X11 Try.prog 81 X34:=X3V X0K.eq Try.func81 rfl (by kernel_rfl) fun i x h hi hw=>X0K.pure x h hw
def X0K.e:GE:=⟨81,X34,⟨_,Try.func81,rfl,rfl⟩,X0K.ok⟩
def Xio(s:List UInt8):Prop:=s.length≤maxLen
def X4t:Con:={A:=.str,shA:=[.one],R:=.bool,shR:=[(false,1)],pre:=fun _ a=>(Xio a),f:=some fun _ a=>((X7V a),((),()))}
def X1w.F(a0:U3q):Prop:=(True∧∀r1,(Eq r1 ((fIn (ln a0) 1 8),((),())))→(X04 (!r1.1) (Eq (false,((),())) ((X7V a0),((),()))) (eS [(0,.val false [.str a0])] [(0,.val false [.str a0])]∧((chI a0 0)∧∀(y2:Int),(chI a0 y2)→(X04 (decide (y2<(ln a0))) (0≤y2∧(y2<(ln a0)∧(X04 (decide (((UInt8.toNat (List.getD a0 (tN y2) 0):Nat):Int)<(97:Int))) (Eq (false,((),())) ((X7V a0),((),()))) (0≤y2∧(y2<(ln a0)∧(X04 (decide (((UInt8.toNat (List.getD a0 (tN y2) 0):Nat):Int)>(122:Int))) (Eq (false,((),())) ((X7V a0),((),()))) (eS [(0,.val false [.str a0])] [(0,.val false [.str a0])]∧(chI a0 (wI (y2+(1:Int))))∧(chM a0 (wI (y2+(1:Int))))<(chM a0 y2)))))))) (Eq (true,((),())) ((X7V a0),((),()))))))))
def X1w.L(a0:U3q):Nat→Option X0g:=fun p=>Go.Proofs.Ytegmokdppbagiaa.Bv.look p [(58,{kp:={hold:=[0],slots:=[3],boxes:=[],rows:=[]},T:=(.int .i64),I:=fun st y=>chI a0 y,μ:=fun st y=>chM a0 y})]
theorem X1w.pure(a0:U3q)(h:(Xio a0))(hw:Wf X4t.A a0):X1w.F a0:=by
 delta X1w.F ln tN wI eS
 have hw1:a0.length≤maxLen:=h
 unfold maxLen at hw1
 simp only[forall_eq,true_and,and_true,X06,Prod.mk.injEq,decide_eq_true_eq,decide_eq_false_iff_not,Bool.not_eq_true',Bool.not_eq_false']
 refine⟨fun h1=>by simp[X7V,h1],fun h1=>⟨⟨by omega,by omega,fun j hj=>absurd hj (by simp)⟩,?_⟩⟩
 have hin:¬(a0.length:Int)>8:=by
  simp only[fIn,Bool.and_eq_true,decide_eq_true_eq]at h1;omega
 rintro i ⟨h2,h3,h4⟩
 have fin:¬i<(a0.length:Int)→true=X7V a0:=fun hi=>by
  have:Xa7 (Xeq a0) a0.length=true:=X7B fun j hj=>h4 j (by omega)
  simp[X7V,this,h1]
 refine⟨?_,fin⟩
 intro hi
 have e2:IntKind.wrap .i64 (i+1)=i+1:=Go.IntWalk.i64_in _ (by omega)
 rw[e2]
 have no:Xeq a0 i.toNat=false→false=X7V a0:=fun hp=>Xhm (by omega) hp
 refine⟨h2,hi,fun t1=>no (by unfold Xeq;rw[decide_eq_false (by omega)];rfl),fun t1=>⟨h2,hi,fun t2=>no (by unfold Xeq;rw[decide_eq_false (p:=_≤(122:Int)) (by omega),Bool.and_false]),fun t2=>?_⟩⟩
 exact⟨⟨by omega,by omega,X65 h2 h4 (by unfold Xeq;rw[decide_eq_true (by omega),decide_eq_true (by omega)];rfl)⟩,by unfold chM;omega⟩
theorem X1w.eq:EqS X4t Try.f43 [4] [X2e.e] [] (fun i x=>X1w.L x) (fun i x=>X1w.F x):=by intro i x;kernel_rfl
theorem X1w.ok:X11 Try.prog 43 X4t:=X3V X1w.eq Try.func43 rfl (by kernel_rfl) fun i x h hi hw=>X1w.pure x h hw
def X1w.e:GE:=⟨43,X4t,⟨_,Try.func43,rfl,rfl⟩,X1w.ok⟩
def X4g:Con:={A:=.str,shA:=[.one],R:=.bool,shR:=[(false,1)],pre:=fun _ a=>(Xio a),f:=some fun _ a=>((X7V a),((),()))}
def X1v.F(a0:U3q):Prop:=(eS [(0,.val false [.str a0]),(5,.val false [.int .i64 (ln a0)])] [(0,.val false [.str a0]),(5,.val false [.int .i64 (ln a0)])]∧((chI a0 0)∧∀(y1:Int),(chI a0 y1)→(X04 (decide (y1<(ln a0))) (0≤y1∧(y1<(ln a0)∧(X04 (decide (((UInt8.toNat (List.getD a0 (tN y1) 0):Nat):Int)<(97:Int))) (Eq (false,((),())) ((X7V a0),((),()))) (0≤y1∧(y1<(ln a0)∧(X04 (decide (((UInt8.toNat (List.getD a0 (tN y1) 0):Nat):Int)>(122:Int))) (Eq (false,((),())) ((X7V a0),((),()))) (eS [(0,.val false [.str a0]),(5,.val false [.int .i64 (ln a0)])] [(0,.val false [.str a0]),(5,.val false [.int .i64 (ln a0)])]∧(chI a0 (wI (y1+(1:Int))))∧(chM a0 (wI (y1+(1:Int))))<(chM a0 y1)))))))) (True∧∀r2,(Eq r2 ((fIn (ln a0) 1 8),((),())))→(Eq (r2.1,((),())) ((X7V a0),((),())))))))
def X1v.L(a0:U3q):Nat→Option X0g:=fun p=>Go.Proofs.Ytegmokdppbagiaa.Bv.look p [(26,{kp:={hold:=[0,5],slots:=[6],boxes:=[],rows:=[]},T:=(.int .i64),I:=fun st y=>chI a0 y,μ:=fun st y=>chM a0 y})]
theorem X1v.pure(a0:U3q)(h:(Xio a0))(hw:Wf X4g.A a0):X1v.F a0:=by
 delta X1v.F ln tN wI eS
 have hw1:a0.length≤maxLen:=h
 unfold maxLen at hw1
 simp only[forall_eq,true_and,and_true,X06,Prod.mk.injEq,decide_eq_true_eq,decide_eq_false_iff_not,Bool.not_eq_true',Bool.not_eq_false']
 refine⟨⟨by omega,by omega,fun j hj=>absurd hj (by simp)⟩,?_⟩
 rintro i ⟨h2,h3,h4⟩
 have fin:¬i<(a0.length:Int)→fIn (a0.length:Int) 1 8=X7V a0:=fun hi=>by
  have:Xa7 (Xeq a0) a0.length=true:=X7B fun j hj=>h4 j (by omega)
  simp[X7V,this]
 refine⟨?_,fin⟩
 intro hi
 have e2:IntKind.wrap .i64 (i+1)=i+1:=Go.IntWalk.i64_in _ (by omega)
 rw[e2]
 have no:Xeq a0 i.toNat=false→false=X7V a0:=fun hp=>Xhm (by omega) hp
 refine⟨h2,hi,fun t1=>no (by unfold Xeq;rw[decide_eq_false (by omega)];rfl),fun t1=>⟨h2,hi,fun t2=>no (by unfold Xeq;rw[decide_eq_false (p:=_≤(122:Int)) (by omega),Bool.and_false]),fun t2=>?_⟩⟩
 exact⟨⟨by omega,by omega,X65 h2 h4 (by unfold Xeq;rw[decide_eq_true (by omega),decide_eq_true (by omega)];rfl)⟩,by unfold chM;omega⟩
theorem X1v.eq:EqS X4g Try.f80 [4] [X0O.e] [] (fun i x=>X1v.L x) (fun i x=>X1v.F x):=by intro i x;kernel_rfl
theorem X1v.ok:X11 Try.prog 80 X4g:=X3V X1v.eq Try.func80 rfl (by kernel_rfl) fun i x h hi hw=>X1v.pure x h hw
def X1v.e:GE:=⟨80,X4g,⟨_,Try.func80,rfl,rfl⟩,X1v.ok⟩
def X3M(l:List Ser):Prop:=∀s∈l,s.1.length≤maxLen
theorem Xg8{l:List Ser}(h:X3M l){i:Int}(h0:0≤i)(hi:i<l.length):Xio (l.getD i.toNat ([],[])).1:=by
 have hlt:i.toNat<l.length:=by omega
 rw[List.getD_eq_getElem?_getD,List.getElem?_eq_getElem hlt]
 exact h _ (List.getElem_mem hlt)
def X3k:Con:={A:=(.list T1q),shA:=[.one],R:=.bool,shR:=[(false,1)],pre:=fun _ a=>(X3M a),f:=some fun _ a=>((X0L a),((),()))}
def X0U.F(a0:U2q):Prop:=(X04 (decide ((ln a0)>(5:Int))) (Eq (false,((),())) ((X0L a0),((),()))) (eS [(0,.val false [.lst T1q a0 none])] [(0,.val false [.lst T1q a0 none])]∧((srI a0 0)∧∀(y1:Int),(srI a0 y1)→(X04 (decide (y1<(ln a0))) (0≤y1∧(y1<(ln a0)∧((Xio ((List.getD a0 (tN y1) ([],[])).1))∧∀r2,(Eq r2 ((X7V ((List.getD a0 (tN y1) ([],[])).1)),((),())))→(X04 (!r2.1) (Eq (false,((),())) ((X0L a0),((),()))) (X04 (decide (y1>(0:Int))) (0≤(wI (y1 - (1:Int)))∧((wI (y1 - (1:Int)))<(ln a0)∧(0≤y1∧(y1<(ln a0)∧(X04 (!Op.bytesLess ((List.getD a0 (tN (wI (y1 - (1:Int)))) ([],[])).1) ((List.getD a0 (tN y1) ([],[])).1)) (Eq (false,((),())) ((X0L a0),((),()))) (0≤y1∧(y1<(ln a0)∧(X04 ((ln ((List.getD a0 (tN y1) ([],[])).2))==(0:Int)) (Eq (false,((),())) ((X0L a0),((),()))) (0≤y1∧(y1<(ln a0)∧(True∧∀r3,(Eq r3 ((X0N ((List.getD a0 (tN y1) ([],[])).2)),((),())))→(X04 (!r3.1) (Eq (false,((),())) ((X0L a0),((),()))) (eS [(0,.val false [.lst T1q a0 none])] [(0,.val false [.lst T1q a0 none])]∧(srI a0 (wI (y1+(1:Int))))∧(srM a0 (wI (y1+(1:Int))))<(srM a0 y1)))))))))))))) (0≤y1∧(y1<(ln a0)∧(X04 ((ln ((List.getD a0 (tN y1) ([],[])).2))==(0:Int)) (Eq (false,((),())) ((X0L a0),((),()))) (0≤y1∧(y1<(ln a0)∧(True∧∀r4,(Eq r4 ((X0N ((List.getD a0 (tN y1) ([],[])).2)),((),())))→(X04 (!r4.1) (Eq (false,((),())) ((X0L a0),((),()))) (eS [(0,.val false [.lst T1q a0 none])] [(0,.val false [.lst T1q a0 none])]∧(srI a0 (wI (y1+(1:Int))))∧(srM a0 (wI (y1+(1:Int))))<(srM a0 y1)))))))))))))) (Eq (true,((),())) ((X0L a0),((),())))))))
def X0U.L(a0:U2q):Nat→Option X0g:=fun p=>Go.Proofs.Ytegmokdppbagiaa.Bv.look p [(58,{kp:={hold:=[0],slots:=[3],boxes:=[],rows:=[]},T:=(.int .i64),I:=fun st y=>srI a0 y,μ:=fun st y=>srM a0 y})]
theorem X0U.pure(a0:U2q)(h:(X3M a0))(hw:Wf X3k.A a0):X0U.F a0:=by
 delta X0U.F ln tN wI eS
 have hw1:a0.length≤maxLen:=hw.1
 unfold maxLen at hw1
 simp only[forall_eq,true_and,and_true,X06,Prod.mk.injEq,decide_eq_true_eq,decide_eq_false_iff_not,Bool.not_eq_true',Bool.not_eq_false']
 refine⟨fun h1=>?_,fun h1=>⟨⟨by omega,by omega,fun j hj=>absurd hj (by simp)⟩,?_⟩⟩
 · have:¬a0.length≤5:=by omega
   simp[X0L,this]
 rintro i ⟨h2,h3,h4⟩
 have fin:¬i<(a0.length:Int)→true=X0L a0:=fun hi=>by
  have:Xa7 (Xcm a0) a0.length=true:=X7B fun j hj=>h4 j (by omega)
  have h60:a0.length≤5:=by omega
  simp[X0L,this,h60]
 refine⟨?_,fin⟩
 intro hi
 have e2:IntKind.wrap .i64 (i+1)=i+1:=Go.IntWalk.i64_in _ (by omega)
 have e1:IntKind.wrap .i64 (i - 1)=i - 1:=Go.IntWalk.i64_in _ (by omega)
 have e3:(i - 1).toNat=i.toNat - 1:=by omega
 rw[e1,e2,e3]
 have no:Xcm a0 i.toNat=false→false=X0L a0:=fun hp=>Xhr (by omega) hp
 have yes:Xcm a0 i.toNat=true→srI a0 (i+1)∧srM a0 (i+1)<srM a0 i:=fun hp=>⟨⟨by omega,by omega,X65 h2 h4 hp⟩,by unfold srM;omega⟩
 have hk:=Xg8 h h2 hi
 generalize hx:a0.getD i.toNat ([],[])=x at*
 generalize hy:a0.getD (i.toNat - 1) ([],[])=y at*
 have hsr:Xcm a0 i.toNat=(X7V x.1&&((decide (i.toNat=0)||Op.bytesLess y.1 x.1)&&(decide (x.2.length≠0)&&X0N x.2))):=by unfold Xcm;rw[hx,hy]
 refine⟨h2,hi,hk,fun t1=>no (by rw[hsr,t1];rfl),fun t1=>⟨fun hp=>⟨by omega,by omega,h2,hi,fun t2=>no ?_,fun t2=>⟨h2,hi,fun t3=>no ?_,fun t3=>⟨h2,hi,fun t4=>no ?_,fun t4=>yes ?_⟩⟩⟩,fun hp=>⟨h2,hi,fun t3=>no ?_,fun t3=>⟨h2,hi,fun t4=>no ?_,fun t4=>yes ?_⟩⟩⟩⟩
 · rw[hsr,t1,decide_eq_false (by omega),t2];rfl
 · rw[hsr,decide_eq_false (p:=x.2.length≠0) (by simp at t3;simp[t3])];simp
 · rw[hsr,t4];simp
 · have t5:x.2.length≠0:=by simp at t3;simpa using t3
   rw[hsr,t1,t2,t4,decide_eq_true t5];simp
 · rw[hsr,decide_eq_false (p:=x.2.length≠0) (by simp at t3;simp[t3])];simp
 · rw[hsr,t4];simp
 · have t5:x.2.length≠0:=by simp at t3;simpa using t3
   rw[hsr,t1,t4,decide_eq_true t5,decide_eq_true (by omega:i.toNat=0)];simp
theorem X0U.eq:EqS X3k Try.f11 [4] [X1w.e,X0V.e] [] (fun i x=>X0U.L x) (fun i x=>X0U.F x):=by intro i x;kernel_rfl
theorem X0U.ok:X11 Try.prog 11 X3k:=X3V X0U.eq Try.func11 rfl (by kernel_rfl) fun i x h hi hw=>X0U.pure x h hw
def X0U.e:GE:=⟨11,X3k,⟨_,Try.func11,rfl,rfl⟩,X0U.ok⟩
def X3a:Con:={A:=(.list T1q),shA:=[.one],R:=.bool,shR:=[(false,1)],pre:=fun _ a=>(X3M a),f:=some fun _ a=>((X0L a),((),()))}
def X0R.F(a0:U2q):Prop:=(eS [(0,.val false [.lst T1q a0 none]),(5,.val false [.lst T1q a0 none]),(6,.val false [.int .i64 (ln a0)])] [(0,.val false [.lst T1q a0 none]),(5,.val false [.lst T1q a0 none]),(6,.val false [.int .i64 (ln a0)])]∧((srI a0 0)∧∀(y1:Int),(srI a0 y1)→(X04 (decide (y1<(ln a0))) (0≤y1∧(y1<(ln a0)∧((Xio ((List.getD a0 (tN y1) ([],[])).1))∧∀r2,(Eq r2 ((X7V ((List.getD a0 (tN y1) ([],[])).1)),((),())))→(X04 (!r2.1) (Eq (false,((),())) ((X0L a0),((),()))) (True∧∀r3,(Eq r3 ((X0N ((List.getD a0 (tN y1) ([],[])).2)),((),())))→(X04 (!r3.1) (Eq (false,((),())) ((X0L a0),((),()))) (X04 ((ln ((List.getD a0 (tN y1) ([],[])).2))==(0:Int)) (Eq (false,((),())) ((X0L a0),((),()))) (X04 (decide (y1>(0:Int))) (0≤(wI (y1 - (1:Int)))∧((wI (y1 - (1:Int)))<(ln a0)∧(X04 (!Op.bytesLess ((List.getD a0 (tN (wI (y1 - (1:Int)))) ([],[])).1) ((List.getD a0 (tN y1) ([],[])).1)) (Eq (false,((),())) ((X0L a0),((),()))) (eS [(0,.val false [.lst T1q a0 none]),(5,.val false [.lst T1q a0 none]),(6,.val false [.int .i64 (ln a0)])] [(0,.val false [.lst T1q a0 none]),(5,.val false [.lst T1q a0 none]),(6,.val false [.int .i64 (ln a0)])]∧(srI a0 (wI (y1+(1:Int))))∧(srM a0 (wI (y1+(1:Int))))<(srM a0 y1))))) (eS [(0,.val false [.lst T1q a0 none]),(5,.val false [.lst T1q a0 none]),(6,.val false [.int .i64 (ln a0)])] [(0,.val false [.lst T1q a0 none]),(5,.val false [.lst T1q a0 none]),(6,.val false [.int .i64 (ln a0)])]∧(srI a0 (wI (y1+(1:Int))))∧(srM a0 (wI (y1+(1:Int))))<(srM a0 y1)))))))))) (Eq ((decide ((ln a0)≤(5:Int))),((),())) ((X0L a0),((),()))))))
def X0R.L(a0:U2q):Nat→Option X0g:=fun p=>Go.Proofs.Ytegmokdppbagiaa.Bv.look p [(26,{kp:={hold:=[0,5,6],slots:=[7],boxes:=[],rows:=[]},T:=(.int .i64),I:=fun st y=>srI a0 y,μ:=fun st y=>srM a0 y})]
theorem X0R.pure(a0:U2q)(h:(X3M a0))(hw:Wf X3a.A a0):X0R.F a0:=by
 delta X0R.F ln tN wI eS
 have hw1:a0.length≤maxLen:=hw.1
 unfold maxLen at hw1
 simp only[forall_eq,true_and,and_true,X06,Prod.mk.injEq,decide_eq_true_eq,decide_eq_false_iff_not,Bool.not_eq_true',Bool.not_eq_false']
 refine⟨⟨by omega,by omega,fun j hj=>absurd hj (by simp)⟩,?_⟩
 rintro i ⟨h2,h3,h4⟩
 have fin:¬i<(a0.length:Int)→decide ((a0.length:Int)≤5)=X0L a0:=fun hi=>by
  have:Xa7 (Xcm a0) a0.length=true:=X7B fun j hj=>h4 j (by omega)
  simp[X0L,this];omega
 refine⟨?_,fin⟩
 intro hi
 have e2:IntKind.wrap .i64 (i+1)=i+1:=Go.IntWalk.i64_in _ (by omega)
 have e1:IntKind.wrap .i64 (i - 1)=i - 1:=Go.IntWalk.i64_in _ (by omega)
 have e3:(i - 1).toNat=i.toNat - 1:=by omega
 rw[e1,e2,e3]
 have no:Xcm a0 i.toNat=false→false=X0L a0:=fun hp=>Xhr (by omega) hp
 have yes:Xcm a0 i.toNat=true→srI a0 (i+1)∧srM a0 (i+1)<srM a0 i:=fun hp=>⟨⟨by omega,by omega,X65 h2 h4 hp⟩,by unfold srM;omega⟩
 have hk:=Xg8 h h2 hi
 generalize hx:a0.getD i.toNat ([],[])=x at*
 generalize hy:a0.getD (i.toNat - 1) ([],[])=y at*
 have hsr:Xcm a0 i.toNat=(X7V x.1&&((decide (i.toNat=0)||Op.bytesLess y.1 x.1)&&(decide (x.2.length≠0)&&X0N x.2))):=by unfold Xcm;rw[hx,hy]
 refine⟨h2,hi,hk,fun t1=>no (by rw[hsr,t1];rfl),fun t1=>⟨fun t4=>no ?_,fun t4=>⟨fun t3=>no ?_,fun t3=>⟨fun hp=>⟨by omega,by omega,fun t2=>no ?_,fun t2=>yes ?_⟩,fun hp=>yes ?_⟩⟩⟩⟩
 · rw[hsr,t4];simp
 · rw[hsr,decide_eq_false (p:=x.2.length≠0) (by simp at t3;simp[t3])];simp
 · rw[hsr,t1,decide_eq_false (by omega),t2];rfl
 · have t5:x.2.length≠0:=by simp at t3;simpa using t3
   rw[hsr,t1,t2,t4,decide_eq_true t5];simp
 · have t5:x.2.length≠0:=by simp at t3;simpa using t3
   rw[hsr,t1,t4,decide_eq_true t5,decide_eq_true (by omega:i.toNat=0)];simp
theorem X0R.eq:EqS X3a Try.f34 [4] [X1v.e,X0K.e] [] (fun i x=>X0R.L x) (fun i x=>X0R.F x):=by intro i x;kernel_rfl
theorem X0R.ok:X11 Try.prog 34 X3a:=X3V X0R.eq Try.func34 rfl (by kernel_rfl) fun i x h hi hw=>X0R.pure x h hw
def X0R.e:GE:=⟨34,X3a,⟨_,Try.func34,rfl,rfl⟩,X0R.ok⟩
end Go.Proofs.Ytegmokdppbagiaa.B
