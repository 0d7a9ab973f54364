/- Series of points:are they right? -/
import Derived.Test.YtcfaphojdacmbaaGreatRCCover
set_option maxRecDepth 100000
set_option linter.unusedVariables false
set_option linter.unusedSimpArgs false
namespace Go.Proofs.YtcfaphojdacmbaaGreatR.B
open Go Go.Proofs.YtcfaphojdacmbaaGreatR.Bv
abbrev Pt:=Int×Int
abbrev Ser:=List UInt8×List (Int×Int)
def X8w(a:Int):Bool:=fIn a 0 1099511627776
def Xe9(p:Nat→Bool)(n:Nat):Bool:=(List.range n).all p
theorem Xbe{p:Nat→Bool}{n:Nat}(h:∀j,j<n→p j=true):Xe9 p n=true:=by
 simp only[Xe9,List.all_eq_true,List.mem_range];exact h
theorem XiX{p:Nat→Bool}{n j:Nat}(h:j<n)(hp:p j=false):Xe9 p n=false:=by
 cases e:Xe9 p n with
 | false=>rfl
 | true=>
   simp only[Xe9,List.all_eq_true,List.mem_range]at e
   rw[e j h]at hp;cases hp
theorem X9b{p:Nat→Bool}{i:Int}(h0:0≤i)(h:∀j,j<i.toNat→p j=true)(hp:p i.toNat=true):∀j,j<(i+1).toNat→p j=true:=fun j hj=>by
 by_cases e:j=i.toNat
 · rw[e];exact hp
 · exact h j (by omega)
def XeY(l:List Pt)(i:Nat):Bool:=fIn (l.getD i (0,0)).1 0 1099511627776&&(fIn (l.getD i (0,0)).2 (-1099511627776) 1099511627776&&(decide (i=0)||decide ((l.getD (i - 1) (0,0)).1<(l.getD i (0,0)).1)))
def X25(l:List Pt):Bool:=decide (l.length≤60)&&Xe9 (XeY l) l.length
def ptI(l:List Pt)(i:Int):Prop:=0≤i∧i≤l.length∧∀j,j<i.toNat→XeY l j=true
def ptM(l:List Pt)(i:Int):Nat:=(l.length - i).toNat
theorem Xqd{l:List Pt}{j:Nat}(h:j<l.length)(hp:XeY l j=false):false=X25 l:=by simp[X25,XiX h hp]
def XlY(s:List UInt8)(i:Nat):Bool:=decide ((97:Int)≤((s.getD i 0).toNat:Int))&&decide (((s.getD i 0).toNat:Int)≤122)
def XdP(s:List UInt8):Bool:=fIn s.length 1 8&&Xe9 (XlY s) s.length
def chI(s:List UInt8)(i:Int):Prop:=0≤i∧i≤s.length∧∀j,j<i.toNat→XlY s j=true
def chM(s:List UInt8)(i:Int):Nat:=(s.length - i).toNat
theorem Xq2{s:List UInt8}{j:Nat}(h:j<s.length)(hp:XlY s j=false):false=XdP s:=by simp[XdP,XiX h hp]
def Xk8(l:List Ser)(i:Nat):Bool:=XdP (l.getD i ([],[])).1&&((decide (i=0)||Op.bytesLess (l.getD (i - 1) ([],[])).1 (l.getD i ([],[])).1)&&(decide ((l.getD i ([],[])).2.length≠0)&&X25 (l.getD i ([],[])).2))
def X2i(l:List Ser):Bool:=decide (l.length≤5)&&Xe9 (Xk8 l) l.length
def srI(l:List Ser)(i:Int):Prop:=0≤i∧i≤l.length∧∀j,j<i.toNat→Xk8 l j=true
def srM(l:List Ser)(i:Int):Nat:=(l.length - i).toNat
theorem Xqn{l:List Ser}{j:Nat}(h:j<l.length)(hp:Xk8 l j=false):false=X2i l:=by simp[X2i,XiX h hp]
def X8H:Con:={A:=(.int .i64),shA:=[.one],R:=.bool,shR:=[(false,1)],pre:=fun _ _=>True,f:=some fun _ a=>((X8w a),((),()))}
def X3A.F(a0:Int):Prop:=(True∧∀r1,(Eq r1 ((fIn a0 0 1099511627776),((),())))→(Eq (r1.1,((),())) ((X8w a0),((),()))))
theorem X3A.pure(a0:Int)(h:True)(hw:Wf X8H.A a0):X3A.F a0:=by
 unfold X3A.F
 simp only[forall_eq,true_and,and_true,Prod.mk.injEq]
 rfl
theorem X3A.eq:EqS X8H Tryz.f115 [4] [X0K.e] [] noL (fun i x=>X3A.F x):=by intro i x;kernel_rfl
theorem X3A.ok:X0k Tryz.prog 115 X8H:=X1Z X3A.eq Tryz.func115 rfl (by kernel_rfl) fun i x h hi hw=>X3A.pure x h hw
def X3A.e:GE:=⟨115,X8H,⟨_,Tryz.func115,rfl,rfl⟩,X3A.ok⟩
def X7e:Con:={A:=XaB,shA:=[.one],R:=.bool,shR:=[(false,1)],pre:=fun _ _=>True,f:=some fun _ a=>((X25 a),((),()))}
def X1W.F(a0:U6q):Prop:=(X00 (decide ((ln a0)>(60:Int))) (Eq (false,((),())) ((X25 a0),((),()))) (eS [(0,.val false [.lst T0q a0 none])] [(0,.val false [.lst T0q a0 none])]∧((ptI a0 0)∧∀(y1:Int),(ptI a0 y1)→(X00 (decide (y1<(ln a0))) (0≤y1∧(y1<(ln a0)∧(True∧∀r2,(Eq r2 ((fIn ((List.getD a0 (tN y1) (0,0)).1) 0 1099511627776),((),())))→(X00 (!r2.1) (Eq (false,((),())) ((X25 a0),((),()))) (0≤y1∧(y1<(ln a0)∧(True∧∀r3,(Eq r3 ((fIn ((List.getD a0 (tN y1) (0,0)).2) (-1099511627776) 1099511627776),((),())))→(X00 (!r3.1) (Eq (false,((),())) ((X25 a0),((),()))) (X00 (decide (y1>(0:Int))) (0≤(wI (y1 - (1:Int)))∧((wI (y1 - (1:Int)))<(ln a0)∧(0≤y1∧(y1<(ln a0)∧(X00 (decide (((List.getD a0 (tN (wI (y1 - (1:Int)))) (0,0)).1)≥((List.getD a0 (tN y1) (0,0)).1))) (Eq (false,((),())) ((X25 a0),((),()))) (eS [(0,.val false [.lst T0q a0 none])] [(0,.val false [.lst T0q a0 none])]∧(ptI a0 (wI (y1+(1:Int))))∧(ptM a0 (wI (y1+(1:Int))))<(ptM a0 y1))))))) (eS [(0,.val false [.lst T0q a0 none])] [(0,.val false [.lst T0q a0 none])]∧(ptI a0 (wI (y1+(1:Int))))∧(ptM a0 (wI (y1+(1:Int))))<(ptM a0 y1))))))))))) (Eq (true,((),())) ((X25 a0),((),())))))))
def X1W.L(a0:U6q):Nat→Option X0e:=fun p=>Go.Proofs.YtcfaphojdacmbaaGreatR.Bv.look p [(58,{kp:={hold:=[0],slots:=[3],boxes:=[],rows:=[]},T:=(.int .i64),I:=fun st y=>ptI a0 y,μ:=fun st y=>ptM a0 y})]
theorem X1W.pure(a0:U6q)(h:True)(hw:Wf X7e.A a0):X1W.F a0:=by
 delta X1W.F ln tN wI eS
 have hw1:a0.length≤maxLen:=hw.1
 unfold maxLen at hw1
 simp only[forall_eq,true_and,and_true,X01,Prod.mk.injEq,decide_eq_true_eq,decide_eq_false_iff_not,Bool.not_eq_true',Bool.not_eq_false']
 refine⟨fun h1=>?_,fun h1=>⟨⟨by omega,by omega,fun j hj=>absurd hj (by simp)⟩,?_⟩⟩
 · have:¬a0.length≤60:=by omega
   simp[X25,this]
 rintro i ⟨h2,h3,h4⟩
 have fin:¬i<(a0.length:Int)→true=X25 a0:=fun hi=>by
  have:Xe9 (XeY a0) a0.length=true:=Xbe fun j hj=>h4 j (by omega)
  have h60:a0.length≤60:=by omega
  simp[X25,this,h60]
 refine⟨?_,fin⟩
 intro hi
 have e2:IntKind.wrap .i64 (i+1)=i+1:=Go.IntWalk.i64_in _ (by omega)
 have e1:IntKind.wrap .i64 (i - 1)=i - 1:=Go.IntWalk.i64_in _ (by omega)
 have e3:(i - 1).toNat=i.toNat - 1:=by omega
 rw[e1,e2,e3]
 have no:XeY a0 i.toNat=false→false=X25 a0:=fun hp=>Xqd (by omega) hp
 have yes:XeY a0 i.toNat=true→ptI a0 (i+1)∧ptM a0 (i+1)<ptM a0 i:=fun hp=>⟨⟨by omega,by omega,X9b h2 h4 hp⟩,by unfold ptM;omega⟩
 refine⟨h2,hi,fun t1=>no (by unfold XeY;rw[t1];rfl),fun t1=>⟨h2,hi,?_,fun t2=>⟨fun hp=>⟨by omega,by omega,h2,hi,?_,?_⟩,fun hp=>?_⟩⟩⟩
 · intro t2;exact no (by unfold XeY;rw[t1,t2];rfl)
 · intro t3;exact no (by unfold XeY;rw[t1,t2,decide_eq_false (by omega:¬i.toNat=0),decide_eq_false (by omega)];rfl)
 · intro t3;exact yes (by unfold XeY;rw[t1,t2,decide_eq_true (by omega:(a0.getD (i.toNat - 1) (0,0)).1<(a0.getD i.toNat (0,0)).1),Bool.or_true];rfl)
 · exact yes (by unfold XeY;rw[t1,t2,decide_eq_true (by omega:i.toNat=0)];rfl)
theorem X1W.eq:EqS X7e Tryz.f95 [4] [X1N.e] [] (fun i x=>X1W.L x) (fun i x=>X1W.F x):=by intro i x;kernel_rfl
theorem X1W.ok:X0k Tryz.prog 95 X7e:=X1Z X1W.eq Tryz.func95 rfl (by kernel_rfl) fun i x h hi hw=>X1W.pure x h hw
def X1W.e:GE:=⟨95,X7e,⟨_,Tryz.func95,rfl,rfl⟩,X1W.ok⟩
def X7p:Con:={A:=XaB,shA:=[.one],R:=.bool,shR:=[(false,1)],pre:=fun _ _=>True,f:=some fun _ a=>((X25 a),((),()))}
def X1S.F(a0:U6q):Prop:=(eS [(0,.val false [.lst T0q a0 none]),(5,.val false [.lst T0q a0 none]),(6,.val false [.int .i64 (ln a0)])] [(0,.val false [.lst T0q a0 none]),(5,.val false [.lst T0q a0 none]),(6,.val false [.int .i64 (ln a0)])]∧((ptI a0 0)∧∀(y1:Int),(ptI a0 y1)→(X00 (decide (y1<(ln a0))) (0≤y1∧(y1<(ln a0)∧(True∧∀r2,(Eq r2 ((fIn ((List.getD a0 (tN y1) (0,0)).1) 0 1099511627776),((),())))→(X00 (!r2.1) (Eq (false,((),())) ((X25 a0),((),()))) (True∧∀r3,(Eq r3 ((fIn ((List.getD a0 (tN y1) (0,0)).2) (-1099511627776) 1099511627776),((),())))→(X00 (!r3.1) (Eq (false,((),())) ((X25 a0),((),()))) (X00 (decide (y1>(0:Int))) (0≤(wI (y1 - (1:Int)))∧((wI (y1 - (1:Int)))<(ln a0)∧(X00 (decide (((List.getD a0 (tN (wI (y1 - (1:Int)))) (0,0)).1)≥((List.getD a0 (tN y1) (0,0)).1))) (Eq (false,((),())) ((X25 a0),((),()))) (eS [(0,.val false [.lst T0q a0 none]),(5,.val false [.lst T0q a0 none]),(6,.val false [.int .i64 (ln a0)])] [(0,.val false [.lst T0q a0 none]),(5,.val false [.lst T0q a0 none]),(6,.val false [.int .i64 (ln a0)])]∧(ptI a0 (wI (y1+(1:Int))))∧(ptM a0 (wI (y1+(1:Int))))<(ptM a0 y1))))) (eS [(0,.val false [.lst T0q a0 none]),(5,.val false [.lst T0q a0 none]),(6,.val false [.int .i64 (ln a0)])] [(0,.val false [.lst T0q a0 none]),(5,.val false [.lst T0q a0 none]),(6,.val false [.int .i64 (ln a0)])]∧(ptI a0 (wI (y1+(1:Int))))∧(ptM a0 (wI (y1+(1:Int))))<(ptM a0 y1))))))))) (Eq ((decide ((ln a0)≤(60:Int))),((),())) ((X25 a0),((),()))))))
def X1S.L(a0:U6q):Nat→Option X0e:=fun p=>Go.Proofs.YtcfaphojdacmbaaGreatR.Bv.look p [(26,{kp:={hold:=[0,5,6],slots:=[7],boxes:=[],rows:=[]},T:=(.int .i64),I:=fun st y=>ptI a0 y,μ:=fun st y=>ptM a0 y})]
theorem X1S.pure(a0:U6q)(h:True)(hw:Wf X7p.A a0):X1S.F a0:=by
 delta X1S.F ln tN wI eS
 have hw1:a0.length≤maxLen:=hw.1
 unfold maxLen at hw1
 simp only[forall_eq,true_and,and_true,X01,Prod.mk.injEq,decide_eq_true_eq,decide_eq_false_iff_not,Bool.not_eq_true',Bool.not_eq_false']
 refine⟨⟨by omega,by omega,fun j hj=>absurd hj (by simp)⟩,?_⟩
 rintro i ⟨h2,h3,h4⟩
 have fin:¬i<(a0.length:Int)→decide ((a0.length:Int)≤60)=X25 a0:=fun hi=>by
  have:Xe9 (XeY a0) a0.length=true:=Xbe fun j hj=>h4 j (by omega)
  simp[X25,this];omega
 refine⟨?_,fin⟩
 intro hi
 have e2:IntKind.wrap .i64 (i+1)=i+1:=Go.IntWalk.i64_in _ (by omega)
 have e1:IntKind.wrap .i64 (i - 1)=i - 1:=Go.IntWalk.i64_in _ (by omega)
 have e3:(i - 1).toNat=i.toNat - 1:=by omega
 rw[e1,e2,e3]
 have no:XeY a0 i.toNat=false→false=X25 a0:=fun hp=>Xqd (by omega) hp
 have yes:XeY a0 i.toNat=true→ptI a0 (i+1)∧ptM a0 (i+1)<ptM a0 i:=fun hp=>⟨⟨by omega,by omega,X9b h2 h4 hp⟩,by unfold ptM;omega⟩
 refine⟨h2,hi,fun t1=>no (by unfold XeY;rw[t1];rfl),fun t1=>⟨?_,fun t2=>⟨fun hp=>⟨by omega,by omega,?_,?_⟩,fun hp=>?_⟩⟩⟩
 · intro t2;exact no (by unfold XeY;rw[t1,t2];rfl)
 · intro t3;exact no (by unfold XeY;rw[t1,t2,decide_eq_false (by omega:¬i.toNat=0),decide_eq_false (by omega)];rfl)
 · intro t3;exact yes (by unfold XeY;rw[t1,t2,decide_eq_true (by omega:(a0.getD (i.toNat - 1) (0,0)).1<(a0.getD i.toNat (0,0)).1),Bool.or_true];rfl)
 · exact yes (by unfold XeY;rw[t1,t2,decide_eq_true (by omega:i.toNat=0)];rfl)
theorem X1S.eq:EqS X7p Tryz.f90 [4] [X0K.e] [] (fun i x=>X1S.L x) (fun i x=>X1S.F x):=by intro i x;kernel_rfl
theorem X1S.ok:X0k Tryz.prog 90 X7p:=X1Z X1S.eq Tryz.func90 rfl (by kernel_rfl) fun i x h hi hw=>X1S.pure x h hw
def X1S.e:GE:=⟨90,X7p,⟨_,Tryz.func90,rfl,rfl⟩,X1S.ok⟩
def XrA(s:List UInt8):Prop:=s.length≤maxLen
def X9w:Con:={A:=.str,shA:=[.one],R:=.bool,shR:=[(false,1)],pre:=fun _ a=>(XrA a),f:=some fun _ a=>((XdP a),((),()))}
def X3Q.F(a0:U5q):Prop:=(True∧∀r1,(Eq r1 ((fIn (ln a0) 1 8),((),())))→(X00 (!r1.1) (Eq (false,((),())) ((XdP a0),((),()))) (eS [(0,.val false [.str a0])] [(0,.val false [.str a0])]∧((chI a0 0)∧∀(y2:Int),(chI a0 y2)→(X00 (decide (y2<(ln a0))) (0≤y2∧(y2<(ln a0)∧(X00 (decide (((UInt8.toNat (List.getD a0 (tN y2) 0):Nat):Int)<(97:Int))) (Eq (false,((),())) ((XdP a0),((),()))) (0≤y2∧(y2<(ln a0)∧(X00 (decide (((UInt8.toNat (List.getD a0 (tN y2) 0):Nat):Int)>(122:Int))) (Eq (false,((),())) ((XdP a0),((),()))) (eS [(0,.val false [.str a0])] [(0,.val false [.str a0])]∧(chI a0 (wI (y2+(1:Int))))∧(chM a0 (wI (y2+(1:Int))))<(chM a0 y2)))))))) (Eq (true,((),())) ((XdP a0),((),()))))))))
def X3Q.L(a0:U5q):Nat→Option X0e:=fun p=>Go.Proofs.YtcfaphojdacmbaaGreatR.Bv.look p [(58,{kp:={hold:=[0],slots:=[3],boxes:=[],rows:=[]},T:=(.int .i64),I:=fun st y=>chI a0 y,μ:=fun st y=>chM a0 y})]
theorem X3Q.pure(a0:U5q)(h:(XrA a0))(hw:Wf X9w.A a0):X3Q.F a0:=by
 delta X3Q.F ln tN wI eS
 have hw1:a0.length≤maxLen:=h
 unfold maxLen at hw1
 simp only[forall_eq,true_and,and_true,X01,Prod.mk.injEq,decide_eq_true_eq,decide_eq_false_iff_not,Bool.not_eq_true',Bool.not_eq_false']
 refine⟨fun h1=>by simp[XdP,h1],fun h1=>⟨⟨by omega,by omega,fun j hj=>absurd hj (by simp)⟩,?_⟩⟩
 have hin:¬(a0.length:Int)>8:=by
  simp only[fIn,Bool.and_eq_true,decide_eq_true_eq]at h1;omega
 rintro i ⟨h2,h3,h4⟩
 have fin:¬i<(a0.length:Int)→true=XdP a0:=fun hi=>by
  have:Xe9 (XlY a0) a0.length=true:=Xbe fun j hj=>h4 j (by omega)
  simp[XdP,this,h1]
 refine⟨?_,fin⟩
 intro hi
 have e2:IntKind.wrap .i64 (i+1)=i+1:=Go.IntWalk.i64_in _ (by omega)
 rw[e2]
 have no:XlY a0 i.toNat=false→false=XdP a0:=fun hp=>Xq2 (by omega) hp
 refine⟨h2,hi,fun t1=>no (by unfold XlY;rw[decide_eq_false (by omega)];rfl),fun t1=>⟨h2,hi,fun t2=>no (by unfold XlY;rw[decide_eq_false (p:=_≤(122:Int)) (by omega),Bool.and_false]),fun t2=>?_⟩⟩
 exact⟨⟨by omega,by omega,X9b h2 h4 (by unfold XlY;rw[decide_eq_true (by omega),decide_eq_true (by omega)];rfl)⟩,by unfold chM;omega⟩
theorem X3Q.eq:EqS X9w Tryz.f178 [4] [X1N.e] [] (fun i x=>X3Q.L x) (fun i x=>X3Q.F x):=by intro i x;kernel_rfl
theorem X3Q.ok:X0k Tryz.prog 178 X9w:=X1Z X3Q.eq Tryz.func178 rfl (by kernel_rfl) fun i x h hi hw=>X3Q.pure x h hw
def X3Q.e:GE:=⟨178,X9w,⟨_,Tryz.func178,rfl,rfl⟩,X3Q.ok⟩
def X9D:Con:={A:=.str,shA:=[.one],R:=.bool,shR:=[(false,1)],pre:=fun _ a=>(XrA a),f:=some fun _ a=>((XdP a),((),()))}
def X3R.F(a0:U5q):Prop:=(eS [(0,.val false [.str a0]),(5,.val false [.int .i64 (ln a0)])] [(0,.val false [.str a0]),(5,.val false [.int .i64 (ln a0)])]∧((chI a0 0)∧∀(y1:Int),(chI a0 y1)→(X00 (decide (y1<(ln a0))) (0≤y1∧(y1<(ln a0)∧(X00 (decide (((UInt8.toNat (List.getD a0 (tN y1) 0):Nat):Int)<(97:Int))) (Eq (false,((),())) ((XdP a0),((),()))) (0≤y1∧(y1<(ln a0)∧(X00 (decide (((UInt8.toNat (List.getD a0 (tN y1) 0):Nat):Int)>(122:Int))) (Eq (false,((),())) ((XdP a0),((),()))) (eS [(0,.val false [.str a0]),(5,.val false [.int .i64 (ln a0)])] [(0,.val false [.str a0]),(5,.val false [.int .i64 (ln a0)])]∧(chI a0 (wI (y1+(1:Int))))∧(chM a0 (wI (y1+(1:Int))))<(chM a0 y1)))))))) (True∧∀r2,(Eq r2 ((fIn (ln a0) 1 8),((),())))→(Eq (r2.1,((),())) ((XdP a0),((),())))))))
def X3R.L(a0:U5q):Nat→Option X0e:=fun p=>Go.Proofs.YtcfaphojdacmbaaGreatR.Bv.look p [(26,{kp:={hold:=[0,5],slots:=[6],boxes:=[],rows:=[]},T:=(.int .i64),I:=fun st y=>chI a0 y,μ:=fun st y=>chM a0 y})]
theorem X3R.pure(a0:U5q)(h:(XrA a0))(hw:Wf X9D.A a0):X3R.F a0:=by
 delta X3R.F ln tN wI eS
 have hw1:a0.length≤maxLen:=h
 unfold maxLen at hw1
 simp only[forall_eq,true_and,and_true,X01,Prod.mk.injEq,decide_eq_true_eq,decide_eq_false_iff_not,Bool.not_eq_true',Bool.not_eq_false']
 refine⟨⟨by omega,by omega,fun j hj=>absurd hj (by simp)⟩,?_⟩
 rintro i ⟨h2,h3,h4⟩
 have fin:¬i<(a0.length:Int)→fIn (a0.length:Int) 1 8=XdP a0:=fun hi=>by
  have:Xe9 (XlY a0) a0.length=true:=Xbe fun j hj=>h4 j (by omega)
  simp[XdP,this]
 refine⟨?_,fin⟩
 intro hi
 have e2:IntKind.wrap .i64 (i+1)=i+1:=Go.IntWalk.i64_in _ (by omega)
 rw[e2]
 have no:XlY a0 i.toNat=false→false=XdP a0:=fun hp=>Xq2 (by omega) hp
 refine⟨h2,hi,fun t1=>no (by unfold XlY;rw[decide_eq_false (by omega)];rfl),fun t1=>⟨h2,hi,fun t2=>no (by unfold XlY;rw[decide_eq_false (p:=_≤(122:Int)) (by omega),Bool.and_false]),fun t2=>?_⟩⟩
 exact⟨⟨by omega,by omega,X9b h2 h4 (by unfold XlY;rw[decide_eq_true (by omega),decide_eq_true (by omega)];rfl)⟩,by unfold chM;omega⟩
theorem X3R.eq:EqS X9D Tryz.f89 [4] [X0K.e] [] (fun i x=>X3R.L x) (fun i x=>X3R.F x):=by intro i x;kernel_rfl
theorem X3R.ok:X0k Tryz.prog 89 X9D:=X1Z X3R.eq Tryz.func89 rfl (by kernel_rfl) fun i x h hi hw=>X3R.pure x h hw
def X3R.e:GE:=⟨89,X9D,⟨_,Tryz.func89,rfl,rfl⟩,X3R.ok⟩
def X4v(l:List Ser):Prop:=∀s∈l,s.1.length≤maxLen
theorem XnG{l:List Ser}(h:X4v l){i:Int}(h0:0≤i)(hi:i<l.length):XrA (l.getD i.toNat ([],[])).1:=by
 have hlt:i.toNat<l.length:=by omega
 rw[List.getD_eq_getElem?_getD,List.getElem?_eq_getElem hlt]
 exact h _ (List.getElem_mem hlt)
def X7d:Con:={A:=X5X,shA:=[.one],R:=.bool,shR:=[(false,1)],pre:=fun _ a=>(X4v a),f:=some fun _ a=>((X2i a),((),()))}
def X1U.F(a0:U1q):Prop:=(X00 (decide ((ln a0)>(5:Int))) (Eq (false,((),())) ((X2i a0),((),()))) (eS [(0,.val false [.lst T4q a0 none])] [(0,.val false [.lst T4q a0 none])]∧((srI a0 0)∧∀(y1:Int),(srI a0 y1)→(X00 (decide (y1<(ln a0))) (0≤y1∧(y1<(ln a0)∧((XrA ((List.getD a0 (tN y1) ([],[])).1))∧∀r2,(Eq r2 ((XdP ((List.getD a0 (tN y1) ([],[])).1)),((),())))→(X00 (!r2.1) (Eq (false,((),())) ((X2i a0),((),()))) (X00 (decide (y1>(0:Int))) (0≤(wI (y1 - (1:Int)))∧((wI (y1 - (1:Int)))<(ln a0)∧(0≤y1∧(y1<(ln a0)∧(X00 (!Op.bytesLess ((List.getD a0 (tN (wI (y1 - (1:Int)))) ([],[])).1) ((List.getD a0 (tN y1) ([],[])).1)) (Eq (false,((),())) ((X2i a0),((),()))) (0≤y1∧(y1<(ln a0)∧(X00 ((ln ((List.getD a0 (tN y1) ([],[])).2))==(0:Int)) (Eq (false,((),())) ((X2i a0),((),()))) (0≤y1∧(y1<(ln a0)∧(True∧∀r3,(Eq r3 ((X25 ((List.getD a0 (tN y1) ([],[])).2)),((),())))→(X00 (!r3.1) (Eq (false,((),())) ((X2i a0),((),()))) (eS [(0,.val false [.lst T4q a0 none])] [(0,.val false [.lst T4q a0 none])]∧(srI a0 (wI (y1+(1:Int))))∧(srM a0 (wI (y1+(1:Int))))<(srM a0 y1)))))))))))))) (0≤y1∧(y1<(ln a0)∧(X00 ((ln ((List.getD a0 (tN y1) ([],[])).2))==(0:Int)) (Eq (false,((),())) ((X2i a0),((),()))) (0≤y1∧(y1<(ln a0)∧(True∧∀r4,(Eq r4 ((X25 ((List.getD a0 (tN y1) ([],[])).2)),((),())))→(X00 (!r4.1) (Eq (false,((),())) ((X2i a0),((),()))) (eS [(0,.val false [.lst T4q a0 none])] [(0,.val false [.lst T4q a0 none])]∧(srI a0 (wI (y1+(1:Int))))∧(srM a0 (wI (y1+(1:Int))))<(srM a0 y1)))))))))))))) (Eq (true,((),())) ((X2i a0),((),())))))))
def X1U.L(a0:U1q):Nat→Option X0e:=fun p=>Go.Proofs.YtcfaphojdacmbaaGreatR.Bv.look p [(58,{kp:={hold:=[0],slots:=[3],boxes:=[],rows:=[]},T:=(.int .i64),I:=fun st y=>srI a0 y,μ:=fun st y=>srM a0 y})]
theorem X1U.pure(a0:U1q)(h:(X4v a0))(hw:Wf X7d.A a0):X1U.F a0:=by
 delta X1U.F ln tN wI eS
 have hw1:a0.length≤maxLen:=hw.1
 unfold maxLen at hw1
 simp only[forall_eq,true_and,and_true,X01,Prod.mk.injEq,decide_eq_true_eq,decide_eq_false_iff_not,Bool.not_eq_true',Bool.not_eq_false']
 refine⟨fun h1=>?_,fun h1=>⟨⟨by omega,by omega,fun j hj=>absurd hj (by simp)⟩,?_⟩⟩
 · have:¬a0.length≤5:=by omega
   simp[X2i,this]
 rintro i ⟨h2,h3,h4⟩
 have fin:¬i<(a0.length:Int)→true=X2i a0:=fun hi=>by
  have:Xe9 (Xk8 a0) a0.length=true:=Xbe fun j hj=>h4 j (by omega)
  have h60:a0.length≤5:=by omega
  simp[X2i,this,h60]
 refine⟨?_,fin⟩
 intro hi
 have e2:IntKind.wrap .i64 (i+1)=i+1:=Go.IntWalk.i64_in _ (by omega)
 have e1:IntKind.wrap .i64 (i - 1)=i - 1:=Go.IntWalk.i64_in _ (by omega)
 have e3:(i - 1).toNat=i.toNat - 1:=by omega
 rw[e1,e2,e3]
 have no:Xk8 a0 i.toNat=false→false=X2i a0:=fun hp=>Xqn (by omega) hp
 have yes:Xk8 a0 i.toNat=true→srI a0 (i+1)∧srM a0 (i+1)<srM a0 i:=fun hp=>⟨⟨by omega,by omega,X9b h2 h4 hp⟩,by unfold srM;omega⟩
 have hk:=XnG h h2 hi
 generalize hx:a0.getD i.toNat ([],[])=x at*
 generalize hy:a0.getD (i.toNat - 1) ([],[])=y at*
 have hsr:Xk8 a0 i.toNat=(XdP x.1&&((decide (i.toNat=0)||Op.bytesLess y.1 x.1)&&(decide (x.2.length≠0)&&X25 x.2))):=by unfold Xk8;rw[hx,hy]
 refine⟨h2,hi,hk,fun t1=>no (by rw[hsr,t1];rfl),fun t1=>⟨fun hp=>⟨by omega,by omega,h2,hi,fun t2=>no ?_,fun t2=>⟨h2,hi,fun t3=>no ?_,fun t3=>⟨h2,hi,fun t4=>no ?_,fun t4=>yes ?_⟩⟩⟩,fun hp=>⟨h2,hi,fun t3=>no ?_,fun t3=>⟨h2,hi,fun t4=>no ?_,fun t4=>yes ?_⟩⟩⟩⟩
 · rw[hsr,t1,decide_eq_false (by omega),t2];rfl
 · rw[hsr,decide_eq_false (p:=x.2.length≠0) (by simp at t3;simp[t3])];simp
 · rw[hsr,t4];simp
 · have t5:x.2.length≠0:=by simp at t3;simpa using t3
   rw[hsr,t1,t2,t4,decide_eq_true t5];simp
 · rw[hsr,decide_eq_false (p:=x.2.length≠0) (by simp at t3;simp[t3])];simp
 · rw[hsr,t4];simp
 · have t5:x.2.length≠0:=by simp at t3;simpa using t3
   rw[hsr,t1,t4,decide_eq_true t5,decide_eq_true (by omega:i.toNat=0)];simp
theorem X1U.eq:EqS X7d Tryz.f104 [4] [X1W.e,X3Q.e] [] (fun i x=>X1U.L x) (fun i x=>X1U.F x):=by intro i x;kernel_rfl
theorem X1U.ok:X0k Tryz.prog 104 X7d:=X1Z X1U.eq Tryz.func104 rfl (by kernel_rfl) fun i x h hi hw=>X1U.pure x h hw
def X1U.e:GE:=⟨104,X7d,⟨_,Tryz.func104,rfl,rfl⟩,X1U.ok⟩
def X7b:Con:={A:=X5X,shA:=[.one],R:=.bool,shR:=[(false,1)],pre:=fun _ a=>(X4v a),f:=some fun _ a=>((X2i a),((),()))}
def X1P.F(a0:U1q):Prop:=(eS [(0,.val false [.lst T4q a0 none]),(5,.val false [.lst T4q a0 none]),(6,.val false [.int .i64 (ln a0)])] [(0,.val false [.lst T4q a0 none]),(5,.val false [.lst T4q a0 none]),(6,.val false [.int .i64 (ln a0)])]∧((srI a0 0)∧∀(y1:Int),(srI a0 y1)→(X00 (decide (y1<(ln a0))) (0≤y1∧(y1<(ln a0)∧((XrA ((List.getD a0 (tN y1) ([],[])).1))∧∀r2,(Eq r2 ((XdP ((List.getD a0 (tN y1) ([],[])).1)),((),())))→(X00 (!r2.1) (Eq (false,((),())) ((X2i a0),((),()))) (True∧∀r3,(Eq r3 ((X25 ((List.getD a0 (tN y1) ([],[])).2)),((),())))→(X00 (!r3.1) (Eq (false,((),())) ((X2i a0),((),()))) (X00 ((ln ((List.getD a0 (tN y1) ([],[])).2))==(0:Int)) (Eq (false,((),())) ((X2i a0),((),()))) (X00 (decide (y1>(0:Int))) (0≤(wI (y1 - (1:Int)))∧((wI (y1 - (1:Int)))<(ln a0)∧(X00 (!Op.bytesLess ((List.getD a0 (tN (wI (y1 - (1:Int)))) ([],[])).1) ((List.getD a0 (tN y1) ([],[])).1)) (Eq (false,((),())) ((X2i a0),((),()))) (eS [(0,.val false [.lst T4q a0 none]),(5,.val false [.lst T4q a0 none]),(6,.val false [.int .i64 (ln a0)])] [(0,.val false [.lst T4q a0 none]),(5,.val false [.lst T4q a0 none]),(6,.val false [.int .i64 (ln a0)])]∧(srI a0 (wI (y1+(1:Int))))∧(srM a0 (wI (y1+(1:Int))))<(srM a0 y1))))) (eS [(0,.val false [.lst T4q a0 none]),(5,.val false [.lst T4q a0 none]),(6,.val false [.int .i64 (ln a0)])] [(0,.val false [.lst T4q a0 none]),(5,.val false [.lst T4q a0 none]),(6,.val false [.int .i64 (ln a0)])]∧(srI a0 (wI (y1+(1:Int))))∧(srM a0 (wI (y1+(1:Int))))<(srM a0 y1)))))))))) (Eq ((decide ((ln a0)≤(5:Int))),((),())) ((X2i a0),((),()))))))
def X1P.L(a0:U1q):Nat→Option X0e:=fun p=>Go.Proofs.YtcfaphojdacmbaaGreatR.Bv.look p [(26,{kp:={hold:=[0,5,6],slots:=[7],boxes:=[],rows:=[]},T:=(.int .i64),I:=fun st y=>srI a0 y,μ:=fun st y=>srM a0 y})]
theorem X1P.pure(a0:U1q)(h:(X4v a0))(hw:Wf X7b.A a0):X1P.F a0:=by
 delta X1P.F ln tN wI eS
 have hw1:a0.length≤maxLen:=hw.1
 unfold maxLen at hw1
 simp only[forall_eq,true_and,and_true,X01,Prod.mk.injEq,decide_eq_true_eq,decide_eq_false_iff_not,Bool.not_eq_true',Bool.not_eq_false']
 refine⟨⟨by omega,by omega,fun j hj=>absurd hj (by simp)⟩,?_⟩
 rintro i ⟨h2,h3,h4⟩
 have fin:¬i<(a0.length:Int)→decide ((a0.length:Int)≤5)=X2i a0:=fun hi=>by
  have:Xe9 (Xk8 a0) a0.length=true:=Xbe fun j hj=>h4 j (by omega)
  simp[X2i,this];omega
 refine⟨?_,fin⟩
 intro hi
 have e2:IntKind.wrap .i64 (i+1)=i+1:=Go.IntWalk.i64_in _ (by omega)
 have e1:IntKind.wrap .i64 (i - 1)=i - 1:=Go.IntWalk.i64_in _ (by omega)
 have e3:(i - 1).toNat=i.toNat - 1:=by omega
 rw[e1,e2,e3]
 have no:Xk8 a0 i.toNat=false→false=X2i a0:=fun hp=>Xqn (by omega) hp
 have yes:Xk8 a0 i.toNat=true→srI a0 (i+1)∧srM a0 (i+1)<srM a0 i:=fun hp=>⟨⟨by omega,by omega,X9b h2 h4 hp⟩,by unfold srM;omega⟩
 have hk:=XnG h h2 hi
 generalize hx:a0.getD i.toNat ([],[])=x at*
 generalize hy:a0.getD (i.toNat - 1) ([],[])=y at*
 have hsr:Xk8 a0 i.toNat=(XdP x.1&&((decide (i.toNat=0)||Op.bytesLess y.1 x.1)&&(decide (x.2.length≠0)&&X25 x.2))):=by unfold Xk8;rw[hx,hy]
 refine⟨h2,hi,hk,fun t1=>no (by rw[hsr,t1];rfl),fun t1=>⟨fun t4=>no ?_,fun t4=>⟨fun t3=>no ?_,fun t3=>⟨fun hp=>⟨by omega,by omega,fun t2=>no ?_,fun t2=>yes ?_⟩,fun hp=>yes ?_⟩⟩⟩⟩
 · rw[hsr,t4];simp
 · rw[hsr,decide_eq_false (p:=x.2.length≠0) (by simp at t3;simp[t3])];simp
 · rw[hsr,t1,decide_eq_false (by omega),t2];rfl
 · have t5:x.2.length≠0:=by simp at t3;simpa using t3
   rw[hsr,t1,t2,t4,decide_eq_true t5];simp
 · have t5:x.2.length≠0:=by simp at t3;simpa using t3
   rw[hsr,t1,t4,decide_eq_true t5,decide_eq_true (by omega:i.toNat=0)];simp
theorem X1P.eq:EqS X7b Tryz.f91 [4] [X3R.e,X1S.e] [] (fun i x=>X1P.L x) (fun i x=>X1P.F x):=by intro i x;kernel_rfl
theorem X1P.ok:X0k Tryz.prog 91 X7b:=X1Z X1P.eq Tryz.func91 rfl (by kernel_rfl) fun i x h hi hw=>X1P.pure x h hw
def X1P.e:GE:=⟨91,X7b,⟨_,Tryz.func91,rfl,rfl⟩,X1P.ok⟩
end Go.Proofs.YtcfaphojdacmbaaGreatR.B
