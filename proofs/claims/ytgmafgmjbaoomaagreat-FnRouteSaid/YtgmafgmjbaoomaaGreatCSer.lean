/- Series of points:are they right? -/
import Derived.Test.YtgmafgmjbaoomaaGreatCCover
set_option maxRecDepth 100000
set_option linter.unusedVariables false
set_option linter.unusedSimpArgs false
namespace Go.Proofs.YtgmafgmjbaoomaaGreat.B
open Go Go.Proofs.YtgmafgmjbaoomaaGreat.Bv
abbrev Pt:=Int×Int
abbrev Ser:=List UInt8×List (Int×Int)
def X6n(a:Int):Bool:=fIn a 0 1099511627776
def XcP(p:Nat→Bool)(n:Nat):Bool:=(List.range n).all p
theorem X9i{p:Nat→Bool}{n:Nat}(h:∀j,j<n→p j=true):XcP p n=true:=by
 simp only[XcP,List.all_eq_true,List.mem_range];exact h
theorem XgM{p:Nat→Bool}{n j:Nat}(h:j<n)(hp:p j=false):XcP p n=false:=by
 cases e:XcP p n with
 | false=>rfl
 | true=>
   simp only[XcP,List.all_eq_true,List.mem_range]at e
   rw[e j h]at hp;cases hp
theorem X8D{p:Nat→Bool}{i:Int}(h0:0≤i)(h:∀j,j<i.toNat→p j=true)(hp:p i.toNat=true):∀j,j<(i+1).toNat→p j=true:=fun j hj=>by
 by_cases e:j=i.toNat
 · rw[e];exact hp
 · exact h j (by omega)
def Xci(l:List Pt)(i:Nat):Bool:=fIn (l.getD i (0,0)).1 0 1099511627776&&(fIn (l.getD i (0,0)).2 (-1099511627776) 1099511627776&&(decide (i=0)||decide ((l.getD (i - 1) (0,0)).1<(l.getD i (0,0)).1)))
def X1G(l:List Pt):Bool:=decide (l.length≤60)&&XcP (Xci l) l.length
def ptI(l:List Pt)(i:Int):Prop:=0≤i∧i≤l.length∧∀j,j<i.toNat→Xci l j=true
def ptM(l:List Pt)(i:Int):Nat:=(l.length - i).toNat
theorem Xml{l:List Pt}{j:Nat}(h:j<l.length)(hp:Xci l j=false):false=X1G l:=by simp[X1G,XgM h hp]
def Xim(s:List UInt8)(i:Nat):Bool:=decide ((97:Int)≤((s.getD i 0).toNat:Int))&&decide (((s.getD i 0).toNat:Int)≤122)
def X7L(s:List UInt8):Bool:=fIn s.length 1 8&&XcP (Xim s) s.length
def chI(s:List UInt8)(i:Int):Prop:=0≤i∧i≤s.length∧∀j,j<i.toNat→Xim s j=true
def chM(s:List UInt8)(i:Int):Nat:=(s.length - i).toNat
theorem Xmm{s:List UInt8}{j:Nat}(h:j<s.length)(hp:Xim s j=false):false=X7L s:=by simp[X7L,XgM h hp]
def srAt(l:List Ser)(i:Nat):Bool:=X7L (l.getD i ([],[])).1&&((decide (i=0)||Op.bytesLess (l.getD (i - 1) ([],[])).1 (l.getD i ([],[])).1)&&(decide ((l.getD i ([],[])).2.length≠0)&&X1G (l.getD i ([],[])).2))
def X8C(l:List Ser):Bool:=decide (l.length≤5)&&XcP (srAt l) l.length
def srI(l:List Ser)(i:Int):Prop:=0≤i∧i≤l.length∧∀j,j<i.toNat→srAt l j=true
def srM(l:List Ser)(i:Int):Nat:=(l.length - i).toNat
def X5O:Con:={A:=(.int .i64),shA:=[.one],R:=.bool,shR:=[(false,1)],pre:=fun _ _=>True,f:=some fun _ a=>((X6n a),((),()))}
def X2d.F(a0:Int):Prop:=(True∧∀r1,(Eq r1 ((fIn a0 0 1099511627776),((),())))→(Eq (r1.1,((),())) ((X6n a0),((),()))))
theorem X2d.pure(a0:Int)(h:True)(hw:Wf X5O.A a0):X2d.F a0:=by
 unfold X2d.F
 simp only[forall_eq,true_and,and_true,Prod.mk.injEq]
 rfl
theorem X2d.eq:EqS X5O Tryz.f49 [4] [X0A.e] [] noL (fun i x=>X2d.F x):=by intro i x;kernel_rfl
theorem X2d.ok:X0o Tryz.prog 49 X5O:=X2u X2d.eq Tryz.func49 rfl (by kernel_rfl) fun i x h hi hw=>X2d.pure x h hw
def X2d.e:GE:=⟨49,X5O,⟨_,Tryz.func49,rfl,rfl⟩,X2d.ok⟩
def X4D:Con:={A:=X60,shA:=[.one],R:=.bool,shR:=[(false,1)],pre:=fun _ _=>True,f:=some fun _ a=>((X1G a),((),()))}
def X1t.F(a0:U5q):Prop:=(X00 (decide ((ln a0)>(60:Int))) (Eq (false,((),())) ((X1G a0),((),()))) (eS [(0,.val false [.lst T0q a0 none])] [(0,.val false [.lst T0q a0 none])]∧((ptI a0 0)∧∀(y1:Int),(ptI a0 y1)→(X00 (decide (y1<(ln a0))) (0≤y1∧(y1<(ln a0)∧(True∧∀r2,(Eq r2 ((fIn ((List.getD a0 (tN y1) (0,0)).1) 0 1099511627776),((),())))→(X00 (!r2.1) (Eq (false,((),())) ((X1G a0),((),()))) (0≤y1∧(y1<(ln a0)∧(True∧∀r3,(Eq r3 ((fIn ((List.getD a0 (tN y1) (0,0)).2) (-1099511627776) 1099511627776),((),())))→(X00 (!r3.1) (Eq (false,((),())) ((X1G a0),((),()))) (X00 (decide (y1>(0:Int))) (0≤(wI (y1 - (1:Int)))∧((wI (y1 - (1:Int)))<(ln a0)∧(0≤y1∧(y1<(ln a0)∧(X00 (decide (((List.getD a0 (tN (wI (y1 - (1:Int)))) (0,0)).1)≥((List.getD a0 (tN y1) (0,0)).1))) (Eq (false,((),())) ((X1G a0),((),()))) (eS [(0,.val false [.lst T0q a0 none])] [(0,.val false [.lst T0q a0 none])]∧(ptI a0 (wI (y1+(1:Int))))∧(ptM a0 (wI (y1+(1:Int))))<(ptM a0 y1))))))) (eS [(0,.val false [.lst T0q a0 none])] [(0,.val false [.lst T0q a0 none])]∧(ptI a0 (wI (y1+(1:Int))))∧(ptM a0 (wI (y1+(1:Int))))<(ptM a0 y1))))))))))) (Eq (true,((),())) ((X1G a0),((),())))))))
def X1t.L(a0:U5q):Nat→Option X0a:=fun p=>Go.Proofs.YtgmafgmjbaoomaaGreat.Bv.look p [(58,{kp:={hold:=[0],slots:=[3],boxes:=[],rows:=[]},T:=(.int .i64),I:=fun st y=>ptI a0 y,μ:=fun st y=>ptM a0 y})]
theorem X1t.pure(a0:U5q)(h:True)(hw:Wf X4D.A a0):X1t.F a0:=by
 delta X1t.F ln tN wI eS
 have hw1:a0.length≤maxLen:=hw.1
 unfold maxLen at hw1
 simp only[forall_eq,true_and,and_true,X03,Prod.mk.injEq,decide_eq_true_eq,decide_eq_false_iff_not,Bool.not_eq_true',Bool.not_eq_false']
 refine⟨fun h1=>?_,fun h1=>⟨⟨by omega,by omega,fun j hj=>absurd hj (by simp)⟩,?_⟩⟩
 · have:¬a0.length≤60:=by omega
   simp[X1G,this]
 rintro i ⟨h2,h3,h4⟩
 have fin:¬i<(a0.length:Int)→true=X1G a0:=fun hi=>by
  have:XcP (Xci a0) a0.length=true:=X9i fun j hj=>h4 j (by omega)
  have h60:a0.length≤60:=by omega
  simp[X1G,this,h60]
 refine⟨?_,fin⟩
 intro hi
 have e2:IntKind.wrap .i64 (i+1)=i+1:=Go.IntWalk.i64_in _ (by omega)
 have e1:IntKind.wrap .i64 (i - 1)=i - 1:=Go.IntWalk.i64_in _ (by omega)
 have e3:(i - 1).toNat=i.toNat - 1:=by omega
 rw[e1,e2,e3]
 have no:Xci a0 i.toNat=false→false=X1G a0:=fun hp=>Xml (by omega) hp
 have yes:Xci a0 i.toNat=true→ptI a0 (i+1)∧ptM a0 (i+1)<ptM a0 i:=fun hp=>⟨⟨by omega,by omega,X8D h2 h4 hp⟩,by unfold ptM;omega⟩
 refine⟨h2,hi,fun t1=>no (by unfold Xci;rw[t1];rfl),fun t1=>⟨h2,hi,?_,fun t2=>⟨fun hp=>⟨by omega,by omega,h2,hi,?_,?_⟩,fun hp=>?_⟩⟩⟩
 · intro t2;exact no (by unfold Xci;rw[t1,t2];rfl)
 · intro t3;exact no (by unfold Xci;rw[t1,t2,decide_eq_false (by omega:¬i.toNat=0),decide_eq_false (by omega)];rfl)
 · intro t3;exact yes (by unfold Xci;rw[t1,t2,decide_eq_true (by omega:(a0.getD (i.toNat - 1) (0,0)).1<(a0.getD i.toNat (0,0)).1),Bool.or_true];rfl)
 · exact yes (by unfold Xci;rw[t1,t2,decide_eq_true (by omega:i.toNat=0)];rfl)
theorem X1t.eq:EqS X4D Tryz.f115 [4] [X1j.e] [] (fun i x=>X1t.L x) (fun i x=>X1t.F x):=by intro i x;kernel_rfl
theorem X1t.ok:X0o Tryz.prog 115 X4D:=X2u X1t.eq Tryz.func115 rfl (by kernel_rfl) fun i x h hi hw=>X1t.pure x h hw
def X1t.e:GE:=⟨115,X4D,⟨_,Tryz.func115,rfl,rfl⟩,X1t.ok⟩
def X4P:Con:={A:=X60,shA:=[.one],R:=.bool,shR:=[(false,1)],pre:=fun _ _=>True,f:=some fun _ a=>((X1G a),((),()))}
def X1s.F(a0:U5q):Prop:=(eS [(0,.val false [.lst T0q a0 none]),(5,.val false [.lst T0q a0 none]),(6,.val false [.int .i64 (ln a0)])] [(0,.val false [.lst T0q a0 none]),(5,.val false [.lst T0q a0 none]),(6,.val false [.int .i64 (ln a0)])]∧((ptI a0 0)∧∀(y1:Int),(ptI a0 y1)→(X00 (decide (y1<(ln a0))) (0≤y1∧(y1<(ln a0)∧(True∧∀r2,(Eq r2 ((fIn ((List.getD a0 (tN y1) (0,0)).1) 0 1099511627776),((),())))→(X00 (!r2.1) (Eq (false,((),())) ((X1G a0),((),()))) (True∧∀r3,(Eq r3 ((fIn ((List.getD a0 (tN y1) (0,0)).2) (-1099511627776) 1099511627776),((),())))→(X00 (!r3.1) (Eq (false,((),())) ((X1G a0),((),()))) (X00 (decide (y1>(0:Int))) (0≤(wI (y1 - (1:Int)))∧((wI (y1 - (1:Int)))<(ln a0)∧(X00 (decide (((List.getD a0 (tN (wI (y1 - (1:Int)))) (0,0)).1)≥((List.getD a0 (tN y1) (0,0)).1))) (Eq (false,((),())) ((X1G a0),((),()))) (eS [(0,.val false [.lst T0q a0 none]),(5,.val false [.lst T0q a0 none]),(6,.val false [.int .i64 (ln a0)])] [(0,.val false [.lst T0q a0 none]),(5,.val false [.lst T0q a0 none]),(6,.val false [.int .i64 (ln a0)])]∧(ptI a0 (wI (y1+(1:Int))))∧(ptM a0 (wI (y1+(1:Int))))<(ptM a0 y1))))) (eS [(0,.val false [.lst T0q a0 none]),(5,.val false [.lst T0q a0 none]),(6,.val false [.int .i64 (ln a0)])] [(0,.val false [.lst T0q a0 none]),(5,.val false [.lst T0q a0 none]),(6,.val false [.int .i64 (ln a0)])]∧(ptI a0 (wI (y1+(1:Int))))∧(ptM a0 (wI (y1+(1:Int))))<(ptM a0 y1))))))))) (Eq ((decide ((ln a0)≤(60:Int))),((),())) ((X1G a0),((),()))))))
def X1s.L(a0:U5q):Nat→Option X0a:=fun p=>Go.Proofs.YtgmafgmjbaoomaaGreat.Bv.look p [(26,{kp:={hold:=[0,5,6],slots:=[7],boxes:=[],rows:=[]},T:=(.int .i64),I:=fun st y=>ptI a0 y,μ:=fun st y=>ptM a0 y})]
theorem X1s.pure(a0:U5q)(h:True)(hw:Wf X4P.A a0):X1s.F a0:=by
 delta X1s.F ln tN wI eS
 have hw1:a0.length≤maxLen:=hw.1
 unfold maxLen at hw1
 simp only[forall_eq,true_and,and_true,X03,Prod.mk.injEq,decide_eq_true_eq,decide_eq_false_iff_not,Bool.not_eq_true',Bool.not_eq_false']
 refine⟨⟨by omega,by omega,fun j hj=>absurd hj (by simp)⟩,?_⟩
 rintro i ⟨h2,h3,h4⟩
 have fin:¬i<(a0.length:Int)→decide ((a0.length:Int)≤60)=X1G a0:=fun hi=>by
  have:XcP (Xci a0) a0.length=true:=X9i fun j hj=>h4 j (by omega)
  simp[X1G,this];omega
 refine⟨?_,fin⟩
 intro hi
 have e2:IntKind.wrap .i64 (i+1)=i+1:=Go.IntWalk.i64_in _ (by omega)
 have e1:IntKind.wrap .i64 (i - 1)=i - 1:=Go.IntWalk.i64_in _ (by omega)
 have e3:(i - 1).toNat=i.toNat - 1:=by omega
 rw[e1,e2,e3]
 have no:Xci a0 i.toNat=false→false=X1G a0:=fun hp=>Xml (by omega) hp
 have yes:Xci a0 i.toNat=true→ptI a0 (i+1)∧ptM a0 (i+1)<ptM a0 i:=fun hp=>⟨⟨by omega,by omega,X8D h2 h4 hp⟩,by unfold ptM;omega⟩
 refine⟨h2,hi,fun t1=>no (by unfold Xci;rw[t1];rfl),fun t1=>⟨?_,fun t2=>⟨fun hp=>⟨by omega,by omega,?_,?_⟩,fun hp=>?_⟩⟩⟩
 · intro t2;exact no (by unfold Xci;rw[t1,t2];rfl)
 · intro t3;exact no (by unfold Xci;rw[t1,t2,decide_eq_false (by omega:¬i.toNat=0),decide_eq_false (by omega)];rfl)
 · intro t3;exact yes (by unfold Xci;rw[t1,t2,decide_eq_true (by omega:(a0.getD (i.toNat - 1) (0,0)).1<(a0.getD i.toNat (0,0)).1),Bool.or_true];rfl)
 · exact yes (by unfold Xci;rw[t1,t2,decide_eq_true (by omega:i.toNat=0)];rfl)
theorem X1s.eq:EqS X4P Tryz.f152 [4] [X0A.e] [] (fun i x=>X1s.L x) (fun i x=>X1s.F x):=by intro i x;kernel_rfl
theorem X1s.ok:X0o Tryz.prog 152 X4P:=X2u X1s.eq Tryz.func152 rfl (by kernel_rfl) fun i x h hi hw=>X1s.pure x h hw
def X1s.e:GE:=⟨152,X4P,⟨_,Tryz.func152,rfl,rfl⟩,X1s.ok⟩
def XcI(s:List UInt8):Prop:=s.length≤maxLen
def X6z:Con:={A:=.str,shA:=[.one],R:=.bool,shR:=[(false,1)],pre:=fun _ a=>(XcI a),f:=some fun _ a=>((X7L a),((),()))}
def X2I.F(a0:U4q):Prop:=(True∧∀r1,(Eq r1 ((fIn (ln a0) 1 8),((),())))→(X00 (!r1.1) (Eq (false,((),())) ((X7L a0),((),()))) (eS [(0,.val false [.str a0])] [(0,.val false [.str a0])]∧((chI a0 0)∧∀(y2:Int),(chI a0 y2)→(X00 (decide (y2<(ln a0))) (0≤y2∧(y2<(ln a0)∧(X00 (decide (((UInt8.toNat (List.getD a0 (tN y2) 0):Nat):Int)<(97:Int))) (Eq (false,((),())) ((X7L a0),((),()))) (0≤y2∧(y2<(ln a0)∧(X00 (decide (((UInt8.toNat (List.getD a0 (tN y2) 0):Nat):Int)>(122:Int))) (Eq (false,((),())) ((X7L a0),((),()))) (eS [(0,.val false [.str a0])] [(0,.val false [.str a0])]∧(chI a0 (wI (y2+(1:Int))))∧(chM a0 (wI (y2+(1:Int))))<(chM a0 y2)))))))) (Eq (true,((),())) ((X7L a0),((),()))))))))
def X2I.L(a0:U4q):Nat→Option X0a:=fun p=>Go.Proofs.YtgmafgmjbaoomaaGreat.Bv.look p [(58,{kp:={hold:=[0],slots:=[3],boxes:=[],rows:=[]},T:=(.int .i64),I:=fun st y=>chI a0 y,μ:=fun st y=>chM a0 y})]
theorem X2I.pure(a0:U4q)(h:(XcI a0))(hw:Wf X6z.A a0):X2I.F a0:=by
 delta X2I.F ln tN wI eS
 have hw1:a0.length≤maxLen:=h
 unfold maxLen at hw1
 simp only[forall_eq,true_and,and_true,X03,Prod.mk.injEq,decide_eq_true_eq,decide_eq_false_iff_not,Bool.not_eq_true',Bool.not_eq_false']
 refine⟨fun h1=>by simp[X7L,h1],fun h1=>⟨⟨by omega,by omega,fun j hj=>absurd hj (by simp)⟩,?_⟩⟩
 have hin:¬(a0.length:Int)>8:=by
  simp only[fIn,Bool.and_eq_true,decide_eq_true_eq]at h1;omega
 rintro i ⟨h2,h3,h4⟩
 have fin:¬i<(a0.length:Int)→true=X7L a0:=fun hi=>by
  have:XcP (Xim a0) a0.length=true:=X9i fun j hj=>h4 j (by omega)
  simp[X7L,this,h1]
 refine⟨?_,fin⟩
 intro hi
 have e2:IntKind.wrap .i64 (i+1)=i+1:=Go.IntWalk.i64_in _ (by omega)
 rw[e2]
 have no:Xim a0 i.toNat=false→false=X7L a0:=fun hp=>Xmm (by omega) hp
 refine⟨h2,hi,fun t1=>no (by unfold Xim;rw[decide_eq_false (by omega)];rfl),fun t1=>⟨h2,hi,fun t2=>no (by unfold Xim;rw[decide_eq_false (p:=_≤(122:Int)) (by omega),Bool.and_false]),fun t2=>?_⟩⟩
 exact⟨⟨by omega,by omega,X8D h2 h4 (by unfold Xim;rw[decide_eq_true (by omega),decide_eq_true (by omega)];rfl)⟩,by unfold chM;omega⟩
theorem X2I.eq:EqS X6z Tryz.f106 [4] [X1j.e] [] (fun i x=>X2I.L x) (fun i x=>X2I.F x):=by intro i x;kernel_rfl
theorem X2I.ok:X0o Tryz.prog 106 X6z:=X2u X2I.eq Tryz.func106 rfl (by kernel_rfl) fun i x h hi hw=>X2I.pure x h hw
def X2I.e:GE:=⟨106,X6z,⟨_,Tryz.func106,rfl,rfl⟩,X2I.ok⟩
def X6A:Con:={A:=.str,shA:=[.one],R:=.bool,shR:=[(false,1)],pre:=fun _ a=>(XcI a),f:=some fun _ a=>((X7L a),((),()))}
def X2F.F(a0:U4q):Prop:=(eS [(0,.val false [.str a0]),(5,.val false [.int .i64 (ln a0)])] [(0,.val false [.str a0]),(5,.val false [.int .i64 (ln a0)])]∧((chI a0 0)∧∀(y1:Int),(chI a0 y1)→(X00 (decide (y1<(ln a0))) (0≤y1∧(y1<(ln a0)∧(X00 (decide (((UInt8.toNat (List.getD a0 (tN y1) 0):Nat):Int)<(97:Int))) (Eq (false,((),())) ((X7L a0),((),()))) (0≤y1∧(y1<(ln a0)∧(X00 (decide (((UInt8.toNat (List.getD a0 (tN y1) 0):Nat):Int)>(122:Int))) (Eq (false,((),())) ((X7L a0),((),()))) (eS [(0,.val false [.str a0]),(5,.val false [.int .i64 (ln a0)])] [(0,.val false [.str a0]),(5,.val false [.int .i64 (ln a0)])]∧(chI a0 (wI (y1+(1:Int))))∧(chM a0 (wI (y1+(1:Int))))<(chM a0 y1)))))))) (True∧∀r2,(Eq r2 ((fIn (ln a0) 1 8),((),())))→(Eq (r2.1,((),())) ((X7L a0),((),())))))))
def X2F.L(a0:U4q):Nat→Option X0a:=fun p=>Go.Proofs.YtgmafgmjbaoomaaGreat.Bv.look p [(26,{kp:={hold:=[0,5],slots:=[6],boxes:=[],rows:=[]},T:=(.int .i64),I:=fun st y=>chI a0 y,μ:=fun st y=>chM a0 y})]
theorem X2F.pure(a0:U4q)(h:(XcI a0))(hw:Wf X6A.A a0):X2F.F a0:=by
 delta X2F.F ln tN wI eS
 have hw1:a0.length≤maxLen:=h
 unfold maxLen at hw1
 simp only[forall_eq,true_and,and_true,X03,Prod.mk.injEq,decide_eq_true_eq,decide_eq_false_iff_not,Bool.not_eq_true',Bool.not_eq_false']
 refine⟨⟨by omega,by omega,fun j hj=>absurd hj (by simp)⟩,?_⟩
 rintro i ⟨h2,h3,h4⟩
 have fin:¬i<(a0.length:Int)→fIn (a0.length:Int) 1 8=X7L a0:=fun hi=>by
  have:XcP (Xim a0) a0.length=true:=X9i fun j hj=>h4 j (by omega)
  simp[X7L,this]
 refine⟨?_,fin⟩
 intro hi
 have e2:IntKind.wrap .i64 (i+1)=i+1:=Go.IntWalk.i64_in _ (by omega)
 rw[e2]
 have no:Xim a0 i.toNat=false→false=X7L a0:=fun hp=>Xmm (by omega) hp
 refine⟨h2,hi,fun t1=>no (by unfold Xim;rw[decide_eq_false (by omega)];rfl),fun t1=>⟨h2,hi,fun t2=>no (by unfold Xim;rw[decide_eq_false (p:=_≤(122:Int)) (by omega),Bool.and_false]),fun t2=>?_⟩⟩
 exact⟨⟨by omega,by omega,X8D h2 h4 (by unfold Xim;rw[decide_eq_true (by omega),decide_eq_true (by omega)];rfl)⟩,by unfold chM;omega⟩
theorem X2F.eq:EqS X6A Tryz.f97 [4] [X0A.e] [] (fun i x=>X2F.L x) (fun i x=>X2F.F x):=by intro i x;kernel_rfl
theorem X2F.ok:X0o Tryz.prog 97 X6A:=X2u X2F.eq Tryz.func97 rfl (by kernel_rfl) fun i x h hi hw=>X2F.pure x h hw
def X2F.e:GE:=⟨97,X6A,⟨_,Tryz.func97,rfl,rfl⟩,X2F.ok⟩
def Xlv.L(a0:U8q):Nat→Option X0a:=fun p=>Go.Proofs.YtgmafgmjbaoomaaGreat.Bv.look p [(58,{kp:={hold:=[0],slots:=[3],boxes:=[],rows:=[]},T:=(.int .i64),I:=fun st y=>srI a0 y,μ:=fun st y=>srM a0 y})]
def Xkz.L(a0:U8q):Nat→Option X0a:=fun p=>Go.Proofs.YtgmafgmjbaoomaaGreat.Bv.look p [(26,{kp:={hold:=[0,5,6],slots:=[7],boxes:=[],rows:=[]},T:=(.int .i64),I:=fun st y=>srI a0 y,μ:=fun st y=>srM a0 y})]
end Go.Proofs.YtgmafgmjbaoomaaGreat.B
