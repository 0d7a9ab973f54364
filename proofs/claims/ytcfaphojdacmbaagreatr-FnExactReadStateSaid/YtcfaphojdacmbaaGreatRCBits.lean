/- Bits:numbers with a sign,times,values. -/
import Derived.Test.YtcfaphojdacmbaaGreatRCSum
set_option maxRecDepth 100000
set_option linter.unusedVariables false
set_option linter.unusedSimpArgs false
namespace Go.Proofs.YtcfaphojdacmbaaGreatR.B
open Go Go.Proofs.YtcfaphojdacmbaaGreatR.Bv
def Xd2(n:Int):Int:=if fIn n (-140737488355328) 140737488355328 then(if n<0 then -2*n - 1 else 2*n) else -1
def Xi4(n:Int):List UInt8:=X0v (Xd2 n)
def XaK(l:List Int)(i:Nat):Bool:=fIn (l.getD i 0) 0 1099511627776&&(decide (i=0)||decide (l.getD (i - 1) 0<l.getD i 0))
def X9X(l:List Int):Bool:=fIn l.length 1 60&&Xe9 (XaK l) l.length
def X8C(l:List Int)(i:Nat):Bool:=fIn (l.getD i 0) (-1099511627776) 1099511627776
def Xa6(l:List Int):Bool:=fIn l.length 1 60&&Xe9 (X8C l) l.length
theorem Xe3{p:Nat→Bool}{n:Nat}:Xe9 p n=true↔∀j,j<n→p j=true:=by simp[Xe9]
theorem X4S{l:List Int}:X9X l=true↔(1≤l.length∧l.length≤60)∧∀j,j<l.length→XaK l j=true:=by
 simp only[X9X,Bool.and_eq_true,X0C,Xe3]
 exact⟨fun h=>⟨by omega,h.2⟩,fun h=>⟨by omega,h.2⟩⟩
theorem X5n{l:List Int}:Xa6 l=true↔(1≤l.length∧l.length≤60)∧∀j,j<l.length→X8C l j=true:=by
 simp only[Xa6,Bool.and_eq_true,X0C,Xe3]
 exact⟨fun h=>⟨by omega,h.2⟩,fun h=>⟨by omega,h.2⟩⟩
theorem X8Q{l:List Int}{i:Nat}:XaK l i=true↔(0≤l.getD i 0∧l.getD i 0≤1099511627776)∧(i=0∨l.getD (i - 1) 0<l.getD i 0):=by
 simp[XaK,fIn]
theorem XcC{l:List Int}{i:Nat}:X8C l i=true↔-1099511627776≤l.getD i 0∧l.getD i 0≤1099511627776:=by simp[X8C,fIn]
def scI(p:List Int→Nat→Bool)(l:List Int)(i:Int):Prop:=0≤i∧i≤l.length∧l.length≤60∧1≤l.length∧∀j,j<i.toNat→p l j=true
def scM(l:List Int)(i:Int):Nat:=(l.length - i).toNat
def Xc0(l:List Int)(i:Nat):List UInt8:=if i=0 then X0v (l.getD 0 0) else if i=1 then X0v (l.getD 1 0 - l.getD 0 0) else X0v (Xd2 (l.getD i 0 - l.getD (i - 1) 0 - (l.getD (i - 1) 0 - l.getD (i - 2) 0)))
def tmS(l:List Int):Nat→List UInt8
 | 0=>[]
 | i+1=>tmS l i++Xc0 l i
theorem Xlb(l:List Int)(i:Nat):tmS l (i+1)=tmS l i++Xc0 l i:=rfl
def X0l(l:List Int):List UInt8:=if X9X l then tmS l l.length else []
def Xeq(l:List Int)(i:Nat):List UInt8:=X0v (Xd2 (l.getD i 0 - (if i=0 then 0 else l.getD (i - 1) 0)))
def vlS(l:List Int):Nat→List UInt8
 | 0=>[]
 | i+1=>vlS l i++Xeq l i
theorem Xky(l:List Int)(i:Nat):vlS l (i+1)=vlS l i++Xeq l i:=rfl
def X0h(l:List Int):List UInt8:=if Xa6 l then vlS l l.length else []
theorem X9A(n:Int):(X0v n).length≤7:=X0d n
theorem Xgx(l:List Int):∀i,(tmS l i).length≤7*i
 | 0=>by simp[tmS]
 | i+1=>by
   have h:=Xgx l i
   have h1:(Xc0 l i).length≤7:=by
    unfold Xc0
    split
    · exact X0d _
    · split<;>exact X0d _
   rw[Xlb,List.length_append];omega
theorem XgI(l:List Int):∀i,(vlS l i).length≤7*i
 | 0=>by simp[vlS]
 | i+1=>by
   have h:=XgI l i
   have h1:(Xeq l i).length≤7:=X0d _
   rw[Xky,List.length_append];omega
theorem X5G(l:List Int):(X0l l).length≤420:=by
 unfold X0l;split
 · rename_i h
   have:=Xgx l l.length
   have:=(X4S.1 h).1;omega
 · simp
theorem X56(l:List Int):(X0h l).length≤420:=by
 unfold X0h;split
 · rename_i h
   have:=XgI l l.length
   have:=(X5n.1 h).1;omega
 · simp
def tmI(l:List Int)(s:List UInt8)(i:Int):Prop:=0≤i∧i≤l.length∧(∀j,j<i.toNat→XaK l j=true)∧(1≤i→(0≤l.getD 0 0∧l.getD 0 0≤1099511627776)∧0≤l.getD (i.toNat - 1) 0∧l.getD (i.toNat - 1) 0≤1099511627776)∧(2≤i→0≤l.getD (i.toNat - 2) 0∧l.getD (i.toNat - 2) 0≤1099511627776)∧(s.length:Int)≤7*i∧s=tmS l i.toNat
def tmJ(l:List Int)(s:List UInt8)(i:Int):Prop:=1≤i∧X9X l=true∧(i<l.length→0≤l.getD i.toNat 0∧l.getD i.toNat 0≤1099511627776)∧tmI l s i
def tmM(l:List Int)(s:List UInt8)(i:Int):Nat:=(l.length - i).toNat
def vlI(l:List Int)(s:List UInt8)(last i:Int):Prop:=0≤i∧i≤l.length∧(∀j,j<i.toNat→X8C l j=true)∧(-1099511627776≤last∧last≤1099511627776)∧last=(if i.toNat=0 then 0 else l.getD (i.toNat - 1) 0)∧(s.length:Int)≤7*i∧s=vlS l i.toNat
def vlJ(l:List Int)(s:List UInt8)(last i:Int):Prop:=Xa6 l=true∧(i<l.length→-1099511627776≤l.getD i.toNat 0∧l.getD i.toNat 0≤1099511627776)∧vlI l s last i
def vlM(l:List Int)(s:List UInt8)(last i:Int):Nat:=(l.length - i).toNat
def XeC(l:List Int):Prop:=l.length≤1099511627776
theorem n11(n:Nat):n+1 - 1=n:=rfl
theorem n12(n:Nat):n+1 - 2=n - 1:=rfl
theorem tn_0:Int.toNat 0=0:=rfl
theorem tn_1:Int.toNat 1=1:=rfl
theorem XcD{l:List Int}{i:Nat}(h:X9X l=true)(hi:i<l.length):0≤l.getD i 0∧l.getD i 0≤1099511627776:=(X8Q.1 ((X4S.1 h).2 i hi)).1
theorem Xkf{l:List Int}{i:Nat}(h:Xa6 l=true)(hi:i<l.length):-1099511627776≤l.getD i 0∧l.getD i 0≤1099511627776:=XcC.1 ((X5n.1 h).2 i hi)
def X8A:Con:={A:=(.int .i64),shA:=[.one],R:=(.int .i64),shR:=[(false,1)],pre:=fun _ _=>True,f:=some fun _ a=>((Xd2 a),((),()))}
def X3b.F(a0:Int):Prop:=(True∧∀r1,(Eq r1 ((fIn a0 (-140737488355328) 140737488355328),((),())))→(X00 (!r1.1) (Eq ((-1),((),())) ((Xd2 a0),((),()))) (X00 (decide (a0<(0:Int))) (Eq ((wI ((wI (((-2):Int)*a0)) - (1:Int))),((),())) ((Xd2 a0),((),()))) (Eq ((wI ((2:Int)*a0)),((),())) ((Xd2 a0),((),()))))))
theorem X3b.pure(a0:Int)(h:True)(hw:Wf X8A.A a0):X3b.F a0:=by
 delta X3b.F wI
 simp only[Bs,B0,B1,Prod.mk.injEq,X01,X0C,Xf9]
 repeat' (with_reducible (first | (refine And.intro ?_ ?_) | intro _))
 all_goals (try simp (disch:=omega) only[w64,wu8,tn0,tn1,tm1,tm2,List.length_append,List.length_cons,List.length_nil]at*)
 all_goals (try simp (disch:=omega) only[w64,wu8,tn0,tn1,tm1,tm2,List.length_append,List.length_cons,List.length_nil]at*)
 all_goals (try omega)
 all_goals (try grind[Xd2,X0C])
theorem X3b.eq:EqS X8A Tryz.f245 [3] [X1N.e] [] noL (fun i x=>X3b.F x):=by intro i x;kernel_rfl
theorem X3b.ok:X0k Tryz.prog 245 X8A:=X1Z X3b.eq Tryz.func245 rfl (by kernel_rfl) fun i x h hi hw=>X3b.pure x h hw
def X3b.e:GE:=⟨245,X8A,⟨_,Tryz.func245,rfl,rfl⟩,X3b.ok⟩
def X8B:Con:={A:=(.int .i64),shA:=[.one],R:=(.int .i64),shR:=[(false,1)],pre:=fun _ _=>True,f:=some fun _ a=>((Xd2 a),((),()))}
def X3U.F(a0:Int):Prop:=(True∧∀r1,(Eq r1 ((fIn a0 0 140737488355328),((),())))→(X00 r1.1 (Eq ((wI ((2:Int)*a0)),((),())) ((Xd2 a0),((),()))) (True∧∀r2,(Eq r2 ((fIn a0 (-140737488355328) (-1)),((),())))→(X00 r2.1 (Eq ((wI ((wI (((-2):Int)*a0)) - (1:Int))),((),())) ((Xd2 a0),((),()))) (Eq ((-1),((),())) ((Xd2 a0),((),())))))))
theorem X3U.pure(a0:Int)(h:True)(hw:Wf X8B.A a0):X3U.F a0:=by
 delta X3U.F wI
 simp only[Bs,B0,B1,Prod.mk.injEq,X01,X0C,Xf9]
 repeat' (with_reducible (first | (refine And.intro ?_ ?_) | intro _))
 all_goals (try simp (disch:=omega) only[w64,wu8,tn0,tn1,tm1,tm2,List.length_append,List.length_cons,List.length_nil]at*)
 all_goals (try simp (disch:=omega) only[w64,wu8,tn0,tn1,tm1,tm2,List.length_append,List.length_cons,List.length_nil]at*)
 all_goals (try omega)
 all_goals (try grind[Xd2,X0C])
theorem X3U.eq:EqS X8B Tryz.f272 [3] [X0K.e] [] noL (fun i x=>X3U.F x):=by intro i x;kernel_rfl
theorem X3U.ok:X0k Tryz.prog 272 X8B:=X1Z X3U.eq Tryz.func272 rfl (by kernel_rfl) fun i x h hi hw=>X3U.pure x h hw
def X3U.e:GE:=⟨272,X8B,⟨_,Tryz.func272,rfl,rfl⟩,X3U.ok⟩
def Xbu:Con:={A:=(.int .i64),shA:=[.one],R:=.str,shR:=[(false,1)],pre:=fun _ _=>True,f:=some fun _ a=>((Xi4 a),((),()))}
def X6e.F(a0:Int):Prop:=(True∧∀r1,(Eq r1 ((Xd2 a0),((),())))→(True∧∀r2,(Eq r2 ((X0v r1.1),((),())))→(Eq (r2.1,((),())) ((Xi4 a0),((),())))))
theorem X6e.pure(a0:Int)(h:True)(hw:Wf Xbu.A a0):X6e.F a0:=by
 unfold X6e.F
 simp only[Bs,B0,B1,Prod.mk.injEq,X01]
 repeat' (with_reducible (first | (refine And.intro ?_ ?_) | intro _))
 all_goals (try simp (disch:=omega) only[w64,wu8,tn0,tn1,tm1,tm2,List.length_append,List.length_cons,List.length_nil]at*)
 all_goals (try simp (disch:=omega) only[w64,wu8,tn0,tn1,tm1,tm2,List.length_append,List.length_cons,List.length_nil]at*)
 all_goals (try omega)
 all_goals (try grind[Xi4])
theorem X6e.eq:EqS Xbu Tryz.f263 [9] [X3G.e,X3U.e] [] noL (fun i x=>X6e.F x):=by intro i x;kernel_rfl
theorem X6e.ok:X0k Tryz.prog 263 Xbu:=X1Z X6e.eq Tryz.func263 rfl (by kernel_rfl) fun i x h hi hw=>X6e.pure x h hw
def X6e.e:GE:=⟨263,Xbu,⟨_,Tryz.func263,rfl,rfl⟩,X6e.ok⟩
def X8J:Con:={A:=Xef,shA:=[.one],R:=.bool,shR:=[(false,1)],pre:=fun _ _=>True,f:=some fun _ a=>((X9X a),((),()))}
def X3c.F(a0:(List Int)):Prop:=(True∧∀r1,(Eq r1 ((fIn (ln a0) 1 60),((),())))→(X00 (!r1.1) (Eq (false,((),())) ((X9X a0),((),()))) (eS [(0,.val false [.lst (.int .i64) a0 none])] [(0,.val false [.lst (.int .i64) a0 none])]∧((scI XaK a0 0)∧∀(y2:Int),(scI XaK a0 y2)→(X00 (decide (y2<(ln a0))) (0≤y2∧(y2<(ln a0)∧(True∧∀r3,(Eq r3 ((fIn (List.getD a0 (tN y2) 0) 0 1099511627776),((),())))→(X00 (!r3.1) (Eq (false,((),())) ((X9X a0),((),()))) (X00 (decide (y2>(0:Int))) (0≤(wI (y2 - (1:Int)))∧((wI (y2 - (1:Int)))<(ln a0)∧(0≤y2∧(y2<(ln a0)∧(X00 (decide ((List.getD a0 (tN (wI (y2 - (1:Int)))) 0)≥(List.getD a0 (tN y2) 0))) (Eq (false,((),())) ((X9X a0),((),()))) (eS [(0,.val false [.lst (.int .i64) a0 none])] [(0,.val false [.lst (.int .i64) a0 none])]∧(scI XaK a0 (wI (y2+(1:Int))))∧(scM a0 (wI (y2+(1:Int))))<(scM a0 y2))))))) (eS [(0,.val false [.lst (.int .i64) a0 none])] [(0,.val false [.lst (.int .i64) a0 none])]∧(scI XaK a0 (wI (y2+(1:Int))))∧(scM a0 (wI (y2+(1:Int))))<(scM a0 y2))))))) (Eq (true,((),())) ((X9X a0),((),()))))))))
def X3c.L(a0:(List Int)):Nat→Option X0e:=fun p=>Go.Proofs.YtcfaphojdacmbaaGreatR.Bv.look p [(58,{kp:={hold:=[0],slots:=[3],boxes:=[],rows:=[]},T:=(.int .i64),I:=fun st y=>scI XaK a0 y,μ:=fun st y=>scM a0 y})]
theorem X3c.pure(a0:(List Int))(h:True)(hw:Wf X8J.A a0):X3c.F a0:=by
 delta X3c.F ln tN wI eS
 have hw1:a0.length≤maxLen:=hw.1
 unfold maxLen at hw1
 simp only[Bs,B0,B1,Prod.mk.injEq,X01,scI,scM,X0C,Xf9]
 repeat' (with_reducible (first | (refine And.intro ?_ ?_) | intro _))
 all_goals (try simp (disch:=omega) only[w64,wu8,tn0,tn1,tm1,tm2,List.length_append,List.length_cons,List.length_nil]at*)
 all_goals (try simp (disch:=omega) only[w64,wu8,tn0,tn1,tm1,tm2,List.length_append,List.length_cons,List.length_nil]at*)
 all_goals (try omega)
 all_goals (try grind[X4S,X8Q])
theorem X3c.eq:EqS X8J Tryz.f244 [4] [X1N.e] [] (fun i x=>X3c.L x) (fun i x=>X3c.F x):=by intro i x;kernel_rfl
theorem X3c.ok:X0k Tryz.prog 244 X8J:=X1Z X3c.eq Tryz.func244 rfl (by kernel_rfl) fun i x h hi hw=>X3c.pure x h hw
def X3c.e:GE:=⟨244,X8J,⟨_,Tryz.func244,rfl,rfl⟩,X3c.ok⟩
def X7r:Con:={A:=Xef,shA:=[.one],R:=.bool,shR:=[(false,1)],pre:=fun _ _=>True,f:=some fun _ a=>((Xa6 a),((),()))}
def X2h.F(a0:(List Int)):Prop:=(True∧∀r1,(Eq r1 ((fIn (ln a0) 1 60),((),())))→(X00 (!r1.1) (Eq (false,((),())) ((Xa6 a0),((),()))) (eS [(0,.val false [.lst (.int .i64) a0 none])] [(0,.val false [.lst (.int .i64) a0 none])]∧((scI X8C a0 0)∧∀(y2:Int),(scI X8C a0 y2)→(X00 (decide (y2<(ln a0))) (0≤y2∧(y2<(ln a0)∧(True∧∀r3,(Eq r3 ((fIn (List.getD a0 (tN y2) 0) (-1099511627776) 1099511627776),((),())))→(X00 (!r3.1) (Eq (false,((),())) ((Xa6 a0),((),()))) (eS [(0,.val false [.lst (.int .i64) a0 none])] [(0,.val false [.lst (.int .i64) a0 none])]∧(scI X8C a0 (wI (y2+(1:Int))))∧(scM a0 (wI (y2+(1:Int))))<(scM a0 y2)))))) (Eq (true,((),())) ((Xa6 a0),((),()))))))))
def X2h.L(a0:(List Int)):Nat→Option X0e:=fun p=>Go.Proofs.YtcfaphojdacmbaaGreatR.Bv.look p [(58,{kp:={hold:=[0],slots:=[3],boxes:=[],rows:=[]},T:=(.int .i64),I:=fun st y=>scI X8C a0 y,μ:=fun st y=>scM a0 y})]
theorem X2h.pure(a0:(List Int))(h:True)(hw:Wf X7r.A a0):X2h.F a0:=by
 delta X2h.F ln tN wI eS
 have hw1:a0.length≤maxLen:=hw.1
 unfold maxLen at hw1
 simp only[Bs,B0,B1,Prod.mk.injEq,X01,scI,scM,X0C,Xf9]
 repeat' (with_reducible (first | (refine And.intro ?_ ?_) | intro _))
 all_goals (try simp (disch:=omega) only[w64,wu8,tn0,tn1,tm1,tm2,List.length_append,List.length_cons,List.length_nil]at*)
 all_goals (try simp (disch:=omega) only[w64,wu8,tn0,tn1,tm1,tm2,List.length_append,List.length_cons,List.length_nil]at*)
 all_goals (try omega)
 all_goals (try grind[X5n,XcC])
theorem X2h.eq:EqS X7r Tryz.f246 [4] [X1N.e] [] (fun i x=>X2h.L x) (fun i x=>X2h.F x):=by intro i x;kernel_rfl
theorem X2h.ok:X0k Tryz.prog 246 X7r:=X1Z X2h.eq Tryz.func246 rfl (by kernel_rfl) fun i x h hi hw=>X2h.pure x h hw
def X2h.e:GE:=⟨246,X7r,⟨_,Tryz.func246,rfl,rfl⟩,X2h.ok⟩
def X6f:Con:={A:=Xef,shA:=[.one],R:=.str,shR:=[(false,1)],pre:=fun _ _=>True,f:=some fun _ a=>((X0l a),((),()))}
def X1o.F(a0:(List Int)):Prop:=(True∧∀r1,(Eq r1 ((X9X a0),((),())))→(X00 (!r1.1) (Eq ([],((),())) ((X0l a0),((),()))) (0≤(0:Int)∧((0:Int)<(ln a0)∧(True∧∀r2,(Eq r2 ((X0v (List.getD a0 (tN (0:Int)) 0)),((),())))→(eS [(0,.val false [.lst (.int .i64) a0 none])] [(0,.val false [.lst (.int .i64) a0 none])]∧((tmJ a0 r2.1 1)∧∀(y3:(U5q×Int)),(tmJ a0 y3.1 y3.2)→(X00 (decide (y3.2<(ln a0))) (0≤y3.2∧(y3.2<(ln a0)∧(0≤(wI (y3.2 - (1:Int)))∧((wI (y3.2 - (1:Int)))<(ln a0)∧(X00 (y3.2==(1:Int)) (True∧∀r4,(Eq r4 ((X0v (wI ((List.getD a0 (tN y3.2) 0) - (List.getD a0 (tN (wI (y3.2 - (1:Int)))) 0)))),((),())))→(List.length y3.1+List.length r4.1≤9223372036854775807∧(eS [(0,.val false [.lst (.int .i64) a0 none])] [(0,.val false [.lst (.int .i64) a0 none])]∧(tmJ a0 (y3.1++r4.1) (wI (y3.2+(1:Int))))∧(tmM a0 (y3.1++r4.1) (wI (y3.2+(1:Int))))<(tmM a0 y3.1 y3.2)))) (0≤(wI (y3.2 - (1:Int)))∧((wI (y3.2 - (1:Int)))<(ln a0)∧(0≤(wI (y3.2 - (2:Int)))∧((wI (y3.2 - (2:Int)))<(ln a0)∧(True∧∀r5,(Eq r5 ((Xd2 (wI ((wI ((List.getD a0 (tN y3.2) 0) - (List.getD a0 (tN (wI (y3.2 - (1:Int)))) 0))) - (wI ((List.getD a0 (tN (wI (y3.2 - (1:Int)))) 0) - (List.getD a0 (tN (wI (y3.2 - (2:Int)))) 0)))))),((),())))→(True∧∀r6,(Eq r6 ((X0v r5.1),((),())))→(List.length y3.1+List.length r6.1≤9223372036854775807∧(eS [(0,.val false [.lst (.int .i64) a0 none])] [(0,.val false [.lst (.int .i64) a0 none])]∧(tmJ a0 (y3.1++r6.1) (wI (y3.2+(1:Int))))∧(tmM a0 (y3.1++r6.1) (wI (y3.2+(1:Int))))<(tmM a0 y3.1 y3.2)))))))))))))) (Eq (y3.1,((),())) ((X0l a0),((),())))))))))))
def X1o.L(a0:(List Int)):Nat→Option X0e:=fun p=>Go.Proofs.YtcfaphojdacmbaaGreatR.Bv.look p [(122,{kp:={hold:=[0],slots:=[3,4],boxes:=[],rows:=[]},T:=Xk4,I:=fun st y=>tmJ a0 y.1 y.2,μ:=fun st y=>tmM a0 y.1 y.2})]
theorem X1o.pure(a0:(List Int))(h:True)(hw:Wf X6f.A a0):X1o.F a0:=by
 delta X1o.F ln tN wI eS
 have hw1:a0.length≤maxLen:=hw.1
 unfold maxLen at hw1
 simp only[Bs,B0,B1,Prod.mk.injEq,X01,tmJ,tmI,tmM]
 repeat' (with_reducible (first | (refine And.intro ?_ ?_) | intro _))
 all_goals (try simp (disch:=omega) only[w64,wu8,tn0,tn1,tm1,tm2,List.length_append,List.length_cons,List.length_nil,n11,n12,tn_0,tn_1]at*)
 all_goals (try simp (disch:=omega) only[w64,wu8,tn0,tn1,tm1,tm2,List.length_append,List.length_cons,List.length_nil,n11,n12,tn_0,tn_1]at*)
 all_goals (try omega)
 all_goals (try grind[X0l,Xc0,tmS,X4S,X8Q,X9A])
theorem X1o.eq:EqS X6f Tryz.f203 [9] [X3v.e,X3c.e,X3b.e] [] (fun i x=>X1o.L x) (fun i x=>X1o.F x):=by intro i x;kernel_rfl
theorem X1o.ok:X0k Tryz.prog 203 X6f:=X1Z X1o.eq Tryz.func203 rfl (by kernel_rfl) fun i x h hi hw=>X1o.pure x h hw
def X1o.e:GE:=⟨203,X6f,⟨_,Tryz.func203,rfl,rfl⟩,X1o.ok⟩
def X64:Con:={A:=Xef,shA:=[.one],R:=.str,shR:=[(false,1)],pre:=fun _ a=>(XeC a),f:=some fun _ a=>((X0l a),((),()))}
def X1j.F(a0:(List Int)):Prop:=(eS [(0,.val false [.lst (.int .i64) a0 none]),(6,.val false [.lst (.int .i64) a0 none]),(7,.val false [.int .i64 (ln a0)])] [(0,.val false [.lst (.int .i64) a0 none]),(6,.val false [.lst (.int .i64) a0 none]),(7,.val false [.int .i64 (ln a0)])]∧((tmI a0 [] 0)∧∀(y1:(U5q×Int)),(tmI a0 y1.1 y1.2)→(X00 (decide (y1.2<(ln a0))) (0≤y1.2∧(y1.2<(ln a0)∧(True∧∀r2,(Eq r2 ((fIn (List.getD a0 (tN y1.2) 0) 0 1099511627776),((),())))→(X00 (!r2.1) (Eq ([],((),())) ((X0l a0),((),()))) (X00 (decide (y1.2>(0:Int))) (0≤(wI (y1.2 - (1:Int)))∧((wI (y1.2 - (1:Int)))<(ln a0)∧(X00 (decide ((List.getD a0 (tN (wI (y1.2 - (1:Int)))) 0)≥(List.getD a0 (tN y1.2) 0))) (Eq ([],((),())) ((X0l a0),((),()))) (X00 (y1.2==(0:Int)) (True∧∀r3,(Eq r3 ((X0v (List.getD a0 (tN y1.2) 0)),((),())))→(List.length y1.1+List.length r3.1≤9223372036854775807∧(eS [(0,.val false [.lst (.int .i64) a0 none]),(6,.val false [.lst (.int .i64) a0 none]),(7,.val false [.int .i64 (ln a0)])] [(0,.val false [.lst (.int .i64) a0 none]),(6,.val false [.lst (.int .i64) a0 none]),(7,.val false [.int .i64 (ln a0)])]∧(tmI a0 (y1.1++r3.1) (wI (y1.2+(1:Int))))∧(tmM a0 (y1.1++r3.1) (wI (y1.2+(1:Int))))<(tmM a0 y1.1 y1.2)))) (X00 (y1.2==(1:Int)) (0≤(0:Int)∧((0:Int)<(ln a0)∧(True∧∀r4,(Eq r4 ((X0v (wI ((List.getD a0 (tN y1.2) 0) - (List.getD a0 (tN (0:Int)) 0)))),((),())))→(List.length y1.1+List.length r4.1≤9223372036854775807∧(eS [(0,.val false [.lst (.int .i64) a0 none]),(6,.val false [.lst (.int .i64) a0 none]),(7,.val false [.int .i64 (ln a0)])] [(0,.val false [.lst (.int .i64) a0 none]),(6,.val false [.lst (.int .i64) a0 none]),(7,.val false [.int .i64 (ln a0)])]∧(tmI a0 (y1.1++r4.1) (wI (y1.2+(1:Int))))∧(tmM a0 (y1.1++r4.1) (wI (y1.2+(1:Int))))<(tmM a0 y1.1 y1.2)))))) (0≤(wI (y1.2 - (1:Int)))∧((wI (y1.2 - (1:Int)))<(ln a0)∧(0≤(wI (y1.2 - (1:Int)))∧((wI (y1.2 - (1:Int)))<(ln a0)∧(0≤(wI (y1.2 - (2:Int)))∧((wI (y1.2 - (2:Int)))<(ln a0)∧(True∧∀r5,(Eq r5 ((Xi4 (wI ((wI ((List.getD a0 (tN y1.2) 0) - (List.getD a0 (tN (wI (y1.2 - (1:Int)))) 0))) - (wI ((List.getD a0 (tN (wI (y1.2 - (1:Int)))) 0) - (List.getD a0 (tN (wI (y1.2 - (2:Int)))) 0)))))),((),())))→(List.length y1.1+List.length r5.1≤9223372036854775807∧(eS [(0,.val false [.lst (.int .i64) a0 none]),(6,.val false [.lst (.int .i64) a0 none]),(7,.val false [.int .i64 (ln a0)])] [(0,.val false [.lst (.int .i64) a0 none]),(6,.val false [.lst (.int .i64) a0 none]),(7,.val false [.int .i64 (ln a0)])]∧(tmI a0 (y1.1++r5.1) (wI (y1.2+(1:Int))))∧(tmM a0 (y1.1++r5.1) (wI (y1.2+(1:Int))))<(tmM a0 y1.1 y1.2))))))))))))))) (X00 (y1.2==(0:Int)) (True∧∀r6,(Eq r6 ((X0v (List.getD a0 (tN y1.2) 0)),((),())))→(List.length y1.1+List.length r6.1≤9223372036854775807∧(eS [(0,.val false [.lst (.int .i64) a0 none]),(6,.val false [.lst (.int .i64) a0 none]),(7,.val false [.int .i64 (ln a0)])] [(0,.val false [.lst (.int .i64) a0 none]),(6,.val false [.lst (.int .i64) a0 none]),(7,.val false [.int .i64 (ln a0)])]∧(tmI a0 (y1.1++r6.1) (wI (y1.2+(1:Int))))∧(tmM a0 (y1.1++r6.1) (wI (y1.2+(1:Int))))<(tmM a0 y1.1 y1.2)))) (X00 (y1.2==(1:Int)) (0≤(0:Int)∧((0:Int)<(ln a0)∧(True∧∀r7,(Eq r7 ((X0v (wI ((List.getD a0 (tN y1.2) 0) - (List.getD a0 (tN (0:Int)) 0)))),((),())))→(List.length y1.1+List.length r7.1≤9223372036854775807∧(eS [(0,.val false [.lst (.int .i64) a0 none]),(6,.val false [.lst (.int .i64) a0 none]),(7,.val false [.int .i64 (ln a0)])] [(0,.val false [.lst (.int .i64) a0 none]),(6,.val false [.lst (.int .i64) a0 none]),(7,.val false [.int .i64 (ln a0)])]∧(tmI a0 (y1.1++r7.1) (wI (y1.2+(1:Int))))∧(tmM a0 (y1.1++r7.1) (wI (y1.2+(1:Int))))<(tmM a0 y1.1 y1.2)))))) (0≤(wI (y1.2 - (1:Int)))∧((wI (y1.2 - (1:Int)))<(ln a0)∧(0≤(wI (y1.2 - (1:Int)))∧((wI (y1.2 - (1:Int)))<(ln a0)∧(0≤(wI (y1.2 - (2:Int)))∧((wI (y1.2 - (2:Int)))<(ln a0)∧(True∧∀r8,(Eq r8 ((Xi4 (wI ((wI ((List.getD a0 (tN y1.2) 0) - (List.getD a0 (tN (wI (y1.2 - (1:Int)))) 0))) - (wI ((List.getD a0 (tN (wI (y1.2 - (1:Int)))) 0) - (List.getD a0 (tN (wI (y1.2 - (2:Int)))) 0)))))),((),())))→(List.length y1.1+List.length r8.1≤9223372036854775807∧(eS [(0,.val false [.lst (.int .i64) a0 none]),(6,.val false [.lst (.int .i64) a0 none]),(7,.val false [.int .i64 (ln a0)])] [(0,.val false [.lst (.int .i64) a0 none]),(6,.val false [.lst (.int .i64) a0 none]),(7,.val false [.int .i64 (ln a0)])]∧(tmI a0 (y1.1++r8.1) (wI (y1.2+(1:Int))))∧(tmM a0 (y1.1++r8.1) (wI (y1.2+(1:Int))))<(tmM a0 y1.1 y1.2))))))))))))))))) (True∧∀r9,(Eq r9 ((fIn (ln a0) 1 60),((),())))→(X00 (!r9.1) (Eq ([],((),())) ((X0l a0),((),()))) (Eq (y1.1,((),())) ((X0l a0),((),()))))))))
def X1j.L(a0:(List Int)):Nat→Option X0e:=fun p=>Go.Proofs.YtcfaphojdacmbaaGreatR.Bv.look p [(58,{kp:={hold:=[0,6,7],slots:=[3,8],boxes:=[],rows:=[]},T:=Xk4,I:=fun st y=>tmI a0 y.1 y.2,μ:=fun st y=>tmM a0 y.1 y.2})]
theorem X1j.pure(a0:(List Int))(h:(XeC a0))(hw:Wf X64.A a0):X1j.F a0:=by
 delta X1j.F ln tN wI eS
 have hw1:a0.length≤maxLen:=hw.1
 unfold maxLen at hw1
 have hp:a0.length≤1099511627776:=h
 simp only[Bs,B0,B1,Prod.mk.injEq,X01,tmI,tmM,Xi4,X0C,Xf9]
 repeat' (with_reducible (first | (refine And.intro ?_ ?_) | intro _))
 all_goals (try simp (disch:=omega) only[w64,wu8,tn0,tn1,tm1,tm2,List.length_append,List.length_cons,List.length_nil,n11,n12,tn_0,tn_1]at*)
 all_goals (try simp (disch:=omega) only[w64,wu8,tn0,tn1,tm1,tm2,List.length_append,List.length_cons,List.length_nil,n11,n12,tn_0,tn_1]at*)
 all_goals (try omega)
 all_goals (try grind[X0l,Xc0,tmS,X4S,X8Q,X9A])
theorem X1j.eq:EqS X64 Tryz.f239 [9] [X0K.e,X3G.e,X6e.e] [] (fun i x=>X1j.L x) (fun i x=>X1j.F x):=by intro i x;kernel_rfl
theorem X1j.ok:X0k Tryz.prog 239 X64:=X1Z X1j.eq Tryz.func239 rfl (by kernel_rfl) fun i x h hi hw=>X1j.pure x h hw
def X1j.e:GE:=⟨239,X64,⟨_,Tryz.func239,rfl,rfl⟩,X1j.ok⟩
def X5D:Con:={A:=Xef,shA:=[.one],R:=.str,shR:=[(false,1)],pre:=fun _ _=>True,f:=some fun _ a=>((X0h a),((),()))}
def X11.F(a0:(List Int)):Prop:=(True∧∀r1,(Eq r1 ((Xa6 a0),((),())))→(X00 (!r1.1) (Eq ([],((),())) ((X0h a0),((),()))) (eS [(0,.val false [.lst (.int .i64) a0 none])] [(0,.val false [.lst (.int .i64) a0 none])]∧((vlJ a0 [] 0 0)∧∀(y2:(U5q×(Int×Int))),(vlJ a0 y2.1 y2.2.1 y2.2.2)→(X00 (decide (y2.2.2<(ln a0))) (0≤y2.2.2∧(y2.2.2<(ln a0)∧(True∧∀r3,(Eq r3 ((Xd2 (wI ((List.getD a0 (tN y2.2.2) 0) - y2.2.1))),((),())))→(True∧∀r4,(Eq r4 ((X0v r3.1),((),())))→(List.length y2.1+List.length r4.1≤9223372036854775807∧(0≤y2.2.2∧(y2.2.2<(ln a0)∧(eS [(0,.val false [.lst (.int .i64) a0 none])] [(0,.val false [.lst (.int .i64) a0 none])]∧(vlJ a0 (y2.1++r4.1) (List.getD a0 (tN y2.2.2) 0) (wI (y2.2.2+(1:Int))))∧(vlM a0 (y2.1++r4.1) (List.getD a0 (tN y2.2.2) 0) (wI (y2.2.2+(1:Int))))<(vlM a0 y2.1 y2.2.1 y2.2.2))))))))) (Eq (y2.1,((),())) ((X0h a0),((),()))))))))
def X11.L(a0:(List Int)):Nat→Option X0e:=fun p=>Go.Proofs.YtcfaphojdacmbaaGreatR.Bv.look p [(250,{kp:={hold:=[0],slots:=[3,4,5],boxes:=[],rows:=[]},T:=(.pair .str T0q),I:=fun st y=>vlJ a0 y.1 y.2.1 y.2.2,μ:=fun st y=>vlM a0 y.1 y.2.1 y.2.2})]
theorem X11.pure(a0:(List Int))(h:True)(hw:Wf X5D.A a0):X11.F a0:=by
 delta X11.F ln tN wI eS
 have hw1:a0.length≤maxLen:=hw.1
 unfold maxLen at hw1
 simp only[Bs,B0,B1,Prod.mk.injEq,X01,vlJ,vlI,vlM]
 repeat' (with_reducible (first | (refine And.intro ?_ ?_) | intro _))
 all_goals (try simp (disch:=omega) only[w64,wu8,tn0,tn1,tm1,tm2,List.length_append,List.length_cons,List.length_nil,n11]at*)
 all_goals (try simp (disch:=omega) only[w64,wu8,tn0,tn1,tm1,tm2,List.length_append,List.length_cons,List.length_nil,n11]at*)
 all_goals (try omega)
 all_goals (try grind[X0h,Xeq,vlS,X5n,XcC,X9A])
theorem X11.eq:EqS X5D Tryz.f204 [9] [X3v.e,X3b.e,X2h.e] [] (fun i x=>X11.L x) (fun i x=>X11.F x):=by intro i x;kernel_rfl
theorem X11.ok:X0k Tryz.prog 204 X5D:=X1Z X11.eq Tryz.func204 rfl (by kernel_rfl) fun i x h hi hw=>X11.pure x h hw
def X11.e:GE:=⟨204,X5D,⟨_,Tryz.func204,rfl,rfl⟩,X11.ok⟩
def X5V:Con:={A:=Xef,shA:=[.one],R:=.str,shR:=[(false,1)],pre:=fun _ a=>(XeC a),f:=some fun _ a=>((X0h a),((),()))}
def X0Y.F(a0:(List Int)):Prop:=(eS [(0,.val false [.lst (.int .i64) a0 none]),(7,.val false [.lst (.int .i64) a0 none]),(8,.val false [.int .i64 (ln a0)])] [(0,.val false [.lst (.int .i64) a0 none]),(7,.val false [.lst (.int .i64) a0 none]),(8,.val false [.int .i64 (ln a0)])]∧((vlI a0 [] 0 0)∧∀(y1:(U5q×(Int×Int))),(vlI a0 y1.1 y1.2.1 y1.2.2)→(X00 (decide (y1.2.2<(ln a0))) (0≤y1.2.2∧(y1.2.2<(ln a0)∧(True∧∀r2,(Eq r2 ((fIn (List.getD a0 (tN y1.2.2) 0) (-1099511627776) 1099511627776),((),())))→(X00 (!r2.1) (Eq ([],((),())) ((X0h a0),((),()))) (True∧∀r3,(Eq r3 ((Xi4 (wI ((List.getD a0 (tN y1.2.2) 0) - y1.2.1))),((),())))→(List.length y1.1+List.length r3.1≤9223372036854775807∧(eS [(0,.val false [.lst (.int .i64) a0 none]),(7,.val false [.lst (.int .i64) a0 none]),(8,.val false [.int .i64 (ln a0)])] [(0,.val false [.lst (.int .i64) a0 none]),(7,.val false [.lst (.int .i64) a0 none]),(8,.val false [.int .i64 (ln a0)])]∧(vlI a0 (y1.1++r3.1) (List.getD a0 (tN y1.2.2) 0) (wI (y1.2.2+(1:Int))))∧(vlM a0 (y1.1++r3.1) (List.getD a0 (tN y1.2.2) 0) (wI (y1.2.2+(1:Int))))<(vlM a0 y1.1 y1.2.1 y1.2.2)))))))) (True∧∀r4,(Eq r4 ((fIn (ln a0) 1 60),((),())))→(X00 (!r4.1) (Eq ([],((),())) ((X0h a0),((),()))) (Eq (y1.1,((),())) ((X0h a0),((),()))))))))
def X0Y.L(a0:(List Int)):Nat→Option X0e:=fun p=>Go.Proofs.YtcfaphojdacmbaaGreatR.Bv.look p [(122,{kp:={hold:=[0,7,8],slots:=[3,4,9],boxes:=[],rows:=[]},T:=(.pair .str T0q),I:=fun st y=>vlI a0 y.1 y.2.1 y.2.2,μ:=fun st y=>vlM a0 y.1 y.2.1 y.2.2})]
theorem X0Y.pure(a0:(List Int))(h:(XeC a0))(hw:Wf X5V.A a0):X0Y.F a0:=by
 delta X0Y.F ln tN wI eS
 have hw1:a0.length≤maxLen:=hw.1
 unfold maxLen at hw1
 have hp:a0.length≤1099511627776:=h
 simp only[Bs,B0,B1,Prod.mk.injEq,X01,vlI,vlM,Xi4,X0C,Xf9]
 repeat' (with_reducible (first | (refine And.intro ?_ ?_) | intro _))
 all_goals (try simp (disch:=omega) only[w64,wu8,tn0,tn1,tm1,tm2,List.length_append,List.length_cons,List.length_nil,n11]at*)
 all_goals (try simp (disch:=omega) only[w64,wu8,tn0,tn1,tm1,tm2,List.length_append,List.length_cons,List.length_nil,n11]at*)
 all_goals (try omega)
 all_goals (try grind[X0h,Xeq,vlS,X5n,XcC,X9A])
theorem X0Y.eq:EqS X5V Tryz.f240 [9] [X0K.e,X6e.e] [] (fun i x=>X0Y.L x) (fun i x=>X0Y.F x):=by intro i x;kernel_rfl
theorem X0Y.ok:X0k Tryz.prog 240 X5V:=X1Z X0Y.eq Tryz.func240 rfl (by kernel_rfl) fun i x h hi hw=>X0Y.pure x h hw
def X0Y.e:GE:=⟨240,X5V,⟨_,Tryz.func240,rfl,rfl⟩,X0Y.ok⟩
end Go.Proofs.YtcfaphojdacmbaaGreatR.B
