/- Bits:numbers with a sign,times,values. -/
import Derived.Test.YtcfaphojdacmbaaGreatRCSum
set_option maxRecDepth 100000
set_option linter.unusedVariables false
set_option linter.unusedSimpArgs false
namespace Go.Proofs.YtcfaphojdacmbaaGreatR.B
open Go Go.Proofs.YtcfaphojdacmbaaGreatR.Bv
def Xcv(n:Int):Int:=if fIn n (-140737488355328) 140737488355328 then(if n<0 then -2*n - 1 else 2*n) else -1
def Xh3(n:Int):List UInt8:=X1P (Xcv n)
def X9y(l:List Int)(i:Nat):Bool:=fIn (l.getD i 0) 0 1099511627776&&(decide (i=0)||decide (l.getD (i - 1) 0<l.getD i 0))
def X8J(l:List Int):Bool:=fIn l.length 1 60&&XeY (X9y l) l.length
def X7o(l:List Int)(i:Nat):Bool:=fIn (l.getD i 0) (-1099511627776) 1099511627776
def X8V(l:List Int):Bool:=fIn l.length 1 60&&XeY (X7o l) l.length
theorem Xds{p:Nat→Bool}{n:Nat}:XeY p n=true↔∀j,j<n→p j=true:=by simp[XeY]
theorem X4i{l:List Int}:X8J l=true↔(1≤l.length∧l.length≤60)∧∀j,j<l.length→X9y l j=true:=by
 simp only[X8J,Bool.and_eq_true,X0C,Xds]
 exact⟨fun h=>⟨by omega,h.2⟩,fun h=>⟨by omega,h.2⟩⟩
theorem X4I{l:List Int}:X8V l=true↔(1≤l.length∧l.length≤60)∧∀j,j<l.length→X7o l j=true:=by
 simp only[X8V,Bool.and_eq_true,X0C,Xds]
 exact⟨fun h=>⟨by omega,h.2⟩,fun h=>⟨by omega,h.2⟩⟩
theorem X7B{l:List Int}{i:Nat}:X9y l i=true↔(0≤l.getD i 0∧l.getD i 0≤1099511627776)∧(i=0∨l.getD (i - 1) 0<l.getD i 0):=by
 simp[X9y,fIn]
theorem Xbm{l:List Int}{i:Nat}:X7o l i=true↔-1099511627776≤l.getD i 0∧l.getD i 0≤1099511627776:=by simp[X7o,fIn]
def scI(p:List Int→Nat→Bool)(l:List Int)(i:Int):Prop:=0≤i∧i≤l.length∧l.length≤60∧1≤l.length∧∀j,j<i.toNat→p l j=true
def scM(l:List Int)(i:Int):Nat:=(l.length - i).toNat
def Xb1(l:List Int)(i:Nat):List UInt8:=if i=0 then X1P (l.getD 0 0) else if i=1 then X1P (l.getD 1 0 - l.getD 0 0) else X1P (Xcv (l.getD i 0 - l.getD (i - 1) 0 - (l.getD (i - 1) 0 - l.getD (i - 2) 0)))
def tmS(l:List Int):Nat→List UInt8
 | 0=>[]
 | i+1=>tmS l i++Xb1 l i
theorem XjF(l:List Int)(i:Nat):tmS l (i+1)=tmS l i++Xb1 l i:=rfl
def X0m(l:List Int):List UInt8:=if X8J l then tmS l l.length else []
def XeQ(l:List Int)(i:Nat):List UInt8:=X1P (Xcv (l.getD i 0 - (if i=0 then 0 else l.getD (i - 1) 0)))
def vlS(l:List Int):Nat→List UInt8
 | 0=>[]
 | i+1=>vlS l i++XeQ l i
theorem XjM(l:List Int)(i:Nat):vlS l (i+1)=vlS l i++XeQ l i:=rfl
def X0i(l:List Int):List UInt8:=if X8V l then vlS l l.length else []
theorem X8w(n:Int):(X1P n).length≤7:=X0w n
theorem XfO(l:List Int):∀i,(tmS l i).length≤7*i
 | 0=>by simp[tmS]
 | i+1=>by
   have h:=XfO l i
   have h1:(Xb1 l i).length≤7:=by
    unfold Xb1
    split
    · exact X0w _
    · split<;>exact X0w _
   rw[XjF,List.length_append];omega
theorem Xfu(l:List Int):∀i,(vlS l i).length≤7*i
 | 0=>by simp[vlS]
 | i+1=>by
   have h:=Xfu l i
   have h1:(XeQ l i).length≤7:=X0w _
   rw[XjM,List.length_append];omega
theorem X6A(l:List Int):(X0m l).length≤420:=by
 unfold X0m;split
 · rename_i h
   have:=XfO l l.length
   have:=(X4i.1 h).1;omega
 · simp
theorem X5Z(l:List Int):(X0i l).length≤420:=by
 unfold X0i;split
 · rename_i h
   have:=Xfu l l.length
   have:=(X4I.1 h).1;omega
 · simp
def tmI(l:List Int)(s:List UInt8)(i:Int):Prop:=0≤i∧i≤l.length∧(∀j,j<i.toNat→X9y l j=true)∧(1≤i→(0≤l.getD 0 0∧l.getD 0 0≤1099511627776)∧0≤l.getD (i.toNat - 1) 0∧l.getD (i.toNat - 1) 0≤1099511627776)∧(2≤i→0≤l.getD (i.toNat - 2) 0∧l.getD (i.toNat - 2) 0≤1099511627776)∧(s.length:Int)≤7*i∧s=tmS l i.toNat
def tmJ(l:List Int)(s:List UInt8)(i:Int):Prop:=1≤i∧X8J l=true∧(i<l.length→0≤l.getD i.toNat 0∧l.getD i.toNat 0≤1099511627776)∧tmI l s i
def tmM(l:List Int)(s:List UInt8)(i:Int):Nat:=(l.length - i).toNat
def vlI(l:List Int)(s:List UInt8)(last i:Int):Prop:=0≤i∧i≤l.length∧(∀j,j<i.toNat→X7o l j=true)∧(-1099511627776≤last∧last≤1099511627776)∧last=(if i.toNat=0 then 0 else l.getD (i.toNat - 1) 0)∧(s.length:Int)≤7*i∧s=vlS l i.toNat
def vlJ(l:List Int)(s:List UInt8)(last i:Int):Prop:=X8V l=true∧(i<l.length→-1099511627776≤l.getD i.toNat 0∧l.getD i.toNat 0≤1099511627776)∧vlI l s last i
def vlM(l:List Int)(s:List UInt8)(last i:Int):Nat:=(l.length - i).toNat
def XeT(l:List Int):Prop:=l.length≤1099511627776
theorem n11(n:Nat):n+1 - 1=n:=rfl
theorem n12(n:Nat):n+1 - 2=n - 1:=rfl
theorem tn_0:Int.toNat 0=0:=rfl
theorem tn_1:Int.toNat 1=1:=rfl
theorem Xbh{l:List Int}{i:Nat}(h:X8J l=true)(hi:i<l.length):0≤l.getD i 0∧l.getD i 0≤1099511627776:=(X7B.1 ((X4i.1 h).2 i hi)).1
theorem Xin{l:List Int}{i:Nat}(h:X8V l=true)(hi:i<l.length):-1099511627776≤l.getD i 0∧l.getD i 0≤1099511627776:=Xbm.1 ((X4I.1 h).2 i hi)
def X7s:Con:={A:=(.int .i64),shA:=[.one],R:=(.int .i64),shR:=[(false,1)],pre:=fun _ _=>True,f:=some fun _ a=>((Xcv a),((),()))}
def X2X.F(a0:Int):Prop:=(True∧∀r1,(Eq r1 ((fIn a0 (-140737488355328) 140737488355328),((),())))→(X00 (!r1.1) (Eq ((-1),((),())) ((Xcv a0),((),()))) (X00 (decide (a0<(0:Int))) (Eq ((wI ((wI (((-2):Int)*a0)) - (1:Int))),((),())) ((Xcv a0),((),()))) (Eq ((wI ((2:Int)*a0)),((),())) ((Xcv a0),((),()))))))
theorem X2X.pure(a0:Int)(h:True)(hw:Wf X7s.A a0):X2X.F a0:=by
 delta X2X.F wI
 simp only[Bs,B0,B1,Prod.mk.injEq,X01,X0C,Xen]
 repeat' (with_reducible (first | (refine And.intro ?_ ?_) | intro _))
 all_goals (try simp (disch:=omega) only[w64,wu8,tn0,tn1,tm1,tm2,List.length_append,List.length_cons,List.length_nil]at*)
 all_goals (try simp (disch:=omega) only[w64,wu8,tn0,tn1,tm1,tm2,List.length_append,List.length_cons,List.length_nil]at*)
 all_goals (try omega)
 all_goals (try grind[Xcv,X0C])
theorem X2X.eq:EqS X7s Tryz.f245 [3] [X27.e] [] noL (fun i x=>X2X.F x):=by intro i x;kernel_rfl
theorem X2X.ok:X0l Tryz.prog 245 X7s:=X2d X2X.eq Tryz.func245 rfl (by kernel_rfl) fun i x h hi hw=>X2X.pure x h hw
def X2X.e:GE:=⟨245,X7s,⟨_,Tryz.func245,rfl,rfl⟩,X2X.ok⟩
def X7k:Con:={A:=(.int .i64),shA:=[.one],R:=(.int .i64),shR:=[(false,1)],pre:=fun _ _=>True,f:=some fun _ a=>((Xcv a),((),()))}
def X3z.F(a0:Int):Prop:=(True∧∀r1,(Eq r1 ((fIn a0 0 140737488355328),((),())))→(X00 r1.1 (Eq ((wI ((2:Int)*a0)),((),())) ((Xcv a0),((),()))) (True∧∀r2,(Eq r2 ((fIn a0 (-140737488355328) (-1)),((),())))→(X00 r2.1 (Eq ((wI ((wI (((-2):Int)*a0)) - (1:Int))),((),())) ((Xcv a0),((),()))) (Eq ((-1),((),())) ((Xcv a0),((),())))))))
theorem X3z.pure(a0:Int)(h:True)(hw:Wf X7k.A a0):X3z.F a0:=by
 delta X3z.F wI
 simp only[Bs,B0,B1,Prod.mk.injEq,X01,X0C,Xen]
 repeat' (with_reducible (first | (refine And.intro ?_ ?_) | intro _))
 all_goals (try simp (disch:=omega) only[w64,wu8,tn0,tn1,tm1,tm2,List.length_append,List.length_cons,List.length_nil]at*)
 all_goals (try simp (disch:=omega) only[w64,wu8,tn0,tn1,tm1,tm2,List.length_append,List.length_cons,List.length_nil]at*)
 all_goals (try omega)
 all_goals (try grind[Xcv,X0C])
theorem X3z.eq:EqS X7k Tryz.f272 [3] [X1K.e] [] noL (fun i x=>X3z.F x):=by intro i x;kernel_rfl
theorem X3z.ok:X0l Tryz.prog 272 X7k:=X2d X3z.eq Tryz.func272 rfl (by kernel_rfl) fun i x h hi hw=>X3z.pure x h hw
def X3z.e:GE:=⟨272,X7k,⟨_,Tryz.func272,rfl,rfl⟩,X3z.ok⟩
def XaD:Con:={A:=(.int .i64),shA:=[.one],R:=.str,shR:=[(false,1)],pre:=fun _ _=>True,f:=some fun _ a=>((Xh3 a),((),()))}
def X5q.F(a0:Int):Prop:=(True∧∀r1,(Eq r1 ((Xcv a0),((),())))→(True∧∀r2,(Eq r2 ((X1P r1.1),((),())))→(Eq (r2.1,((),())) ((Xh3 a0),((),())))))
theorem X5q.pure(a0:Int)(h:True)(hw:Wf XaD.A a0):X5q.F a0:=by
 unfold X5q.F
 simp only[Bs,B0,B1,Prod.mk.injEq,X01]
 repeat' (with_reducible (first | (refine And.intro ?_ ?_) | intro _))
 all_goals (try simp (disch:=omega) only[w64,wu8,tn0,tn1,tm1,tm2,List.length_append,List.length_cons,List.length_nil]at*)
 all_goals (try simp (disch:=omega) only[w64,wu8,tn0,tn1,tm1,tm2,List.length_append,List.length_cons,List.length_nil]at*)
 all_goals (try omega)
 all_goals (try grind[Xh3])
theorem X5q.eq:EqS XaD Tryz.f263 [9] [X3T.e,X3z.e] [] noL (fun i x=>X5q.F x):=by intro i x;kernel_rfl
theorem X5q.ok:X0l Tryz.prog 263 XaD:=X2d X5q.eq Tryz.func263 rfl (by kernel_rfl) fun i x h hi hw=>X5q.pure x h hw
def X5q.e:GE:=⟨263,XaD,⟨_,Tryz.func263,rfl,rfl⟩,X5q.ok⟩
def X7n:Con:={A:=XbW,shA:=[.one],R:=.bool,shR:=[(false,1)],pre:=fun _ _=>True,f:=some fun _ a=>((X8J a),((),()))}
def X2P.F(a0:(List Int)):Prop:=(True∧∀r1,(Eq r1 ((fIn (ln a0) 1 60),((),())))→(X00 (!r1.1) (Eq (false,((),())) ((X8J a0),((),()))) (eS [(0,.val false [.lst (.int .i64) a0 none])] [(0,.val false [.lst (.int .i64) a0 none])]∧((scI X9y a0 0)∧∀(y2:Int),(scI X9y a0 y2)→(X00 (decide (y2<(ln a0))) (0≤y2∧(y2<(ln a0)∧(True∧∀r3,(Eq r3 ((fIn (List.getD a0 (tN y2) 0) 0 1099511627776),((),())))→(X00 (!r3.1) (Eq (false,((),())) ((X8J a0),((),()))) (X00 (decide (y2>(0:Int))) (0≤(wI (y2 - (1:Int)))∧((wI (y2 - (1:Int)))<(ln a0)∧(0≤y2∧(y2<(ln a0)∧(X00 (decide ((List.getD a0 (tN (wI (y2 - (1:Int)))) 0)≥(List.getD a0 (tN y2) 0))) (Eq (false,((),())) ((X8J a0),((),()))) (eS [(0,.val false [.lst (.int .i64) a0 none])] [(0,.val false [.lst (.int .i64) a0 none])]∧(scI X9y a0 (wI (y2+(1:Int))))∧(scM a0 (wI (y2+(1:Int))))<(scM a0 y2))))))) (eS [(0,.val false [.lst (.int .i64) a0 none])] [(0,.val false [.lst (.int .i64) a0 none])]∧(scI X9y a0 (wI (y2+(1:Int))))∧(scM a0 (wI (y2+(1:Int))))<(scM a0 y2))))))) (Eq (true,((),())) ((X8J a0),((),()))))))))
def X2P.L(a0:(List Int)):Nat→Option X0d:=fun p=>Go.Proofs.YtcfaphojdacmbaaGreatR.Bv.look p [(58,{kp:={hold:=[0],slots:=[3],boxes:=[],rows:=[]},T:=(.int .i64),I:=fun st y=>scI X9y a0 y,μ:=fun st y=>scM a0 y})]
theorem X2P.pure(a0:(List Int))(h:True)(hw:Wf X7n.A a0):X2P.F a0:=by
 delta X2P.F ln tN wI eS
 have hw1:a0.length≤maxLen:=hw.1
 unfold maxLen at hw1
 simp only[Bs,B0,B1,Prod.mk.injEq,X01,scI,scM,X0C,Xen]
 repeat' (with_reducible (first | (refine And.intro ?_ ?_) | intro _))
 all_goals (try simp (disch:=omega) only[w64,wu8,tn0,tn1,tm1,tm2,List.length_append,List.length_cons,List.length_nil]at*)
 all_goals (try simp (disch:=omega) only[w64,wu8,tn0,tn1,tm1,tm2,List.length_append,List.length_cons,List.length_nil]at*)
 all_goals (try omega)
 all_goals (try grind[X4i,X7B])
theorem X2P.eq:EqS X7n Tryz.f244 [4] [X27.e] [] (fun i x=>X2P.L x) (fun i x=>X2P.F x):=by intro i x;kernel_rfl
theorem X2P.ok:X0l Tryz.prog 244 X7n:=X2d X2P.eq Tryz.func244 rfl (by kernel_rfl) fun i x h hi hw=>X2P.pure x h hw
def X2P.e:GE:=⟨244,X7n,⟨_,Tryz.func244,rfl,rfl⟩,X2P.ok⟩
def X5U:Con:={A:=XbW,shA:=[.one],R:=.bool,shR:=[(false,1)],pre:=fun _ _=>True,f:=some fun _ a=>((X8V a),((),()))}
def X20.F(a0:(List Int)):Prop:=(True∧∀r1,(Eq r1 ((fIn (ln a0) 1 60),((),())))→(X00 (!r1.1) (Eq (false,((),())) ((X8V a0),((),()))) (eS [(0,.val false [.lst (.int .i64) a0 none])] [(0,.val false [.lst (.int .i64) a0 none])]∧((scI X7o a0 0)∧∀(y2:Int),(scI X7o a0 y2)→(X00 (decide (y2<(ln a0))) (0≤y2∧(y2<(ln a0)∧(True∧∀r3,(Eq r3 ((fIn (List.getD a0 (tN y2) 0) (-1099511627776) 1099511627776),((),())))→(X00 (!r3.1) (Eq (false,((),())) ((X8V a0),((),()))) (eS [(0,.val false [.lst (.int .i64) a0 none])] [(0,.val false [.lst (.int .i64) a0 none])]∧(scI X7o a0 (wI (y2+(1:Int))))∧(scM a0 (wI (y2+(1:Int))))<(scM a0 y2)))))) (Eq (true,((),())) ((X8V a0),((),()))))))))
def X20.L(a0:(List Int)):Nat→Option X0d:=fun p=>Go.Proofs.YtcfaphojdacmbaaGreatR.Bv.look p [(58,{kp:={hold:=[0],slots:=[3],boxes:=[],rows:=[]},T:=(.int .i64),I:=fun st y=>scI X7o a0 y,μ:=fun st y=>scM a0 y})]
theorem X20.pure(a0:(List Int))(h:True)(hw:Wf X5U.A a0):X20.F a0:=by
 delta X20.F ln tN wI eS
 have hw1:a0.length≤maxLen:=hw.1
 unfold maxLen at hw1
 simp only[Bs,B0,B1,Prod.mk.injEq,X01,scI,scM,X0C,Xen]
 repeat' (with_reducible (first | (refine And.intro ?_ ?_) | intro _))
 all_goals (try simp (disch:=omega) only[w64,wu8,tn0,tn1,tm1,tm2,List.length_append,List.length_cons,List.length_nil]at*)
 all_goals (try simp (disch:=omega) only[w64,wu8,tn0,tn1,tm1,tm2,List.length_append,List.length_cons,List.length_nil]at*)
 all_goals (try omega)
 all_goals (try grind[X4I,Xbm])
theorem X20.eq:EqS X5U Tryz.f246 [4] [X27.e] [] (fun i x=>X20.L x) (fun i x=>X20.F x):=by intro i x;kernel_rfl
theorem X20.ok:X0l Tryz.prog 246 X5U:=X2d X20.eq Tryz.func246 rfl (by kernel_rfl) fun i x h hi hw=>X20.pure x h hw
def X20.e:GE:=⟨246,X5U,⟨_,Tryz.func246,rfl,rfl⟩,X20.ok⟩
def X5z:Con:={A:=XbW,shA:=[.one],R:=.str,shR:=[(false,1)],pre:=fun _ _=>True,f:=some fun _ a=>((X0m a),((),()))}
def X1j.F(a0:(List Int)):Prop:=(True∧∀r1,(Eq r1 ((X8J a0),((),())))→(X00 (!r1.1) (Eq ([],((),())) ((X0m a0),((),()))) (0≤(0:Int)∧((0:Int)<(ln a0)∧(True∧∀r2,(Eq r2 ((X1P (List.getD a0 (tN (0:Int)) 0)),((),())))→(eS [(0,.val false [.lst (.int .i64) a0 none])] [(0,.val false [.lst (.int .i64) a0 none])]∧((tmJ a0 r2.1 1)∧∀(y3:(U5q×Int)),(tmJ a0 y3.1 y3.2)→(X00 (decide (y3.2<(ln a0))) (0≤y3.2∧(y3.2<(ln a0)∧(0≤(wI (y3.2 - (1:Int)))∧((wI (y3.2 - (1:Int)))<(ln a0)∧(X00 (y3.2==(1:Int)) (True∧∀r4,(Eq r4 ((X1P (wI ((List.getD a0 (tN y3.2) 0) - (List.getD a0 (tN (wI (y3.2 - (1:Int)))) 0)))),((),())))→(List.length y3.1+List.length r4.1≤9223372036854775807∧(eS [(0,.val false [.lst (.int .i64) a0 none])] [(0,.val false [.lst (.int .i64) a0 none])]∧(tmJ a0 (y3.1++r4.1) (wI (y3.2+(1:Int))))∧(tmM a0 (y3.1++r4.1) (wI (y3.2+(1:Int))))<(tmM a0 y3.1 y3.2)))) (0≤(wI (y3.2 - (1:Int)))∧((wI (y3.2 - (1:Int)))<(ln a0)∧(0≤(wI (y3.2 - (2:Int)))∧((wI (y3.2 - (2:Int)))<(ln a0)∧(True∧∀r5,(Eq r5 ((Xcv (wI ((wI ((List.getD a0 (tN y3.2) 0) - (List.getD a0 (tN (wI (y3.2 - (1:Int)))) 0))) - (wI ((List.getD a0 (tN (wI (y3.2 - (1:Int)))) 0) - (List.getD a0 (tN (wI (y3.2 - (2:Int)))) 0)))))),((),())))→(True∧∀r6,(Eq r6 ((X1P r5.1),((),())))→(List.length y3.1+List.length r6.1≤9223372036854775807∧(eS [(0,.val false [.lst (.int .i64) a0 none])] [(0,.val false [.lst (.int .i64) a0 none])]∧(tmJ a0 (y3.1++r6.1) (wI (y3.2+(1:Int))))∧(tmM a0 (y3.1++r6.1) (wI (y3.2+(1:Int))))<(tmM a0 y3.1 y3.2)))))))))))))) (Eq (y3.1,((),())) ((X0m a0),((),())))))))))))
def X1j.L(a0:(List Int)):Nat→Option X0d:=fun p=>Go.Proofs.YtcfaphojdacmbaaGreatR.Bv.look p [(122,{kp:={hold:=[0],slots:=[3,4],boxes:=[],rows:=[]},T:=Xl8,I:=fun st y=>tmJ a0 y.1 y.2,μ:=fun st y=>tmM a0 y.1 y.2})]
theorem X1j.pure(a0:(List Int))(h:True)(hw:Wf X5z.A a0):X1j.F a0:=by
 delta X1j.F ln tN wI eS
 have hw1:a0.length≤maxLen:=hw.1
 unfold maxLen at hw1
 simp only[Bs,B0,B1,Prod.mk.injEq,X01,tmJ,tmI,tmM]
 repeat' (with_reducible (first | (refine And.intro ?_ ?_) | intro _))
 all_goals (try simp (disch:=omega) only[w64,wu8,tn0,tn1,tm1,tm2,List.length_append,List.length_cons,List.length_nil,n11,n12,tn_0,tn_1]at*)
 all_goals (try simp (disch:=omega) only[w64,wu8,tn0,tn1,tm1,tm2,List.length_append,List.length_cons,List.length_nil,n11,n12,tn_0,tn_1]at*)
 all_goals (try omega)
 all_goals (try grind[X0m,Xb1,tmS,X4i,X7B,X8w])
theorem X1j.eq:EqS X5z Tryz.f203 [9] [X3N.e,X2P.e,X2X.e] [] (fun i x=>X1j.L x) (fun i x=>X1j.F x):=by intro i x;kernel_rfl
theorem X1j.ok:X0l Tryz.prog 203 X5z:=X2d X1j.eq Tryz.func203 rfl (by kernel_rfl) fun i x h hi hw=>X1j.pure x h hw
def X1j.e:GE:=⟨203,X5z,⟨_,Tryz.func203,rfl,rfl⟩,X1j.ok⟩
def X5n:Con:={A:=XbW,shA:=[.one],R:=.str,shR:=[(false,1)],pre:=fun _ a=>(XeT a),f:=some fun _ a=>((X0m a),((),()))}
def X1g.F(a0:(List Int)):Prop:=(eS [(0,.val false [.lst (.int .i64) a0 none]),(6,.val false [.lst (.int .i64) a0 none]),(7,.val false [.int .i64 (ln a0)])] [(0,.val false [.lst (.int .i64) a0 none]),(6,.val false [.lst (.int .i64) a0 none]),(7,.val false [.int .i64 (ln a0)])]∧((tmI a0 [] 0)∧∀(y1:(U5q×Int)),(tmI a0 y1.1 y1.2)→(X00 (decide (y1.2<(ln a0))) (0≤y1.2∧(y1.2<(ln a0)∧(True∧∀r2,(Eq r2 ((fIn (List.getD a0 (tN y1.2) 0) 0 1099511627776),((),())))→(X00 (!r2.1) (Eq ([],((),())) ((X0m a0),((),()))) (X00 (decide (y1.2>(0:Int))) (0≤(wI (y1.2 - (1:Int)))∧((wI (y1.2 - (1:Int)))<(ln a0)∧(X00 (decide ((List.getD a0 (tN (wI (y1.2 - (1:Int)))) 0)≥(List.getD a0 (tN y1.2) 0))) (Eq ([],((),())) ((X0m a0),((),()))) (X00 (y1.2==(0:Int)) (True∧∀r3,(Eq r3 ((X1P (List.getD a0 (tN y1.2) 0)),((),())))→(List.length y1.1+List.length r3.1≤9223372036854775807∧(eS [(0,.val false [.lst (.int .i64) a0 none]),(6,.val false [.lst (.int .i64) a0 none]),(7,.val false [.int .i64 (ln a0)])] [(0,.val false [.lst (.int .i64) a0 none]),(6,.val false [.lst (.int .i64) a0 none]),(7,.val false [.int .i64 (ln a0)])]∧(tmI a0 (y1.1++r3.1) (wI (y1.2+(1:Int))))∧(tmM a0 (y1.1++r3.1) (wI (y1.2+(1:Int))))<(tmM a0 y1.1 y1.2)))) (X00 (y1.2==(1:Int)) (0≤(0:Int)∧((0:Int)<(ln a0)∧(True∧∀r4,(Eq r4 ((X1P (wI ((List.getD a0 (tN y1.2) 0) - (List.getD a0 (tN (0:Int)) 0)))),((),())))→(List.length y1.1+List.length r4.1≤9223372036854775807∧(eS [(0,.val false [.lst (.int .i64) a0 none]),(6,.val false [.lst (.int .i64) a0 none]),(7,.val false [.int .i64 (ln a0)])] [(0,.val false [.lst (.int .i64) a0 none]),(6,.val false [.lst (.int .i64) a0 none]),(7,.val false [.int .i64 (ln a0)])]∧(tmI a0 (y1.1++r4.1) (wI (y1.2+(1:Int))))∧(tmM a0 (y1.1++r4.1) (wI (y1.2+(1:Int))))<(tmM a0 y1.1 y1.2)))))) (0≤(wI (y1.2 - (1:Int)))∧((wI (y1.2 - (1:Int)))<(ln a0)∧(0≤(wI (y1.2 - (1:Int)))∧((wI (y1.2 - (1:Int)))<(ln a0)∧(0≤(wI (y1.2 - (2:Int)))∧((wI (y1.2 - (2:Int)))<(ln a0)∧(True∧∀r5,(Eq r5 ((Xh3 (wI ((wI ((List.getD a0 (tN y1.2) 0) - (List.getD a0 (tN (wI (y1.2 - (1:Int)))) 0))) - (wI ((List.getD a0 (tN (wI (y1.2 - (1:Int)))) 0) - (List.getD a0 (tN (wI (y1.2 - (2:Int)))) 0)))))),((),())))→(List.length y1.1+List.length r5.1≤9223372036854775807∧(eS [(0,.val false [.lst (.int .i64) a0 none]),(6,.val false [.lst (.int .i64) a0 none]),(7,.val false [.int .i64 (ln a0)])] [(0,.val false [.lst (.int .i64) a0 none]),(6,.val false [.lst (.int .i64) a0 none]),(7,.val false [.int .i64 (ln a0)])]∧(tmI a0 (y1.1++r5.1) (wI (y1.2+(1:Int))))∧(tmM a0 (y1.1++r5.1) (wI (y1.2+(1:Int))))<(tmM a0 y1.1 y1.2))))))))))))))) (X00 (y1.2==(0:Int)) (True∧∀r6,(Eq r6 ((X1P (List.getD a0 (tN y1.2) 0)),((),())))→(List.length y1.1+List.length r6.1≤9223372036854775807∧(eS [(0,.val false [.lst (.int .i64) a0 none]),(6,.val false [.lst (.int .i64) a0 none]),(7,.val false [.int .i64 (ln a0)])] [(0,.val false [.lst (.int .i64) a0 none]),(6,.val false [.lst (.int .i64) a0 none]),(7,.val false [.int .i64 (ln a0)])]∧(tmI a0 (y1.1++r6.1) (wI (y1.2+(1:Int))))∧(tmM a0 (y1.1++r6.1) (wI (y1.2+(1:Int))))<(tmM a0 y1.1 y1.2)))) (X00 (y1.2==(1:Int)) (0≤(0:Int)∧((0:Int)<(ln a0)∧(True∧∀r7,(Eq r7 ((X1P (wI ((List.getD a0 (tN y1.2) 0) - (List.getD a0 (tN (0:Int)) 0)))),((),())))→(List.length y1.1+List.length r7.1≤9223372036854775807∧(eS [(0,.val false [.lst (.int .i64) a0 none]),(6,.val false [.lst (.int .i64) a0 none]),(7,.val false [.int .i64 (ln a0)])] [(0,.val false [.lst (.int .i64) a0 none]),(6,.val false [.lst (.int .i64) a0 none]),(7,.val false [.int .i64 (ln a0)])]∧(tmI a0 (y1.1++r7.1) (wI (y1.2+(1:Int))))∧(tmM a0 (y1.1++r7.1) (wI (y1.2+(1:Int))))<(tmM a0 y1.1 y1.2)))))) (0≤(wI (y1.2 - (1:Int)))∧((wI (y1.2 - (1:Int)))<(ln a0)∧(0≤(wI (y1.2 - (1:Int)))∧((wI (y1.2 - (1:Int)))<(ln a0)∧(0≤(wI (y1.2 - (2:Int)))∧((wI (y1.2 - (2:Int)))<(ln a0)∧(True∧∀r8,(Eq r8 ((Xh3 (wI ((wI ((List.getD a0 (tN y1.2) 0) - (List.getD a0 (tN (wI (y1.2 - (1:Int)))) 0))) - (wI ((List.getD a0 (tN (wI (y1.2 - (1:Int)))) 0) - (List.getD a0 (tN (wI (y1.2 - (2:Int)))) 0)))))),((),())))→(List.length y1.1+List.length r8.1≤9223372036854775807∧(eS [(0,.val false [.lst (.int .i64) a0 none]),(6,.val false [.lst (.int .i64) a0 none]),(7,.val false [.int .i64 (ln a0)])] [(0,.val false [.lst (.int .i64) a0 none]),(6,.val false [.lst (.int .i64) a0 none]),(7,.val false [.int .i64 (ln a0)])]∧(tmI a0 (y1.1++r8.1) (wI (y1.2+(1:Int))))∧(tmM a0 (y1.1++r8.1) (wI (y1.2+(1:Int))))<(tmM a0 y1.1 y1.2))))))))))))))))) (True∧∀r9,(Eq r9 ((fIn (ln a0) 1 60),((),())))→(X00 (!r9.1) (Eq ([],((),())) ((X0m a0),((),()))) (Eq (y1.1,((),())) ((X0m a0),((),()))))))))
def X1g.L(a0:(List Int)):Nat→Option X0d:=fun p=>Go.Proofs.YtcfaphojdacmbaaGreatR.Bv.look p [(58,{kp:={hold:=[0,6,7],slots:=[3,8],boxes:=[],rows:=[]},T:=Xl8,I:=fun st y=>tmI a0 y.1 y.2,μ:=fun st y=>tmM a0 y.1 y.2})]
theorem X1g.pure(a0:(List Int))(h:(XeT a0))(hw:Wf X5n.A a0):X1g.F a0:=by
 delta X1g.F ln tN wI eS
 have hw1:a0.length≤maxLen:=hw.1
 unfold maxLen at hw1
 have hp:a0.length≤1099511627776:=h
 simp only[Bs,B0,B1,Prod.mk.injEq,X01,tmI,tmM,Xh3,X0C,Xen]
 repeat' (with_reducible (first | (refine And.intro ?_ ?_) | intro _))
 all_goals (try simp (disch:=omega) only[w64,wu8,tn0,tn1,tm1,tm2,List.length_append,List.length_cons,List.length_nil,n11,n12,tn_0,tn_1]at*)
 all_goals (try simp (disch:=omega) only[w64,wu8,tn0,tn1,tm1,tm2,List.length_append,List.length_cons,List.length_nil,n11,n12,tn_0,tn_1]at*)
 all_goals (try omega)
 all_goals (try grind[X0m,Xb1,tmS,X4i,X7B,X8w])
theorem X1g.eq:EqS X5n Tryz.f239 [9] [X1K.e,X3T.e,X5q.e] [] (fun i x=>X1g.L x) (fun i x=>X1g.F x):=by intro i x;kernel_rfl
theorem X1g.ok:X0l Tryz.prog 239 X5n:=X2d X1g.eq Tryz.func239 rfl (by kernel_rfl) fun i x h hi hw=>X1g.pure x h hw
def X1g.e:GE:=⟨239,X5n,⟨_,Tryz.func239,rfl,rfl⟩,X1g.ok⟩
def X4X:Con:={A:=XbW,shA:=[.one],R:=.str,shR:=[(false,1)],pre:=fun _ _=>True,f:=some fun _ a=>((X0i a),((),()))}
def X0N.F(a0:(List Int)):Prop:=(True∧∀r1,(Eq r1 ((X8V a0),((),())))→(X00 (!r1.1) (Eq ([],((),())) ((X0i a0),((),()))) (eS [(0,.val false [.lst (.int .i64) a0 none])] [(0,.val false [.lst (.int .i64) a0 none])]∧((vlJ a0 [] 0 0)∧∀(y2:(U5q×(Int×Int))),(vlJ a0 y2.1 y2.2.1 y2.2.2)→(X00 (decide (y2.2.2<(ln a0))) (0≤y2.2.2∧(y2.2.2<(ln a0)∧(True∧∀r3,(Eq r3 ((Xcv (wI ((List.getD a0 (tN y2.2.2) 0) - y2.2.1))),((),())))→(True∧∀r4,(Eq r4 ((X1P r3.1),((),())))→(List.length y2.1+List.length r4.1≤9223372036854775807∧(0≤y2.2.2∧(y2.2.2<(ln a0)∧(eS [(0,.val false [.lst (.int .i64) a0 none])] [(0,.val false [.lst (.int .i64) a0 none])]∧(vlJ a0 (y2.1++r4.1) (List.getD a0 (tN y2.2.2) 0) (wI (y2.2.2+(1:Int))))∧(vlM a0 (y2.1++r4.1) (List.getD a0 (tN y2.2.2) 0) (wI (y2.2.2+(1:Int))))<(vlM a0 y2.1 y2.2.1 y2.2.2))))))))) (Eq (y2.1,((),())) ((X0i a0),((),()))))))))
def X0N.L(a0:(List Int)):Nat→Option X0d:=fun p=>Go.Proofs.YtcfaphojdacmbaaGreatR.Bv.look p [(250,{kp:={hold:=[0],slots:=[3,4,5],boxes:=[],rows:=[]},T:=(.pair .str T0q),I:=fun st y=>vlJ a0 y.1 y.2.1 y.2.2,μ:=fun st y=>vlM a0 y.1 y.2.1 y.2.2})]
theorem X0N.pure(a0:(List Int))(h:True)(hw:Wf X4X.A a0):X0N.F a0:=by
 delta X0N.F ln tN wI eS
 have hw1:a0.length≤maxLen:=hw.1
 unfold maxLen at hw1
 simp only[Bs,B0,B1,Prod.mk.injEq,X01,vlJ,vlI,vlM]
 repeat' (with_reducible (first | (refine And.intro ?_ ?_) | intro _))
 all_goals (try simp (disch:=omega) only[w64,wu8,tn0,tn1,tm1,tm2,List.length_append,List.length_cons,List.length_nil,n11]at*)
 all_goals (try simp (disch:=omega) only[w64,wu8,tn0,tn1,tm1,tm2,List.length_append,List.length_cons,List.length_nil,n11]at*)
 all_goals (try omega)
 all_goals (try grind[X0i,XeQ,vlS,X4I,Xbm,X8w])
theorem X0N.eq:EqS X4X Tryz.f204 [9] [X3N.e,X2X.e,X20.e] [] (fun i x=>X0N.L x) (fun i x=>X0N.F x):=by intro i x;kernel_rfl
theorem X0N.ok:X0l Tryz.prog 204 X4X:=X2d X0N.eq Tryz.func204 rfl (by kernel_rfl) fun i x h hi hw=>X0N.pure x h hw
def X0N.e:GE:=⟨204,X4X,⟨_,Tryz.func204,rfl,rfl⟩,X0N.ok⟩
def X52:Con:={A:=XbW,shA:=[.one],R:=.str,shR:=[(false,1)],pre:=fun _ a=>(XeT a),f:=some fun _ a=>((X0i a),((),()))}
def X0O.F(a0:(List Int)):Prop:=(eS [(0,.val false [.lst (.int .i64) a0 none]),(7,.val false [.lst (.int .i64) a0 none]),(8,.val false [.int .i64 (ln a0)])] [(0,.val false [.lst (.int .i64) a0 none]),(7,.val false [.lst (.int .i64) a0 none]),(8,.val false [.int .i64 (ln a0)])]∧((vlI a0 [] 0 0)∧∀(y1:(U5q×(Int×Int))),(vlI a0 y1.1 y1.2.1 y1.2.2)→(X00 (decide (y1.2.2<(ln a0))) (0≤y1.2.2∧(y1.2.2<(ln a0)∧(True∧∀r2,(Eq r2 ((fIn (List.getD a0 (tN y1.2.2) 0) (-1099511627776) 1099511627776),((),())))→(X00 (!r2.1) (Eq ([],((),())) ((X0i a0),((),()))) (True∧∀r3,(Eq r3 ((Xh3 (wI ((List.getD a0 (tN y1.2.2) 0) - y1.2.1))),((),())))→(List.length y1.1+List.length r3.1≤9223372036854775807∧(eS [(0,.val false [.lst (.int .i64) a0 none]),(7,.val false [.lst (.int .i64) a0 none]),(8,.val false [.int .i64 (ln a0)])] [(0,.val false [.lst (.int .i64) a0 none]),(7,.val false [.lst (.int .i64) a0 none]),(8,.val false [.int .i64 (ln a0)])]∧(vlI a0 (y1.1++r3.1) (List.getD a0 (tN y1.2.2) 0) (wI (y1.2.2+(1:Int))))∧(vlM a0 (y1.1++r3.1) (List.getD a0 (tN y1.2.2) 0) (wI (y1.2.2+(1:Int))))<(vlM a0 y1.1 y1.2.1 y1.2.2)))))))) (True∧∀r4,(Eq r4 ((fIn (ln a0) 1 60),((),())))→(X00 (!r4.1) (Eq ([],((),())) ((X0i a0),((),()))) (Eq (y1.1,((),())) ((X0i a0),((),()))))))))
def X0O.L(a0:(List Int)):Nat→Option X0d:=fun p=>Go.Proofs.YtcfaphojdacmbaaGreatR.Bv.look p [(122,{kp:={hold:=[0,7,8],slots:=[3,4,9],boxes:=[],rows:=[]},T:=(.pair .str T0q),I:=fun st y=>vlI a0 y.1 y.2.1 y.2.2,μ:=fun st y=>vlM a0 y.1 y.2.1 y.2.2})]
theorem X0O.pure(a0:(List Int))(h:(XeT a0))(hw:Wf X52.A a0):X0O.F a0:=by
 delta X0O.F ln tN wI eS
 have hw1:a0.length≤maxLen:=hw.1
 unfold maxLen at hw1
 have hp:a0.length≤1099511627776:=h
 simp only[Bs,B0,B1,Prod.mk.injEq,X01,vlI,vlM,Xh3,X0C,Xen]
 repeat' (with_reducible (first | (refine And.intro ?_ ?_) | intro _))
 all_goals (try simp (disch:=omega) only[w64,wu8,tn0,tn1,tm1,tm2,List.length_append,List.length_cons,List.length_nil,n11]at*)
 all_goals (try simp (disch:=omega) only[w64,wu8,tn0,tn1,tm1,tm2,List.length_append,List.length_cons,List.length_nil,n11]at*)
 all_goals (try omega)
 all_goals (try grind[X0i,XeQ,vlS,X4I,Xbm,X8w])
theorem X0O.eq:EqS X52 Tryz.f240 [9] [X1K.e,X5q.e] [] (fun i x=>X0O.L x) (fun i x=>X0O.F x):=by intro i x;kernel_rfl
theorem X0O.ok:X0l Tryz.prog 240 X52:=X2d X0O.eq Tryz.func240 rfl (by kernel_rfl) fun i x h hi hw=>X0O.pure x h hw
def X0O.e:GE:=⟨240,X52,⟨_,Tryz.func240,rfl,rfl⟩,X0O.ok⟩
end Go.Proofs.YtcfaphojdacmbaaGreatR.B
