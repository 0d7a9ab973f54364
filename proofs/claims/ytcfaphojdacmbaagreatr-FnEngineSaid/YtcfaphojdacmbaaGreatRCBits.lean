/- Bits:numbers with a sign,times,values. -/
import Derived.Test.YtcfaphojdacmbaaGreatRCSum
set_option maxRecDepth 100000
set_option linter.unusedVariables false
set_option linter.unusedSimpArgs false
namespace Go.Proofs.YtcfaphojdacmbaaGreatR.B
open Go Go.Proofs.YtcfaphojdacmbaaGreatR.Bv
def Xcv(n:Int):Int:=if fIn n (-140737488355328) 140737488355328 then(if n<0 then -2*n - 1 else 2*n) else -1
def Xhj(n:Int):List UInt8:=X1P (Xcv n)
def X9Q(l:List Int)(i:Nat):Bool:=fIn (l.getD i 0) 0 1099511627776&&(decide (i=0)||decide (l.getD (i - 1) 0<l.getD i 0))
def X94(l:List Int):Bool:=fIn l.length 1 60&&Xfa (X9Q l) l.length
def X7M(l:List Int)(i:Nat):Bool:=fIn (l.getD i 0) (-1099511627776) 1099511627776
def X9b(l:List Int):Bool:=fIn l.length 1 60&&Xfa (X7M l) l.length
theorem XdF{p:Nat→Bool}{n:Nat}:Xfa p n=true↔∀j,j<n→p j=true:=by simp[Xfa]
theorem X4q{l:List Int}:X94 l=true↔(1≤l.length∧l.length≤60)∧∀j,j<l.length→X9Q l j=true:=by
 simp only[X94,Bool.and_eq_true,X0C,XdF]
 exact⟨fun h=>⟨by omega,h.2⟩,fun h=>⟨by omega,h.2⟩⟩
theorem X4R{l:List Int}:X9b l=true↔(1≤l.length∧l.length≤60)∧∀j,j<l.length→X7M l j=true:=by
 simp only[X9b,Bool.and_eq_true,X0C,XdF]
 exact⟨fun h=>⟨by omega,h.2⟩,fun h=>⟨by omega,h.2⟩⟩
theorem X7Q{l:List Int}{i:Nat}:X9Q l i=true↔(0≤l.getD i 0∧l.getD i 0≤1099511627776)∧(i=0∨l.getD (i - 1) 0<l.getD i 0):=by
 simp[X9Q,fIn]
theorem Xbt{l:List Int}{i:Nat}:X7M l i=true↔-1099511627776≤l.getD i 0∧l.getD i 0≤1099511627776:=by simp[X7M,fIn]
def scI(p:List Int→Nat→Bool)(l:List Int)(i:Int):Prop:=0≤i∧i≤l.length∧l.length≤60∧1≤l.length∧∀j,j<i.toNat→p l j=true
def scM(l:List Int)(i:Int):Nat:=(l.length - i).toNat
def Xbq(l:List Int)(i:Nat):List UInt8:=if i=0 then X1P (l.getD 0 0) else if i=1 then X1P (l.getD 1 0 - l.getD 0 0) else X1P (Xcv (l.getD i 0 - l.getD (i - 1) 0 - (l.getD (i - 1) 0 - l.getD (i - 2) 0)))
def tmS(l:List Int):Nat→List UInt8
 | 0=>[]
 | i+1=>tmS l i++Xbq l i
theorem Xjw(l:List Int)(i:Nat):tmS l (i+1)=tmS l i++Xbq l i:=rfl
def X0m(l:List Int):List UInt8:=if X94 l then tmS l l.length else []
def XdZ(l:List Int)(i:Nat):List UInt8:=X1P (Xcv (l.getD i 0 - (if i=0 then 0 else l.getD (i - 1) 0)))
def vlS(l:List Int):Nat→List UInt8
 | 0=>[]
 | i+1=>vlS l i++XdZ l i
theorem Xk9(l:List Int)(i:Nat):vlS l (i+1)=vlS l i++XdZ l i:=rfl
def X0i(l:List Int):List UInt8:=if X9b l then vlS l l.length else []
theorem X8y(n:Int):(X1P n).length≤7:=X0w n
theorem Xg5(l:List Int):∀i,(tmS l i).length≤7*i
 | 0=>by simp[tmS]
 | i+1=>by
   have h:=Xg5 l i
   have h1:(Xbq l i).length≤7:=by
    unfold Xbq
    split
    · exact X0w _
    · split<;>exact X0w _
   rw[Xjw,List.length_append];omega
theorem Xgk(l:List Int):∀i,(vlS l i).length≤7*i
 | 0=>by simp[vlS]
 | i+1=>by
   have h:=Xgk l i
   have h1:(XdZ l i).length≤7:=X0w _
   rw[Xk9,List.length_append];omega
theorem X6T(l:List Int):(X0m l).length≤420:=by
 unfold X0m;split
 · rename_i h
   have:=Xg5 l l.length
   have:=(X4q.1 h).1;omega
 · simp
theorem X64(l:List Int):(X0i l).length≤420:=by
 unfold X0i;split
 · rename_i h
   have:=Xgk l l.length
   have:=(X4R.1 h).1;omega
 · simp
def tmI(l:List Int)(s:List UInt8)(i:Int):Prop:=0≤i∧i≤l.length∧(∀j,j<i.toNat→X9Q l j=true)∧(1≤i→(0≤l.getD 0 0∧l.getD 0 0≤1099511627776)∧0≤l.getD (i.toNat - 1) 0∧l.getD (i.toNat - 1) 0≤1099511627776)∧(2≤i→0≤l.getD (i.toNat - 2) 0∧l.getD (i.toNat - 2) 0≤1099511627776)∧(s.length:Int)≤7*i∧s=tmS l i.toNat
def tmJ(l:List Int)(s:List UInt8)(i:Int):Prop:=1≤i∧X94 l=true∧(i<l.length→0≤l.getD i.toNat 0∧l.getD i.toNat 0≤1099511627776)∧tmI l s i
def tmM(l:List Int)(s:List UInt8)(i:Int):Nat:=(l.length - i).toNat
def vlI(l:List Int)(s:List UInt8)(last i:Int):Prop:=0≤i∧i≤l.length∧(∀j,j<i.toNat→X7M l j=true)∧(-1099511627776≤last∧last≤1099511627776)∧last=(if i.toNat=0 then 0 else l.getD (i.toNat - 1) 0)∧(s.length:Int)≤7*i∧s=vlS l i.toNat
def vlJ(l:List Int)(s:List UInt8)(last i:Int):Prop:=X9b l=true∧(i<l.length→-1099511627776≤l.getD i.toNat 0∧l.getD i.toNat 0≤1099511627776)∧vlI l s last i
def vlM(l:List Int)(s:List UInt8)(last i:Int):Nat:=(l.length - i).toNat
def Xe4(l:List Int):Prop:=l.length≤1099511627776
theorem n11(n:Nat):n+1 - 1=n:=rfl
theorem n12(n:Nat):n+1 - 2=n - 1:=rfl
theorem tn_0:Int.toNat 0=0:=rfl
theorem tn_1:Int.toNat 1=1:=rfl
theorem XbH{l:List Int}{i:Nat}(h:X94 l=true)(hi:i<l.length):0≤l.getD i 0∧l.getD i 0≤1099511627776:=(X7Q.1 ((X4q.1 h).2 i hi)).1
theorem XiI{l:List Int}{i:Nat}(h:X9b l=true)(hi:i<l.length):-1099511627776≤l.getD i 0∧l.getD i 0≤1099511627776:=Xbt.1 ((X4R.1 h).2 i hi)
def X7L:Con:={A:=(.int .i64),shA:=[.one],R:=(.int .i64),shR:=[(false,1)],pre:=fun _ _=>True,f:=some fun _ a=>((Xcv a),((),()))}
def X2X.F(a0:Int):Prop:=(True∧∀r1,(Eq r1 ((fIn a0 (-140737488355328) 140737488355328),((),())))→(X00 (!r1.1) (Eq ((-1),((),())) ((Xcv a0),((),()))) (X00 (decide (a0<(0:Int))) (Eq ((wI ((wI (((-2):Int)*a0)) - (1:Int))),((),())) ((Xcv a0),((),()))) (Eq ((wI ((2:Int)*a0)),((),())) ((Xcv a0),((),()))))))
theorem X2X.pure(a0:Int)(h:True)(hw:Wf X7L.A a0):X2X.F a0:=by
 delta X2X.F wI
 simp only[Bs,B0,B1,Prod.mk.injEq,X01,X0C,XdU]
 repeat' (with_reducible (first | (refine And.intro ?_ ?_) | intro _))
 all_goals (try simp (disch:=omega) only[w64,wu8,tn0,tn1,tm1,tm2,List.length_append,List.length_cons,List.length_nil]at*)
 all_goals (try simp (disch:=omega) only[w64,wu8,tn0,tn1,tm1,tm2,List.length_append,List.length_cons,List.length_nil]at*)
 all_goals (try omega)
 all_goals (try grind[Xcv,X0C])
theorem X2X.eq:EqS X7L Tryz.f245 [3] [X2a.e] [] noL (fun i x=>X2X.F x):=by intro i x;kernel_rfl
theorem X2X.ok:X0l Tryz.prog 245 X7L:=X2b X2X.eq Tryz.func245 rfl (by kernel_rfl) fun i x h hi hw=>X2X.pure x h hw
def X2X.e:GE:=⟨245,X7L,⟨_,Tryz.func245,rfl,rfl⟩,X2X.ok⟩
def X7F:Con:={A:=(.int .i64),shA:=[.one],R:=(.int .i64),shR:=[(false,1)],pre:=fun _ _=>True,f:=some fun _ a=>((Xcv a),((),()))}
def X3z.F(a0:Int):Prop:=(True∧∀r1,(Eq r1 ((fIn a0 0 140737488355328),((),())))→(X00 r1.1 (Eq ((wI ((2:Int)*a0)),((),())) ((Xcv a0),((),()))) (True∧∀r2,(Eq r2 ((fIn a0 (-140737488355328) (-1)),((),())))→(X00 r2.1 (Eq ((wI ((wI (((-2):Int)*a0)) - (1:Int))),((),())) ((Xcv a0),((),()))) (Eq ((-1),((),())) ((Xcv a0),((),())))))))
theorem X3z.pure(a0:Int)(h:True)(hw:Wf X7F.A a0):X3z.F a0:=by
 delta X3z.F wI
 simp only[Bs,B0,B1,Prod.mk.injEq,X01,X0C,XdU]
 repeat' (with_reducible (first | (refine And.intro ?_ ?_) | intro _))
 all_goals (try simp (disch:=omega) only[w64,wu8,tn0,tn1,tm1,tm2,List.length_append,List.length_cons,List.length_nil]at*)
 all_goals (try simp (disch:=omega) only[w64,wu8,tn0,tn1,tm1,tm2,List.length_append,List.length_cons,List.length_nil]at*)
 all_goals (try omega)
 all_goals (try grind[Xcv,X0C])
theorem X3z.eq:EqS X7F Tryz.f272 [3] [X1H.e] [] noL (fun i x=>X3z.F x):=by intro i x;kernel_rfl
theorem X3z.ok:X0l Tryz.prog 272 X7F:=X2b X3z.eq Tryz.func272 rfl (by kernel_rfl) fun i x h hi hw=>X3z.pure x h hw
def X3z.e:GE:=⟨272,X7F,⟨_,Tryz.func272,rfl,rfl⟩,X3z.ok⟩
def Xaz:Con:={A:=(.int .i64),shA:=[.one],R:=.str,shR:=[(false,1)],pre:=fun _ _=>True,f:=some fun _ a=>((Xhj a),((),()))}
def X5v.F(a0:Int):Prop:=(True∧∀r1,(Eq r1 ((Xcv a0),((),())))→(True∧∀r2,(Eq r2 ((X1P r1.1),((),())))→(Eq (r2.1,((),())) ((Xhj a0),((),())))))
theorem X5v.pure(a0:Int)(h:True)(hw:Wf Xaz.A a0):X5v.F a0:=by
 unfold X5v.F
 simp only[Bs,B0,B1,Prod.mk.injEq,X01]
 repeat' (with_reducible (first | (refine And.intro ?_ ?_) | intro _))
 all_goals (try simp (disch:=omega) only[w64,wu8,tn0,tn1,tm1,tm2,List.length_append,List.length_cons,List.length_nil]at*)
 all_goals (try simp (disch:=omega) only[w64,wu8,tn0,tn1,tm1,tm2,List.length_append,List.length_cons,List.length_nil]at*)
 all_goals (try omega)
 all_goals (try grind[Xhj])
theorem X5v.eq:EqS Xaz Tryz.f263 [9] [X3Z.e,X3z.e] [] noL (fun i x=>X5v.F x):=by intro i x;kernel_rfl
theorem X5v.ok:X0l Tryz.prog 263 Xaz:=X2b X5v.eq Tryz.func263 rfl (by kernel_rfl) fun i x h hi hw=>X5v.pure x h hw
def X5v.e:GE:=⟨263,Xaz,⟨_,Tryz.func263,rfl,rfl⟩,X5v.ok⟩
def X7D:Con:={A:=Xc7,shA:=[.one],R:=.bool,shR:=[(false,1)],pre:=fun _ _=>True,f:=some fun _ a=>((X94 a),((),()))}
def X2Y.F(a0:(List Int)):Prop:=(True∧∀r1,(Eq r1 ((fIn (ln a0) 1 60),((),())))→(X00 (!r1.1) (Eq (false,((),())) ((X94 a0),((),()))) (eS [(0,.val false [.lst (.int .i64) a0 none])] [(0,.val false [.lst (.int .i64) a0 none])]∧((scI X9Q a0 0)∧∀(y2:Int),(scI X9Q a0 y2)→(X00 (decide (y2<(ln a0))) (0≤y2∧(y2<(ln a0)∧(True∧∀r3,(Eq r3 ((fIn (List.getD a0 (tN y2) 0) 0 1099511627776),((),())))→(X00 (!r3.1) (Eq (false,((),())) ((X94 a0),((),()))) (X00 (decide (y2>(0:Int))) (0≤(wI (y2 - (1:Int)))∧((wI (y2 - (1:Int)))<(ln a0)∧(0≤y2∧(y2<(ln a0)∧(X00 (decide ((List.getD a0 (tN (wI (y2 - (1:Int)))) 0)≥(List.getD a0 (tN y2) 0))) (Eq (false,((),())) ((X94 a0),((),()))) (eS [(0,.val false [.lst (.int .i64) a0 none])] [(0,.val false [.lst (.int .i64) a0 none])]∧(scI X9Q a0 (wI (y2+(1:Int))))∧(scM a0 (wI (y2+(1:Int))))<(scM a0 y2))))))) (eS [(0,.val false [.lst (.int .i64) a0 none])] [(0,.val false [.lst (.int .i64) a0 none])]∧(scI X9Q a0 (wI (y2+(1:Int))))∧(scM a0 (wI (y2+(1:Int))))<(scM a0 y2))))))) (Eq (true,((),())) ((X94 a0),((),()))))))))
def X2Y.L(a0:(List Int)):Nat→Option X0d:=fun p=>Go.Proofs.YtcfaphojdacmbaaGreatR.Bv.look p [(58,{kp:={hold:=[0],slots:=[3],boxes:=[],rows:=[]},T:=(.int .i64),I:=fun st y=>scI X9Q a0 y,μ:=fun st y=>scM a0 y})]
theorem X2Y.pure(a0:(List Int))(h:True)(hw:Wf X7D.A a0):X2Y.F a0:=by
 delta X2Y.F ln tN wI eS
 have hw1:a0.length≤maxLen:=hw.1
 unfold maxLen at hw1
 simp only[Bs,B0,B1,Prod.mk.injEq,X01,scI,scM,X0C,XdU]
 repeat' (with_reducible (first | (refine And.intro ?_ ?_) | intro _))
 all_goals (try simp (disch:=omega) only[w64,wu8,tn0,tn1,tm1,tm2,List.length_append,List.length_cons,List.length_nil]at*)
 all_goals (try simp (disch:=omega) only[w64,wu8,tn0,tn1,tm1,tm2,List.length_append,List.length_cons,List.length_nil]at*)
 all_goals (try omega)
 all_goals (try grind[X4q,X7Q])
theorem X2Y.eq:EqS X7D Tryz.f244 [4] [X2a.e] [] (fun i x=>X2Y.L x) (fun i x=>X2Y.F x):=by intro i x;kernel_rfl
theorem X2Y.ok:X0l Tryz.prog 244 X7D:=X2b X2Y.eq Tryz.func244 rfl (by kernel_rfl) fun i x h hi hw=>X2Y.pure x h hw
def X2Y.e:GE:=⟨244,X7D,⟨_,Tryz.func244,rfl,rfl⟩,X2Y.ok⟩
def X6C:Con:={A:=Xc7,shA:=[.one],R:=.bool,shR:=[(false,1)],pre:=fun _ _=>True,f:=some fun _ a=>((X9b a),((),()))}
def X20.F(a0:(List Int)):Prop:=(True∧∀r1,(Eq r1 ((fIn (ln a0) 1 60),((),())))→(X00 (!r1.1) (Eq (false,((),())) ((X9b a0),((),()))) (eS [(0,.val false [.lst (.int .i64) a0 none])] [(0,.val false [.lst (.int .i64) a0 none])]∧((scI X7M a0 0)∧∀(y2:Int),(scI X7M a0 y2)→(X00 (decide (y2<(ln a0))) (0≤y2∧(y2<(ln a0)∧(True∧∀r3,(Eq r3 ((fIn (List.getD a0 (tN y2) 0) (-1099511627776) 1099511627776),((),())))→(X00 (!r3.1) (Eq (false,((),())) ((X9b a0),((),()))) (eS [(0,.val false [.lst (.int .i64) a0 none])] [(0,.val false [.lst (.int .i64) a0 none])]∧(scI X7M a0 (wI (y2+(1:Int))))∧(scM a0 (wI (y2+(1:Int))))<(scM a0 y2)))))) (Eq (true,((),())) ((X9b a0),((),()))))))))
def X20.L(a0:(List Int)):Nat→Option X0d:=fun p=>Go.Proofs.YtcfaphojdacmbaaGreatR.Bv.look p [(58,{kp:={hold:=[0],slots:=[3],boxes:=[],rows:=[]},T:=(.int .i64),I:=fun st y=>scI X7M a0 y,μ:=fun st y=>scM a0 y})]
theorem X20.pure(a0:(List Int))(h:True)(hw:Wf X6C.A a0):X20.F a0:=by
 delta X20.F ln tN wI eS
 have hw1:a0.length≤maxLen:=hw.1
 unfold maxLen at hw1
 simp only[Bs,B0,B1,Prod.mk.injEq,X01,scI,scM,X0C,XdU]
 repeat' (with_reducible (first | (refine And.intro ?_ ?_) | intro _))
 all_goals (try simp (disch:=omega) only[w64,wu8,tn0,tn1,tm1,tm2,List.length_append,List.length_cons,List.length_nil]at*)
 all_goals (try simp (disch:=omega) only[w64,wu8,tn0,tn1,tm1,tm2,List.length_append,List.length_cons,List.length_nil]at*)
 all_goals (try omega)
 all_goals (try grind[X4R,Xbt])
theorem X20.eq:EqS X6C Tryz.f246 [4] [X2a.e] [] (fun i x=>X20.L x) (fun i x=>X20.F x):=by intro i x;kernel_rfl
theorem X20.ok:X0l Tryz.prog 246 X6C:=X2b X20.eq Tryz.func246 rfl (by kernel_rfl) fun i x h hi hw=>X20.pure x h hw
def X20.e:GE:=⟨246,X6C,⟨_,Tryz.func246,rfl,rfl⟩,X20.ok⟩
def X5I:Con:={A:=Xc7,shA:=[.one],R:=.str,shR:=[(false,1)],pre:=fun _ _=>True,f:=some fun _ a=>((X0m a),((),()))}
def X1h.F(a0:(List Int)):Prop:=(True∧∀r1,(Eq r1 ((X94 a0),((),())))→(X00 (!r1.1) (Eq ([],((),())) ((X0m a0),((),()))) (0≤(0:Int)∧((0:Int)<(ln a0)∧(True∧∀r2,(Eq r2 ((X1P (List.getD a0 (tN (0:Int)) 0)),((),())))→(eS [(0,.val false [.lst (.int .i64) a0 none])] [(0,.val false [.lst (.int .i64) a0 none])]∧((tmJ a0 r2.1 1)∧∀(y3:(U5q×Int)),(tmJ a0 y3.1 y3.2)→(X00 (decide (y3.2<(ln a0))) (0≤y3.2∧(y3.2<(ln a0)∧(0≤(wI (y3.2 - (1:Int)))∧((wI (y3.2 - (1:Int)))<(ln a0)∧(X00 (y3.2==(1:Int)) (True∧∀r4,(Eq r4 ((X1P (wI ((List.getD a0 (tN y3.2) 0) - (List.getD a0 (tN (wI (y3.2 - (1:Int)))) 0)))),((),())))→(List.length y3.1+List.length r4.1≤9223372036854775807∧(eS [(0,.val false [.lst (.int .i64) a0 none])] [(0,.val false [.lst (.int .i64) a0 none])]∧(tmJ a0 (y3.1++r4.1) (wI (y3.2+(1:Int))))∧(tmM a0 (y3.1++r4.1) (wI (y3.2+(1:Int))))<(tmM a0 y3.1 y3.2)))) (0≤(wI (y3.2 - (1:Int)))∧((wI (y3.2 - (1:Int)))<(ln a0)∧(0≤(wI (y3.2 - (2:Int)))∧((wI (y3.2 - (2:Int)))<(ln a0)∧(True∧∀r5,(Eq r5 ((Xcv (wI ((wI ((List.getD a0 (tN y3.2) 0) - (List.getD a0 (tN (wI (y3.2 - (1:Int)))) 0))) - (wI ((List.getD a0 (tN (wI (y3.2 - (1:Int)))) 0) - (List.getD a0 (tN (wI (y3.2 - (2:Int)))) 0)))))),((),())))→(True∧∀r6,(Eq r6 ((X1P r5.1),((),())))→(List.length y3.1+List.length r6.1≤9223372036854775807∧(eS [(0,.val false [.lst (.int .i64) a0 none])] [(0,.val false [.lst (.int .i64) a0 none])]∧(tmJ a0 (y3.1++r6.1) (wI (y3.2+(1:Int))))∧(tmM a0 (y3.1++r6.1) (wI (y3.2+(1:Int))))<(tmM a0 y3.1 y3.2)))))))))))))) (Eq (y3.1,((),())) ((X0m a0),((),())))))))))))
def X1h.L(a0:(List Int)):Nat→Option X0d:=fun p=>Go.Proofs.YtcfaphojdacmbaaGreatR.Bv.look p [(122,{kp:={hold:=[0],slots:=[3,4],boxes:=[],rows:=[]},T:=Xli,I:=fun st y=>tmJ a0 y.1 y.2,μ:=fun st y=>tmM a0 y.1 y.2})]
theorem X1h.pure(a0:(List Int))(h:True)(hw:Wf X5I.A a0):X1h.F a0:=by
 delta X1h.F ln tN wI eS
 have hw1:a0.length≤maxLen:=hw.1
 unfold maxLen at hw1
 simp only[Bs,B0,B1,Prod.mk.injEq,X01,tmJ,tmI,tmM]
 repeat' (with_reducible (first | (refine And.intro ?_ ?_) | intro _))
 all_goals (try simp (disch:=omega) only[w64,wu8,tn0,tn1,tm1,tm2,List.length_append,List.length_cons,List.length_nil,n11,n12,tn_0,tn_1]at*)
 all_goals (try simp (disch:=omega) only[w64,wu8,tn0,tn1,tm1,tm2,List.length_append,List.length_cons,List.length_nil,n11,n12,tn_0,tn_1]at*)
 all_goals (try omega)
 all_goals (try grind[X0m,Xbq,tmS,X4q,X7Q,X8y])
theorem X1h.eq:EqS X5I Tryz.f203 [9] [X3Q.e,X2Y.e,X2X.e] [] (fun i x=>X1h.L x) (fun i x=>X1h.F x):=by intro i x;kernel_rfl
theorem X1h.ok:X0l Tryz.prog 203 X5I:=X2b X1h.eq Tryz.func203 rfl (by kernel_rfl) fun i x h hi hw=>X1h.pure x h hw
def X1h.e:GE:=⟨203,X5I,⟨_,Tryz.func203,rfl,rfl⟩,X1h.ok⟩
def X5J:Con:={A:=Xc7,shA:=[.one],R:=.str,shR:=[(false,1)],pre:=fun _ a=>(Xe4 a),f:=some fun _ a=>((X0m a),((),()))}
def X1k.F(a0:(List Int)):Prop:=(eS [(0,.val false [.lst (.int .i64) a0 none]),(6,.val false [.lst (.int .i64) a0 none]),(7,.val false [.int .i64 (ln a0)])] [(0,.val false [.lst (.int .i64) a0 none]),(6,.val false [.lst (.int .i64) a0 none]),(7,.val false [.int .i64 (ln a0)])]∧((tmI a0 [] 0)∧∀(y1:(U5q×Int)),(tmI a0 y1.1 y1.2)→(X00 (decide (y1.2<(ln a0))) (0≤y1.2∧(y1.2<(ln a0)∧(True∧∀r2,(Eq r2 ((fIn (List.getD a0 (tN y1.2) 0) 0 1099511627776),((),())))→(X00 (!r2.1) (Eq ([],((),())) ((X0m a0),((),()))) (X00 (decide (y1.2>(0:Int))) (0≤(wI (y1.2 - (1:Int)))∧((wI (y1.2 - (1:Int)))<(ln a0)∧(X00 (decide ((List.getD a0 (tN (wI (y1.2 - (1:Int)))) 0)≥(List.getD a0 (tN y1.2) 0))) (Eq ([],((),())) ((X0m a0),((),()))) (X00 (y1.2==(0:Int)) (True∧∀r3,(Eq r3 ((X1P (List.getD a0 (tN y1.2) 0)),((),())))→(List.length y1.1+List.length r3.1≤9223372036854775807∧(eS [(0,.val false [.lst (.int .i64) a0 none]),(6,.val false [.lst (.int .i64) a0 none]),(7,.val false [.int .i64 (ln a0)])] [(0,.val false [.lst (.int .i64) a0 none]),(6,.val false [.lst (.int .i64) a0 none]),(7,.val false [.int .i64 (ln a0)])]∧(tmI a0 (y1.1++r3.1) (wI (y1.2+(1:Int))))∧(tmM a0 (y1.1++r3.1) (wI (y1.2+(1:Int))))<(tmM a0 y1.1 y1.2)))) (X00 (y1.2==(1:Int)) (0≤(0:Int)∧((0:Int)<(ln a0)∧(True∧∀r4,(Eq r4 ((X1P (wI ((List.getD a0 (tN y1.2) 0) - (List.getD a0 (tN (0:Int)) 0)))),((),())))→(List.length y1.1+List.length r4.1≤9223372036854775807∧(eS [(0,.val false [.lst (.int .i64) a0 none]),(6,.val false [.lst (.int .i64) a0 none]),(7,.val false [.int .i64 (ln a0)])] [(0,.val false [.lst (.int .i64) a0 none]),(6,.val false [.lst (.int .i64) a0 none]),(7,.val false [.int .i64 (ln a0)])]∧(tmI a0 (y1.1++r4.1) (wI (y1.2+(1:Int))))∧(tmM a0 (y1.1++r4.1) (wI (y1.2+(1:Int))))<(tmM a0 y1.1 y1.2)))))) (0≤(wI (y1.2 - (1:Int)))∧((wI (y1.2 - (1:Int)))<(ln a0)∧(0≤(wI (y1.2 - (1:Int)))∧((wI (y1.2 - (1:Int)))<(ln a0)∧(0≤(wI (y1.2 - (2:Int)))∧((wI (y1.2 - (2:Int)))<(ln a0)∧(True∧∀r5,(Eq r5 ((Xhj (wI ((wI ((List.getD a0 (tN y1.2) 0) - (List.getD a0 (tN (wI (y1.2 - (1:Int)))) 0))) - (wI ((List.getD a0 (tN (wI (y1.2 - (1:Int)))) 0) - (List.getD a0 (tN (wI (y1.2 - (2:Int)))) 0)))))),((),())))→(List.length y1.1+List.length r5.1≤9223372036854775807∧(eS [(0,.val false [.lst (.int .i64) a0 none]),(6,.val false [.lst (.int .i64) a0 none]),(7,.val false [.int .i64 (ln a0)])] [(0,.val false [.lst (.int .i64) a0 none]),(6,.val false [.lst (.int .i64) a0 none]),(7,.val false [.int .i64 (ln a0)])]∧(tmI a0 (y1.1++r5.1) (wI (y1.2+(1:Int))))∧(tmM a0 (y1.1++r5.1) (wI (y1.2+(1:Int))))<(tmM a0 y1.1 y1.2))))))))))))))) (X00 (y1.2==(0:Int)) (True∧∀r6,(Eq r6 ((X1P (List.getD a0 (tN y1.2) 0)),((),())))→(List.length y1.1+List.length r6.1≤9223372036854775807∧(eS [(0,.val false [.lst (.int .i64) a0 none]),(6,.val false [.lst (.int .i64) a0 none]),(7,.val false [.int .i64 (ln a0)])] [(0,.val false [.lst (.int .i64) a0 none]),(6,.val false [.lst (.int .i64) a0 none]),(7,.val false [.int .i64 (ln a0)])]∧(tmI a0 (y1.1++r6.1) (wI (y1.2+(1:Int))))∧(tmM a0 (y1.1++r6.1) (wI (y1.2+(1:Int))))<(tmM a0 y1.1 y1.2)))) (X00 (y1.2==(1:Int)) (0≤(0:Int)∧((0:Int)<(ln a0)∧(True∧∀r7,(Eq r7 ((X1P (wI ((List.getD a0 (tN y1.2) 0) - (List.getD a0 (tN (0:Int)) 0)))),((),())))→(List.length y1.1+List.length r7.1≤9223372036854775807∧(eS [(0,.val false [.lst (.int .i64) a0 none]),(6,.val false [.lst (.int .i64) a0 none]),(7,.val false [.int .i64 (ln a0)])] [(0,.val false [.lst (.int .i64) a0 none]),(6,.val false [.lst (.int .i64) a0 none]),(7,.val false [.int .i64 (ln a0)])]∧(tmI a0 (y1.1++r7.1) (wI (y1.2+(1:Int))))∧(tmM a0 (y1.1++r7.1) (wI (y1.2+(1:Int))))<(tmM a0 y1.1 y1.2)))))) (0≤(wI (y1.2 - (1:Int)))∧((wI (y1.2 - (1:Int)))<(ln a0)∧(0≤(wI (y1.2 - (1:Int)))∧((wI (y1.2 - (1:Int)))<(ln a0)∧(0≤(wI (y1.2 - (2:Int)))∧((wI (y1.2 - (2:Int)))<(ln a0)∧(True∧∀r8,(Eq r8 ((Xhj (wI ((wI ((List.getD a0 (tN y1.2) 0) - (List.getD a0 (tN (wI (y1.2 - (1:Int)))) 0))) - (wI ((List.getD a0 (tN (wI (y1.2 - (1:Int)))) 0) - (List.getD a0 (tN (wI (y1.2 - (2:Int)))) 0)))))),((),())))→(List.length y1.1+List.length r8.1≤9223372036854775807∧(eS [(0,.val false [.lst (.int .i64) a0 none]),(6,.val false [.lst (.int .i64) a0 none]),(7,.val false [.int .i64 (ln a0)])] [(0,.val false [.lst (.int .i64) a0 none]),(6,.val false [.lst (.int .i64) a0 none]),(7,.val false [.int .i64 (ln a0)])]∧(tmI a0 (y1.1++r8.1) (wI (y1.2+(1:Int))))∧(tmM a0 (y1.1++r8.1) (wI (y1.2+(1:Int))))<(tmM a0 y1.1 y1.2))))))))))))))))) (True∧∀r9,(Eq r9 ((fIn (ln a0) 1 60),((),())))→(X00 (!r9.1) (Eq ([],((),())) ((X0m a0),((),()))) (Eq (y1.1,((),())) ((X0m a0),((),()))))))))
def X1k.L(a0:(List Int)):Nat→Option X0d:=fun p=>Go.Proofs.YtcfaphojdacmbaaGreatR.Bv.look p [(58,{kp:={hold:=[0,6,7],slots:=[3,8],boxes:=[],rows:=[]},T:=Xli,I:=fun st y=>tmI a0 y.1 y.2,μ:=fun st y=>tmM a0 y.1 y.2})]
theorem X1k.pure(a0:(List Int))(h:(Xe4 a0))(hw:Wf X5J.A a0):X1k.F a0:=by
 delta X1k.F ln tN wI eS
 have hw1:a0.length≤maxLen:=hw.1
 unfold maxLen at hw1
 have hp:a0.length≤1099511627776:=h
 simp only[Bs,B0,B1,Prod.mk.injEq,X01,tmI,tmM,Xhj,X0C,XdU]
 repeat' (with_reducible (first | (refine And.intro ?_ ?_) | intro _))
 all_goals (try simp (disch:=omega) only[w64,wu8,tn0,tn1,tm1,tm2,List.length_append,List.length_cons,List.length_nil,n11,n12,tn_0,tn_1]at*)
 all_goals (try simp (disch:=omega) only[w64,wu8,tn0,tn1,tm1,tm2,List.length_append,List.length_cons,List.length_nil,n11,n12,tn_0,tn_1]at*)
 all_goals (try omega)
 all_goals (try grind[X0m,Xbq,tmS,X4q,X7Q,X8y])
theorem X1k.eq:EqS X5J Tryz.f239 [9] [X1H.e,X3Z.e,X5v.e] [] (fun i x=>X1k.L x) (fun i x=>X1k.F x):=by intro i x;kernel_rfl
theorem X1k.ok:X0l Tryz.prog 239 X5J:=X2b X1k.eq Tryz.func239 rfl (by kernel_rfl) fun i x h hi hw=>X1k.pure x h hw
def X1k.e:GE:=⟨239,X5J,⟨_,Tryz.func239,rfl,rfl⟩,X1k.ok⟩
def X5f:Con:={A:=Xc7,shA:=[.one],R:=.str,shR:=[(false,1)],pre:=fun _ _=>True,f:=some fun _ a=>((X0i a),((),()))}
def X0T.F(a0:(List Int)):Prop:=(True∧∀r1,(Eq r1 ((X9b a0),((),())))→(X00 (!r1.1) (Eq ([],((),())) ((X0i a0),((),()))) (eS [(0,.val false [.lst (.int .i64) a0 none])] [(0,.val false [.lst (.int .i64) a0 none])]∧((vlJ a0 [] 0 0)∧∀(y2:(U5q×(Int×Int))),(vlJ a0 y2.1 y2.2.1 y2.2.2)→(X00 (decide (y2.2.2<(ln a0))) (0≤y2.2.2∧(y2.2.2<(ln a0)∧(True∧∀r3,(Eq r3 ((Xcv (wI ((List.getD a0 (tN y2.2.2) 0) - y2.2.1))),((),())))→(True∧∀r4,(Eq r4 ((X1P r3.1),((),())))→(List.length y2.1+List.length r4.1≤9223372036854775807∧(0≤y2.2.2∧(y2.2.2<(ln a0)∧(eS [(0,.val false [.lst (.int .i64) a0 none])] [(0,.val false [.lst (.int .i64) a0 none])]∧(vlJ a0 (y2.1++r4.1) (List.getD a0 (tN y2.2.2) 0) (wI (y2.2.2+(1:Int))))∧(vlM a0 (y2.1++r4.1) (List.getD a0 (tN y2.2.2) 0) (wI (y2.2.2+(1:Int))))<(vlM a0 y2.1 y2.2.1 y2.2.2))))))))) (Eq (y2.1,((),())) ((X0i a0),((),()))))))))
def X0T.L(a0:(List Int)):Nat→Option X0d:=fun p=>Go.Proofs.YtcfaphojdacmbaaGreatR.Bv.look p [(250,{kp:={hold:=[0],slots:=[3,4,5],boxes:=[],rows:=[]},T:=(.pair .str T0q),I:=fun st y=>vlJ a0 y.1 y.2.1 y.2.2,μ:=fun st y=>vlM a0 y.1 y.2.1 y.2.2})]
theorem X0T.pure(a0:(List Int))(h:True)(hw:Wf X5f.A a0):X0T.F a0:=by
 delta X0T.F ln tN wI eS
 have hw1:a0.length≤maxLen:=hw.1
 unfold maxLen at hw1
 simp only[Bs,B0,B1,Prod.mk.injEq,X01,vlJ,vlI,vlM]
 repeat' (with_reducible (first | (refine And.intro ?_ ?_) | intro _))
 all_goals (try simp (disch:=omega) only[w64,wu8,tn0,tn1,tm1,tm2,List.length_append,List.length_cons,List.length_nil,n11]at*)
 all_goals (try simp (disch:=omega) only[w64,wu8,tn0,tn1,tm1,tm2,List.length_append,List.length_cons,List.length_nil,n11]at*)
 all_goals (try omega)
 all_goals (try grind[X0i,XdZ,vlS,X4R,Xbt,X8y])
theorem X0T.eq:EqS X5f Tryz.f204 [9] [X3Q.e,X2X.e,X20.e] [] (fun i x=>X0T.L x) (fun i x=>X0T.F x):=by intro i x;kernel_rfl
theorem X0T.ok:X0l Tryz.prog 204 X5f:=X2b X0T.eq Tryz.func204 rfl (by kernel_rfl) fun i x h hi hw=>X0T.pure x h hw
def X0T.e:GE:=⟨204,X5f,⟨_,Tryz.func204,rfl,rfl⟩,X0T.ok⟩
def X55:Con:={A:=Xc7,shA:=[.one],R:=.str,shR:=[(false,1)],pre:=fun _ a=>(Xe4 a),f:=some fun _ a=>((X0i a),((),()))}
def X0P.F(a0:(List Int)):Prop:=(eS [(0,.val false [.lst (.int .i64) a0 none]),(7,.val false [.lst (.int .i64) a0 none]),(8,.val false [.int .i64 (ln a0)])] [(0,.val false [.lst (.int .i64) a0 none]),(7,.val false [.lst (.int .i64) a0 none]),(8,.val false [.int .i64 (ln a0)])]∧((vlI a0 [] 0 0)∧∀(y1:(U5q×(Int×Int))),(vlI a0 y1.1 y1.2.1 y1.2.2)→(X00 (decide (y1.2.2<(ln a0))) (0≤y1.2.2∧(y1.2.2<(ln a0)∧(True∧∀r2,(Eq r2 ((fIn (List.getD a0 (tN y1.2.2) 0) (-1099511627776) 1099511627776),((),())))→(X00 (!r2.1) (Eq ([],((),())) ((X0i a0),((),()))) (True∧∀r3,(Eq r3 ((Xhj (wI ((List.getD a0 (tN y1.2.2) 0) - y1.2.1))),((),())))→(List.length y1.1+List.length r3.1≤9223372036854775807∧(eS [(0,.val false [.lst (.int .i64) a0 none]),(7,.val false [.lst (.int .i64) a0 none]),(8,.val false [.int .i64 (ln a0)])] [(0,.val false [.lst (.int .i64) a0 none]),(7,.val false [.lst (.int .i64) a0 none]),(8,.val false [.int .i64 (ln a0)])]∧(vlI a0 (y1.1++r3.1) (List.getD a0 (tN y1.2.2) 0) (wI (y1.2.2+(1:Int))))∧(vlM a0 (y1.1++r3.1) (List.getD a0 (tN y1.2.2) 0) (wI (y1.2.2+(1:Int))))<(vlM a0 y1.1 y1.2.1 y1.2.2)))))))) (True∧∀r4,(Eq r4 ((fIn (ln a0) 1 60),((),())))→(X00 (!r4.1) (Eq ([],((),())) ((X0i a0),((),()))) (Eq (y1.1,((),())) ((X0i a0),((),()))))))))
def X0P.L(a0:(List Int)):Nat→Option X0d:=fun p=>Go.Proofs.YtcfaphojdacmbaaGreatR.Bv.look p [(122,{kp:={hold:=[0,7,8],slots:=[3,4,9],boxes:=[],rows:=[]},T:=(.pair .str T0q),I:=fun st y=>vlI a0 y.1 y.2.1 y.2.2,μ:=fun st y=>vlM a0 y.1 y.2.1 y.2.2})]
theorem X0P.pure(a0:(List Int))(h:(Xe4 a0))(hw:Wf X55.A a0):X0P.F a0:=by
 delta X0P.F ln tN wI eS
 have hw1:a0.length≤maxLen:=hw.1
 unfold maxLen at hw1
 have hp:a0.length≤1099511627776:=h
 simp only[Bs,B0,B1,Prod.mk.injEq,X01,vlI,vlM,Xhj,X0C,XdU]
 repeat' (with_reducible (first | (refine And.intro ?_ ?_) | intro _))
 all_goals (try simp (disch:=omega) only[w64,wu8,tn0,tn1,tm1,tm2,List.length_append,List.length_cons,List.length_nil,n11]at*)
 all_goals (try simp (disch:=omega) only[w64,wu8,tn0,tn1,tm1,tm2,List.length_append,List.length_cons,List.length_nil,n11]at*)
 all_goals (try omega)
 all_goals (try grind[X0i,XdZ,vlS,X4R,Xbt,X8y])
theorem X0P.eq:EqS X55 Tryz.f240 [9] [X1H.e,X5v.e] [] (fun i x=>X0P.L x) (fun i x=>X0P.F x):=by intro i x;kernel_rfl
theorem X0P.ok:X0l Tryz.prog 240 X55:=X2b X0P.eq Tryz.func240 rfl (by kernel_rfl) fun i x h hi hw=>X0P.pure x h hw
def X0P.e:GE:=⟨240,X55,⟨_,Tryz.func240,rfl,rfl⟩,X0P.ok⟩
end Go.Proofs.YtcfaphojdacmbaaGreatR.B
