/- Bits:numbers with a sign,times,values. -/
import Derived.Test.YtcfaphojdacmbaaGreatRCSum
set_option maxRecDepth 100000
set_option linter.unusedVariables false
set_option linter.unusedSimpArgs false
namespace Go.Proofs.YtcfaphojdacmbaaGreatR.B
open Go Go.Proofs.YtcfaphojdacmbaaGreatR.Bv
def XbO(n:Int):Int:=if fIn n (-140737488355328) 140737488355328 then(if n<0 then -2*n - 1 else 2*n) else -1
def Xhx(n:Int):List UInt8:=X1J (XbO n)
def X9e(l:List Int)(i:Nat):Bool:=fIn (l.getD i 0) 0 1099511627776&&(decide (i=0)||decide (l.getD (i - 1) 0<l.getD i 0))
def X8r(l:List Int):Bool:=fIn l.length 1 60&&Xeu (X9e l) l.length
def X7h(l:List Int)(i:Nat):Bool:=fIn (l.getD i 0) (-1099511627776) 1099511627776
def X8F(l:List Int):Bool:=fIn l.length 1 60&&Xeu (X7h l) l.length
theorem XcW{p:Nat→Bool}{n:Nat}:Xeu p n=true↔∀j,j<n→p j=true:=by simp[Xeu]
theorem X4b{l:List Int}:X8r l=true↔(1≤l.length∧l.length≤60)∧∀j,j<l.length→X9e l j=true:=by
 simp only[X8r,Bool.and_eq_true,X0A,XcW]
 exact⟨fun h=>⟨by omega,h.2⟩,fun h=>⟨by omega,h.2⟩⟩
theorem X4r{l:List Int}:X8F l=true↔(1≤l.length∧l.length≤60)∧∀j,j<l.length→X7h l j=true:=by
 simp only[X8F,Bool.and_eq_true,X0A,XcW]
 exact⟨fun h=>⟨by omega,h.2⟩,fun h=>⟨by omega,h.2⟩⟩
theorem X7m{l:List Int}{i:Nat}:X9e l i=true↔(0≤l.getD i 0∧l.getD i 0≤1099511627776)∧(i=0∨l.getD (i - 1) 0<l.getD i 0):=by
 simp[X9e,fIn]
theorem Xbc{l:List Int}{i:Nat}:X7h l i=true↔-1099511627776≤l.getD i 0∧l.getD i 0≤1099511627776:=by simp[X7h,fIn]
def scI(p:List Int→Nat→Bool)(l:List Int)(i:Int):Prop:=0≤i∧i≤l.length∧l.length≤60∧1≤l.length∧∀j,j<i.toNat→p l j=true
def scM(l:List Int)(i:Int):Nat:=(l.length - i).toNat
def XaH(l:List Int)(i:Nat):List UInt8:=if i=0 then X1J (l.getD 0 0) else if i=1 then X1J (l.getD 1 0 - l.getD 0 0) else X1J (XbO (l.getD i 0 - l.getD (i - 1) 0 - (l.getD (i - 1) 0 - l.getD (i - 2) 0)))
def tmS(l:List Int):Nat→List UInt8
 | 0=>[]
 | i+1=>tmS l i++XaH l i
theorem Xjz(l:List Int)(i:Nat):tmS l (i+1)=tmS l i++XaH l i:=rfl
def X0l(l:List Int):List UInt8:=if X8r l then tmS l l.length else []
def XdU(l:List Int)(i:Nat):List UInt8:=X1J (XbO (l.getD i 0 - (if i=0 then 0 else l.getD (i - 1) 0)))
def vlS(l:List Int):Nat→List UInt8
 | 0=>[]
 | i+1=>vlS l i++XdU l i
theorem Xjv(l:List Int)(i:Nat):vlS l (i+1)=vlS l i++XdU l i:=rfl
def X0i(l:List Int):List UInt8:=if X8F l then vlS l l.length else []
theorem X7U(n:Int):(X1J n).length≤7:=X0v n
theorem XeV(l:List Int):∀i,(tmS l i).length≤7*i
 | 0=>by simp[tmS]
 | i+1=>by
   have h:=XeV l i
   have h1:(XaH l i).length≤7:=by
    unfold XaH
    split
    · exact X0v _
    · split<;>exact X0v _
   rw[Xjz,List.length_append];omega
theorem XeT(l:List Int):∀i,(vlS l i).length≤7*i
 | 0=>by simp[vlS]
 | i+1=>by
   have h:=XeT l i
   have h1:(XdU l i).length≤7:=X0v _
   rw[Xjv,List.length_append];omega
theorem X6l(l:List Int):(X0l l).length≤420:=by
 unfold X0l;split
 · rename_i h
   have:=XeV l l.length
   have:=(X4b.1 h).1;omega
 · simp
theorem X5M(l:List Int):(X0i l).length≤420:=by
 unfold X0i;split
 · rename_i h
   have:=XeT l l.length
   have:=(X4r.1 h).1;omega
 · simp
def tmI(l:List Int)(s:List UInt8)(i:Int):Prop:=0≤i∧i≤l.length∧(∀j,j<i.toNat→X9e l j=true)∧(1≤i→(0≤l.getD 0 0∧l.getD 0 0≤1099511627776)∧0≤l.getD (i.toNat - 1) 0∧l.getD (i.toNat - 1) 0≤1099511627776)∧(2≤i→0≤l.getD (i.toNat - 2) 0∧l.getD (i.toNat - 2) 0≤1099511627776)∧(s.length:Int)≤7*i∧s=tmS l i.toNat
def tmJ(l:List Int)(s:List UInt8)(i:Int):Prop:=1≤i∧X8r l=true∧(i<l.length→0≤l.getD i.toNat 0∧l.getD i.toNat 0≤1099511627776)∧tmI l s i
def tmM(l:List Int)(s:List UInt8)(i:Int):Nat:=(l.length - i).toNat
def vlI(l:List Int)(s:List UInt8)(last i:Int):Prop:=0≤i∧i≤l.length∧(∀j,j<i.toNat→X7h l j=true)∧(-1099511627776≤last∧last≤1099511627776)∧last=(if i.toNat=0 then 0 else l.getD (i.toNat - 1) 0)∧(s.length:Int)≤7*i∧s=vlS l i.toNat
def vlJ(l:List Int)(s:List UInt8)(last i:Int):Prop:=X8F l=true∧(i<l.length→-1099511627776≤l.getD i.toNat 0∧l.getD i.toNat 0≤1099511627776)∧vlI l s last i
def vlM(l:List Int)(s:List UInt8)(last i:Int):Nat:=(l.length - i).toNat
def Xe2(l:List Int):Prop:=l.length≤1099511627776
theorem n11(n:Nat):n+1 - 1=n:=rfl
theorem n12(n:Nat):n+1 - 2=n - 1:=rfl
theorem tn_0:Int.toNat 0=0:=rfl
theorem tn_1:Int.toNat 1=1:=rfl
theorem Xbj{l:List Int}{i:Nat}(h:X8r l=true)(hi:i<l.length):0≤l.getD i 0∧l.getD i 0≤1099511627776:=(X7m.1 ((X4b.1 h).2 i hi)).1
theorem XiD{l:List Int}{i:Nat}(h:X8F l=true)(hi:i<l.length):-1099511627776≤l.getD i 0∧l.getD i 0≤1099511627776:=Xbc.1 ((X4r.1 h).2 i hi)
def X76:Con:={A:=(.int .i64),shA:=[.one],R:=(.int .i64),shR:=[(false,1)],pre:=fun _ _=>True,f:=some fun _ a=>((XbO a),((),()))}
def X2M.F(a0:Int):Prop:=(True∧∀r1,(Eq r1 ((fIn a0 (-140737488355328) 140737488355328),((),())))→(X02 (!r1.1) (Eq ((-1),((),())) ((XbO a0),((),()))) (X02 (decide (a0<(0:Int))) (Eq ((wI ((wI (((-2):Int)*a0)) - (1:Int))),((),())) ((XbO a0),((),()))) (Eq ((wI ((2:Int)*a0)),((),())) ((XbO a0),((),()))))))
theorem X2M.pure(a0:Int)(h:True)(hw:Wf X76.A a0):X2M.F a0:=by
 delta X2M.F wI
 simp only[Bs,B0,B1,Prod.mk.injEq,X01,X0A,Xds]
 repeat' (with_reducible (first | (refine And.intro ?_ ?_) | intro _))
 all_goals (try simp (disch:=omega) only[w64,wu8,tn0,tn1,tm1,tm2,List.length_append,List.length_cons,List.length_nil]at*)
 all_goals (try simp (disch:=omega) only[w64,wu8,tn0,tn1,tm1,tm2,List.length_append,List.length_cons,List.length_nil]at*)
 all_goals (try omega)
 all_goals (try grind[XbO,X0A])
theorem X2M.eq:EqS X76 Tryz.f245 [3] [X21.e] [] noL (fun i x=>X2M.F x):=by intro i x;kernel_rfl
theorem X2M.ok:X0n Tryz.prog 245 X76:=X2j X2M.eq Tryz.func245 rfl (by kernel_rfl) fun i x h hi hw=>X2M.pure x h hw
def X2M.e:GE:=⟨245,X76,⟨_,Tryz.func245,rfl,rfl⟩,X2M.ok⟩
def X7g:Con:={A:=(.int .i64),shA:=[.one],R:=(.int .i64),shR:=[(false,1)],pre:=fun _ _=>True,f:=some fun _ a=>((XbO a),((),()))}
def X3k.F(a0:Int):Prop:=(True∧∀r1,(Eq r1 ((fIn a0 0 140737488355328),((),())))→(X02 r1.1 (Eq ((wI ((2:Int)*a0)),((),())) ((XbO a0),((),()))) (True∧∀r2,(Eq r2 ((fIn a0 (-140737488355328) (-1)),((),())))→(X02 r2.1 (Eq ((wI ((wI (((-2):Int)*a0)) - (1:Int))),((),())) ((XbO a0),((),()))) (Eq ((-1),((),())) ((XbO a0),((),())))))))
theorem X3k.pure(a0:Int)(h:True)(hw:Wf X7g.A a0):X3k.F a0:=by
 delta X3k.F wI
 simp only[Bs,B0,B1,Prod.mk.injEq,X01,X0A,Xds]
 repeat' (with_reducible (first | (refine And.intro ?_ ?_) | intro _))
 all_goals (try simp (disch:=omega) only[w64,wu8,tn0,tn1,tm1,tm2,List.length_append,List.length_cons,List.length_nil]at*)
 all_goals (try simp (disch:=omega) only[w64,wu8,tn0,tn1,tm1,tm2,List.length_append,List.length_cons,List.length_nil]at*)
 all_goals (try omega)
 all_goals (try grind[XbO,X0A])
theorem X3k.eq:EqS X7g Tryz.f272 [3] [X1B.e] [] noL (fun i x=>X3k.F x):=by intro i x;kernel_rfl
theorem X3k.ok:X0n Tryz.prog 272 X7g:=X2j X3k.eq Tryz.func272 rfl (by kernel_rfl) fun i x h hi hw=>X3k.pure x h hw
def X3k.e:GE:=⟨272,X7g,⟨_,Tryz.func272,rfl,rfl⟩,X3k.ok⟩
def Xa0:Con:={A:=(.int .i64),shA:=[.one],R:=.str,shR:=[(false,1)],pre:=fun _ _=>True,f:=some fun _ a=>((Xhx a),((),()))}
def X59.F(a0:Int):Prop:=(True∧∀r1,(Eq r1 ((XbO a0),((),())))→(True∧∀r2,(Eq r2 ((X1J r1.1),((),())))→(Eq (r2.1,((),())) ((Xhx a0),((),())))))
theorem X59.pure(a0:Int)(h:True)(hw:Wf Xa0.A a0):X59.F a0:=by
 unfold X59.F
 simp only[Bs,B0,B1,Prod.mk.injEq,X01]
 repeat' (with_reducible (first | (refine And.intro ?_ ?_) | intro _))
 all_goals (try simp (disch:=omega) only[w64,wu8,tn0,tn1,tm1,tm2,List.length_append,List.length_cons,List.length_nil]at*)
 all_goals (try simp (disch:=omega) only[w64,wu8,tn0,tn1,tm1,tm2,List.length_append,List.length_cons,List.length_nil]at*)
 all_goals (try omega)
 all_goals (try grind[Xhx])
theorem X59.eq:EqS Xa0 Tryz.f263 [9] [X3L.e,X3k.e] [] noL (fun i x=>X59.F x):=by intro i x;kernel_rfl
theorem X59.ok:X0n Tryz.prog 263 Xa0:=X2j X59.eq Tryz.func263 rfl (by kernel_rfl) fun i x h hi hw=>X59.pure x h hw
def X59.e:GE:=⟨263,Xa0,⟨_,Tryz.func263,rfl,rfl⟩,X59.ok⟩
def X78:Con:={A:=Xc8,shA:=[.one],R:=.bool,shR:=[(false,1)],pre:=fun _ _=>True,f:=some fun _ a=>((X8r a),((),()))}
def X2I.F(a0:(List Int)):Prop:=(True∧∀r1,(Eq r1 ((fIn (ln a0) 1 60),((),())))→(X02 (!r1.1) (Eq (false,((),())) ((X8r a0),((),()))) (eS [(0,.val false [.lst (.int .i64) a0 none])] [(0,.val false [.lst (.int .i64) a0 none])]∧((scI X9e a0 0)∧∀(y2:Int),(scI X9e a0 y2)→(X02 (decide (y2<(ln a0))) (0≤y2∧(y2<(ln a0)∧(True∧∀r3,(Eq r3 ((fIn (List.getD a0 (tN y2) 0) 0 1099511627776),((),())))→(X02 (!r3.1) (Eq (false,((),())) ((X8r a0),((),()))) (X02 (decide (y2>(0:Int))) (0≤(wI (y2 - (1:Int)))∧((wI (y2 - (1:Int)))<(ln a0)∧(0≤y2∧(y2<(ln a0)∧(X02 (decide ((List.getD a0 (tN (wI (y2 - (1:Int)))) 0)≥(List.getD a0 (tN y2) 0))) (Eq (false,((),())) ((X8r a0),((),()))) (eS [(0,.val false [.lst (.int .i64) a0 none])] [(0,.val false [.lst (.int .i64) a0 none])]∧(scI X9e a0 (wI (y2+(1:Int))))∧(scM a0 (wI (y2+(1:Int))))<(scM a0 y2))))))) (eS [(0,.val false [.lst (.int .i64) a0 none])] [(0,.val false [.lst (.int .i64) a0 none])]∧(scI X9e a0 (wI (y2+(1:Int))))∧(scM a0 (wI (y2+(1:Int))))<(scM a0 y2))))))) (Eq (true,((),())) ((X8r a0),((),()))))))))
def X2I.L(a0:(List Int)):Nat→Option X0c:=fun p=>Go.Proofs.YtcfaphojdacmbaaGreatR.Bv.look p [(58,{kp:={hold:=[0],slots:=[3],boxes:=[],rows:=[]},T:=(.int .i64),I:=fun st y=>scI X9e a0 y,μ:=fun st y=>scM a0 y})]
theorem X2I.pure(a0:(List Int))(h:True)(hw:Wf X78.A a0):X2I.F a0:=by
 delta X2I.F ln tN wI eS
 have hw1:a0.length≤maxLen:=hw.1
 unfold maxLen at hw1
 simp only[Bs,B0,B1,Prod.mk.injEq,X01,scI,scM,X0A,Xds]
 repeat' (with_reducible (first | (refine And.intro ?_ ?_) | intro _))
 all_goals (try simp (disch:=omega) only[w64,wu8,tn0,tn1,tm1,tm2,List.length_append,List.length_cons,List.length_nil]at*)
 all_goals (try simp (disch:=omega) only[w64,wu8,tn0,tn1,tm1,tm2,List.length_append,List.length_cons,List.length_nil]at*)
 all_goals (try omega)
 all_goals (try grind[X4b,X7m])
theorem X2I.eq:EqS X78 Tryz.f244 [4] [X21.e] [] (fun i x=>X2I.L x) (fun i x=>X2I.F x):=by intro i x;kernel_rfl
theorem X2I.ok:X0n Tryz.prog 244 X78:=X2j X2I.eq Tryz.func244 rfl (by kernel_rfl) fun i x h hi hw=>X2I.pure x h hw
def X2I.e:GE:=⟨244,X78,⟨_,Tryz.func244,rfl,rfl⟩,X2I.ok⟩
def X68:Con:={A:=Xc8,shA:=[.one],R:=.bool,shR:=[(false,1)],pre:=fun _ _=>True,f:=some fun _ a=>((X8F a),((),()))}
def X1U.F(a0:(List Int)):Prop:=(True∧∀r1,(Eq r1 ((fIn (ln a0) 1 60),((),())))→(X02 (!r1.1) (Eq (false,((),())) ((X8F a0),((),()))) (eS [(0,.val false [.lst (.int .i64) a0 none])] [(0,.val false [.lst (.int .i64) a0 none])]∧((scI X7h a0 0)∧∀(y2:Int),(scI X7h a0 y2)→(X02 (decide (y2<(ln a0))) (0≤y2∧(y2<(ln a0)∧(True∧∀r3,(Eq r3 ((fIn (List.getD a0 (tN y2) 0) (-1099511627776) 1099511627776),((),())))→(X02 (!r3.1) (Eq (false,((),())) ((X8F a0),((),()))) (eS [(0,.val false [.lst (.int .i64) a0 none])] [(0,.val false [.lst (.int .i64) a0 none])]∧(scI X7h a0 (wI (y2+(1:Int))))∧(scM a0 (wI (y2+(1:Int))))<(scM a0 y2)))))) (Eq (true,((),())) ((X8F a0),((),()))))))))
def X1U.L(a0:(List Int)):Nat→Option X0c:=fun p=>Go.Proofs.YtcfaphojdacmbaaGreatR.Bv.look p [(58,{kp:={hold:=[0],slots:=[3],boxes:=[],rows:=[]},T:=(.int .i64),I:=fun st y=>scI X7h a0 y,μ:=fun st y=>scM a0 y})]
theorem X1U.pure(a0:(List Int))(h:True)(hw:Wf X68.A a0):X1U.F a0:=by
 delta X1U.F ln tN wI eS
 have hw1:a0.length≤maxLen:=hw.1
 unfold maxLen at hw1
 simp only[Bs,B0,B1,Prod.mk.injEq,X01,scI,scM,X0A,Xds]
 repeat' (with_reducible (first | (refine And.intro ?_ ?_) | intro _))
 all_goals (try simp (disch:=omega) only[w64,wu8,tn0,tn1,tm1,tm2,List.length_append,List.length_cons,List.length_nil]at*)
 all_goals (try simp (disch:=omega) only[w64,wu8,tn0,tn1,tm1,tm2,List.length_append,List.length_cons,List.length_nil]at*)
 all_goals (try omega)
 all_goals (try grind[X4r,Xbc])
theorem X1U.eq:EqS X68 Tryz.f246 [4] [X21.e] [] (fun i x=>X1U.L x) (fun i x=>X1U.F x):=by intro i x;kernel_rfl
theorem X1U.ok:X0n Tryz.prog 246 X68:=X2j X1U.eq Tryz.func246 rfl (by kernel_rfl) fun i x h hi hw=>X1U.pure x h hw
def X1U.e:GE:=⟨246,X68,⟨_,Tryz.func246,rfl,rfl⟩,X1U.ok⟩
def X5n:Con:={A:=Xc8,shA:=[.one],R:=.str,shR:=[(false,1)],pre:=fun _ _=>True,f:=some fun _ a=>((X0l a),((),()))}
def X1g.F(a0:(List Int)):Prop:=(True∧∀r1,(Eq r1 ((X8r a0),((),())))→(X02 (!r1.1) (Eq ([],((),())) ((X0l a0),((),()))) (0≤(0:Int)∧((0:Int)<(ln a0)∧(True∧∀r2,(Eq r2 ((X1J (List.getD a0 (tN (0:Int)) 0)),((),())))→(eS [(0,.val false [.lst (.int .i64) a0 none])] [(0,.val false [.lst (.int .i64) a0 none])]∧((tmJ a0 r2.1 1)∧∀(y3:(U5q×Int)),(tmJ a0 y3.1 y3.2)→(X02 (decide (y3.2<(ln a0))) (0≤y3.2∧(y3.2<(ln a0)∧(0≤(wI (y3.2 - (1:Int)))∧((wI (y3.2 - (1:Int)))<(ln a0)∧(X02 (y3.2==(1:Int)) (True∧∀r4,(Eq r4 ((X1J (wI ((List.getD a0 (tN y3.2) 0) - (List.getD a0 (tN (wI (y3.2 - (1:Int)))) 0)))),((),())))→(List.length y3.1+List.length r4.1≤9223372036854775807∧(eS [(0,.val false [.lst (.int .i64) a0 none])] [(0,.val false [.lst (.int .i64) a0 none])]∧(tmJ a0 (y3.1++r4.1) (wI (y3.2+(1:Int))))∧(tmM a0 (y3.1++r4.1) (wI (y3.2+(1:Int))))<(tmM a0 y3.1 y3.2)))) (0≤(wI (y3.2 - (1:Int)))∧((wI (y3.2 - (1:Int)))<(ln a0)∧(0≤(wI (y3.2 - (2:Int)))∧((wI (y3.2 - (2:Int)))<(ln a0)∧(True∧∀r5,(Eq r5 ((XbO (wI ((wI ((List.getD a0 (tN y3.2) 0) - (List.getD a0 (tN (wI (y3.2 - (1:Int)))) 0))) - (wI ((List.getD a0 (tN (wI (y3.2 - (1:Int)))) 0) - (List.getD a0 (tN (wI (y3.2 - (2:Int)))) 0)))))),((),())))→(True∧∀r6,(Eq r6 ((X1J r5.1),((),())))→(List.length y3.1+List.length r6.1≤9223372036854775807∧(eS [(0,.val false [.lst (.int .i64) a0 none])] [(0,.val false [.lst (.int .i64) a0 none])]∧(tmJ a0 (y3.1++r6.1) (wI (y3.2+(1:Int))))∧(tmM a0 (y3.1++r6.1) (wI (y3.2+(1:Int))))<(tmM a0 y3.1 y3.2)))))))))))))) (Eq (y3.1,((),())) ((X0l a0),((),())))))))))))
def X1g.L(a0:(List Int)):Nat→Option X0c:=fun p=>Go.Proofs.YtcfaphojdacmbaaGreatR.Bv.look p [(122,{kp:={hold:=[0],slots:=[3,4],boxes:=[],rows:=[]},T:=XkI,I:=fun st y=>tmJ a0 y.1 y.2,μ:=fun st y=>tmM a0 y.1 y.2})]
theorem X1g.pure(a0:(List Int))(h:True)(hw:Wf X5n.A a0):X1g.F a0:=by
 delta X1g.F ln tN wI eS
 have hw1:a0.length≤maxLen:=hw.1
 unfold maxLen at hw1
 simp only[Bs,B0,B1,Prod.mk.injEq,X01,tmJ,tmI,tmM]
 repeat' (with_reducible (first | (refine And.intro ?_ ?_) | intro _))
 all_goals (try simp (disch:=omega) only[w64,wu8,tn0,tn1,tm1,tm2,List.length_append,List.length_cons,List.length_nil,n11,n12,tn_0,tn_1]at*)
 all_goals (try simp (disch:=omega) only[w64,wu8,tn0,tn1,tm1,tm2,List.length_append,List.length_cons,List.length_nil,n11,n12,tn_0,tn_1]at*)
 all_goals (try omega)
 all_goals (try grind[X0l,XaH,tmS,X4b,X7m,X7U])
theorem X1g.eq:EqS X5n Tryz.f203 [9] [X3G.e,X2I.e,X2M.e] [] (fun i x=>X1g.L x) (fun i x=>X1g.F x):=by intro i x;kernel_rfl
theorem X1g.ok:X0n Tryz.prog 203 X5n:=X2j X1g.eq Tryz.func203 rfl (by kernel_rfl) fun i x h hi hw=>X1g.pure x h hw
def X1g.e:GE:=⟨203,X5n,⟨_,Tryz.func203,rfl,rfl⟩,X1g.ok⟩
def X5d:Con:={A:=Xc8,shA:=[.one],R:=.str,shR:=[(false,1)],pre:=fun _ a=>(Xe2 a),f:=some fun _ a=>((X0l a),((),()))}
def X1a.F(a0:(List Int)):Prop:=(eS [(0,.val false [.lst (.int .i64) a0 none]),(6,.val false [.lst (.int .i64) a0 none]),(7,.val false [.int .i64 (ln a0)])] [(0,.val false [.lst (.int .i64) a0 none]),(6,.val false [.lst (.int .i64) a0 none]),(7,.val false [.int .i64 (ln a0)])]∧((tmI a0 [] 0)∧∀(y1:(U5q×Int)),(tmI a0 y1.1 y1.2)→(X02 (decide (y1.2<(ln a0))) (0≤y1.2∧(y1.2<(ln a0)∧(True∧∀r2,(Eq r2 ((fIn (List.getD a0 (tN y1.2) 0) 0 1099511627776),((),())))→(X02 (!r2.1) (Eq ([],((),())) ((X0l a0),((),()))) (X02 (decide (y1.2>(0:Int))) (0≤(wI (y1.2 - (1:Int)))∧((wI (y1.2 - (1:Int)))<(ln a0)∧(X02 (decide ((List.getD a0 (tN (wI (y1.2 - (1:Int)))) 0)≥(List.getD a0 (tN y1.2) 0))) (Eq ([],((),())) ((X0l a0),((),()))) (X02 (y1.2==(0:Int)) (True∧∀r3,(Eq r3 ((X1J (List.getD a0 (tN y1.2) 0)),((),())))→(List.length y1.1+List.length r3.1≤9223372036854775807∧(eS [(0,.val false [.lst (.int .i64) a0 none]),(6,.val false [.lst (.int .i64) a0 none]),(7,.val false [.int .i64 (ln a0)])] [(0,.val false [.lst (.int .i64) a0 none]),(6,.val false [.lst (.int .i64) a0 none]),(7,.val false [.int .i64 (ln a0)])]∧(tmI a0 (y1.1++r3.1) (wI (y1.2+(1:Int))))∧(tmM a0 (y1.1++r3.1) (wI (y1.2+(1:Int))))<(tmM a0 y1.1 y1.2)))) (X02 (y1.2==(1:Int)) (0≤(0:Int)∧((0:Int)<(ln a0)∧(True∧∀r4,(Eq r4 ((X1J (wI ((List.getD a0 (tN y1.2) 0) - (List.getD a0 (tN (0:Int)) 0)))),((),())))→(List.length y1.1+List.length r4.1≤9223372036854775807∧(eS [(0,.val false [.lst (.int .i64) a0 none]),(6,.val false [.lst (.int .i64) a0 none]),(7,.val false [.int .i64 (ln a0)])] [(0,.val false [.lst (.int .i64) a0 none]),(6,.val false [.lst (.int .i64) a0 none]),(7,.val false [.int .i64 (ln a0)])]∧(tmI a0 (y1.1++r4.1) (wI (y1.2+(1:Int))))∧(tmM a0 (y1.1++r4.1) (wI (y1.2+(1:Int))))<(tmM a0 y1.1 y1.2)))))) (0≤(wI (y1.2 - (1:Int)))∧((wI (y1.2 - (1:Int)))<(ln a0)∧(0≤(wI (y1.2 - (1:Int)))∧((wI (y1.2 - (1:Int)))<(ln a0)∧(0≤(wI (y1.2 - (2:Int)))∧((wI (y1.2 - (2:Int)))<(ln a0)∧(True∧∀r5,(Eq r5 ((Xhx (wI ((wI ((List.getD a0 (tN y1.2) 0) - (List.getD a0 (tN (wI (y1.2 - (1:Int)))) 0))) - (wI ((List.getD a0 (tN (wI (y1.2 - (1:Int)))) 0) - (List.getD a0 (tN (wI (y1.2 - (2:Int)))) 0)))))),((),())))→(List.length y1.1+List.length r5.1≤9223372036854775807∧(eS [(0,.val false [.lst (.int .i64) a0 none]),(6,.val false [.lst (.int .i64) a0 none]),(7,.val false [.int .i64 (ln a0)])] [(0,.val false [.lst (.int .i64) a0 none]),(6,.val false [.lst (.int .i64) a0 none]),(7,.val false [.int .i64 (ln a0)])]∧(tmI a0 (y1.1++r5.1) (wI (y1.2+(1:Int))))∧(tmM a0 (y1.1++r5.1) (wI (y1.2+(1:Int))))<(tmM a0 y1.1 y1.2))))))))))))))) (X02 (y1.2==(0:Int)) (True∧∀r6,(Eq r6 ((X1J (List.getD a0 (tN y1.2) 0)),((),())))→(List.length y1.1+List.length r6.1≤9223372036854775807∧(eS [(0,.val false [.lst (.int .i64) a0 none]),(6,.val false [.lst (.int .i64) a0 none]),(7,.val false [.int .i64 (ln a0)])] [(0,.val false [.lst (.int .i64) a0 none]),(6,.val false [.lst (.int .i64) a0 none]),(7,.val false [.int .i64 (ln a0)])]∧(tmI a0 (y1.1++r6.1) (wI (y1.2+(1:Int))))∧(tmM a0 (y1.1++r6.1) (wI (y1.2+(1:Int))))<(tmM a0 y1.1 y1.2)))) (X02 (y1.2==(1:Int)) (0≤(0:Int)∧((0:Int)<(ln a0)∧(True∧∀r7,(Eq r7 ((X1J (wI ((List.getD a0 (tN y1.2) 0) - (List.getD a0 (tN (0:Int)) 0)))),((),())))→(List.length y1.1+List.length r7.1≤9223372036854775807∧(eS [(0,.val false [.lst (.int .i64) a0 none]),(6,.val false [.lst (.int .i64) a0 none]),(7,.val false [.int .i64 (ln a0)])] [(0,.val false [.lst (.int .i64) a0 none]),(6,.val false [.lst (.int .i64) a0 none]),(7,.val false [.int .i64 (ln a0)])]∧(tmI a0 (y1.1++r7.1) (wI (y1.2+(1:Int))))∧(tmM a0 (y1.1++r7.1) (wI (y1.2+(1:Int))))<(tmM a0 y1.1 y1.2)))))) (0≤(wI (y1.2 - (1:Int)))∧((wI (y1.2 - (1:Int)))<(ln a0)∧(0≤(wI (y1.2 - (1:Int)))∧((wI (y1.2 - (1:Int)))<(ln a0)∧(0≤(wI (y1.2 - (2:Int)))∧((wI (y1.2 - (2:Int)))<(ln a0)∧(True∧∀r8,(Eq r8 ((Xhx (wI ((wI ((List.getD a0 (tN y1.2) 0) - (List.getD a0 (tN (wI (y1.2 - (1:Int)))) 0))) - (wI ((List.getD a0 (tN (wI (y1.2 - (1:Int)))) 0) - (List.getD a0 (tN (wI (y1.2 - (2:Int)))) 0)))))),((),())))→(List.length y1.1+List.length r8.1≤9223372036854775807∧(eS [(0,.val false [.lst (.int .i64) a0 none]),(6,.val false [.lst (.int .i64) a0 none]),(7,.val false [.int .i64 (ln a0)])] [(0,.val false [.lst (.int .i64) a0 none]),(6,.val false [.lst (.int .i64) a0 none]),(7,.val false [.int .i64 (ln a0)])]∧(tmI a0 (y1.1++r8.1) (wI (y1.2+(1:Int))))∧(tmM a0 (y1.1++r8.1) (wI (y1.2+(1:Int))))<(tmM a0 y1.1 y1.2))))))))))))))))) (True∧∀r9,(Eq r9 ((fIn (ln a0) 1 60),((),())))→(X02 (!r9.1) (Eq ([],((),())) ((X0l a0),((),()))) (Eq (y1.1,((),())) ((X0l a0),((),()))))))))
def X1a.L(a0:(List Int)):Nat→Option X0c:=fun p=>Go.Proofs.YtcfaphojdacmbaaGreatR.Bv.look p [(58,{kp:={hold:=[0,6,7],slots:=[3,8],boxes:=[],rows:=[]},T:=XkI,I:=fun st y=>tmI a0 y.1 y.2,μ:=fun st y=>tmM a0 y.1 y.2})]
theorem X1a.pure(a0:(List Int))(h:(Xe2 a0))(hw:Wf X5d.A a0):X1a.F a0:=by
 delta X1a.F ln tN wI eS
 have hw1:a0.length≤maxLen:=hw.1
 unfold maxLen at hw1
 have hp:a0.length≤1099511627776:=h
 simp only[Bs,B0,B1,Prod.mk.injEq,X01,tmI,tmM,Xhx,X0A,Xds]
 repeat' (with_reducible (first | (refine And.intro ?_ ?_) | intro _))
 all_goals (try simp (disch:=omega) only[w64,wu8,tn0,tn1,tm1,tm2,List.length_append,List.length_cons,List.length_nil,n11,n12,tn_0,tn_1]at*)
 all_goals (try simp (disch:=omega) only[w64,wu8,tn0,tn1,tm1,tm2,List.length_append,List.length_cons,List.length_nil,n11,n12,tn_0,tn_1]at*)
 all_goals (try omega)
 all_goals (try grind[X0l,XaH,tmS,X4b,X7m,X7U])
theorem X1a.eq:EqS X5d Tryz.f239 [9] [X1B.e,X3L.e,X59.e] [] (fun i x=>X1a.L x) (fun i x=>X1a.F x):=by intro i x;kernel_rfl
theorem X1a.ok:X0n Tryz.prog 239 X5d:=X2j X1a.eq Tryz.func239 rfl (by kernel_rfl) fun i x h hi hw=>X1a.pure x h hw
def X1a.e:GE:=⟨239,X5d,⟨_,Tryz.func239,rfl,rfl⟩,X1a.ok⟩
def X4G:Con:={A:=Xc8,shA:=[.one],R:=.str,shR:=[(false,1)],pre:=fun _ _=>True,f:=some fun _ a=>((X0i a),((),()))}
def X0M.F(a0:(List Int)):Prop:=(True∧∀r1,(Eq r1 ((X8F a0),((),())))→(X02 (!r1.1) (Eq ([],((),())) ((X0i a0),((),()))) (eS [(0,.val false [.lst (.int .i64) a0 none])] [(0,.val false [.lst (.int .i64) a0 none])]∧((vlJ a0 [] 0 0)∧∀(y2:(U5q×(Int×Int))),(vlJ a0 y2.1 y2.2.1 y2.2.2)→(X02 (decide (y2.2.2<(ln a0))) (0≤y2.2.2∧(y2.2.2<(ln a0)∧(True∧∀r3,(Eq r3 ((XbO (wI ((List.getD a0 (tN y2.2.2) 0) - y2.2.1))),((),())))→(True∧∀r4,(Eq r4 ((X1J r3.1),((),())))→(List.length y2.1+List.length r4.1≤9223372036854775807∧(0≤y2.2.2∧(y2.2.2<(ln a0)∧(eS [(0,.val false [.lst (.int .i64) a0 none])] [(0,.val false [.lst (.int .i64) a0 none])]∧(vlJ a0 (y2.1++r4.1) (List.getD a0 (tN y2.2.2) 0) (wI (y2.2.2+(1:Int))))∧(vlM a0 (y2.1++r4.1) (List.getD a0 (tN y2.2.2) 0) (wI (y2.2.2+(1:Int))))<(vlM a0 y2.1 y2.2.1 y2.2.2))))))))) (Eq (y2.1,((),())) ((X0i a0),((),()))))))))
def X0M.L(a0:(List Int)):Nat→Option X0c:=fun p=>Go.Proofs.YtcfaphojdacmbaaGreatR.Bv.look p [(250,{kp:={hold:=[0],slots:=[3,4,5],boxes:=[],rows:=[]},T:=(.pair .str T0q),I:=fun st y=>vlJ a0 y.1 y.2.1 y.2.2,μ:=fun st y=>vlM a0 y.1 y.2.1 y.2.2})]
theorem X0M.pure(a0:(List Int))(h:True)(hw:Wf X4G.A a0):X0M.F a0:=by
 delta X0M.F ln tN wI eS
 have hw1:a0.length≤maxLen:=hw.1
 unfold maxLen at hw1
 simp only[Bs,B0,B1,Prod.mk.injEq,X01,vlJ,vlI,vlM]
 repeat' (with_reducible (first | (refine And.intro ?_ ?_) | intro _))
 all_goals (try simp (disch:=omega) only[w64,wu8,tn0,tn1,tm1,tm2,List.length_append,List.length_cons,List.length_nil,n11]at*)
 all_goals (try simp (disch:=omega) only[w64,wu8,tn0,tn1,tm1,tm2,List.length_append,List.length_cons,List.length_nil,n11]at*)
 all_goals (try omega)
 all_goals (try grind[X0i,XdU,vlS,X4r,Xbc,X7U])
theorem X0M.eq:EqS X4G Tryz.f204 [9] [X3G.e,X2M.e,X1U.e] [] (fun i x=>X0M.L x) (fun i x=>X0M.F x):=by intro i x;kernel_rfl
theorem X0M.ok:X0n Tryz.prog 204 X4G:=X2j X0M.eq Tryz.func204 rfl (by kernel_rfl) fun i x h hi hw=>X0M.pure x h hw
def X0M.e:GE:=⟨204,X4G,⟨_,Tryz.func204,rfl,rfl⟩,X0M.ok⟩
def X4Q:Con:={A:=Xc8,shA:=[.one],R:=.str,shR:=[(false,1)],pre:=fun _ a=>(Xe2 a),f:=some fun _ a=>((X0i a),((),()))}
def X0Q.F(a0:(List Int)):Prop:=(eS [(0,.val false [.lst (.int .i64) a0 none]),(7,.val false [.lst (.int .i64) a0 none]),(8,.val false [.int .i64 (ln a0)])] [(0,.val false [.lst (.int .i64) a0 none]),(7,.val false [.lst (.int .i64) a0 none]),(8,.val false [.int .i64 (ln a0)])]∧((vlI a0 [] 0 0)∧∀(y1:(U5q×(Int×Int))),(vlI a0 y1.1 y1.2.1 y1.2.2)→(X02 (decide (y1.2.2<(ln a0))) (0≤y1.2.2∧(y1.2.2<(ln a0)∧(True∧∀r2,(Eq r2 ((fIn (List.getD a0 (tN y1.2.2) 0) (-1099511627776) 1099511627776),((),())))→(X02 (!r2.1) (Eq ([],((),())) ((X0i a0),((),()))) (True∧∀r3,(Eq r3 ((Xhx (wI ((List.getD a0 (tN y1.2.2) 0) - y1.2.1))),((),())))→(List.length y1.1+List.length r3.1≤9223372036854775807∧(eS [(0,.val false [.lst (.int .i64) a0 none]),(7,.val false [.lst (.int .i64) a0 none]),(8,.val false [.int .i64 (ln a0)])] [(0,.val false [.lst (.int .i64) a0 none]),(7,.val false [.lst (.int .i64) a0 none]),(8,.val false [.int .i64 (ln a0)])]∧(vlI a0 (y1.1++r3.1) (List.getD a0 (tN y1.2.2) 0) (wI (y1.2.2+(1:Int))))∧(vlM a0 (y1.1++r3.1) (List.getD a0 (tN y1.2.2) 0) (wI (y1.2.2+(1:Int))))<(vlM a0 y1.1 y1.2.1 y1.2.2)))))))) (True∧∀r4,(Eq r4 ((fIn (ln a0) 1 60),((),())))→(X02 (!r4.1) (Eq ([],((),())) ((X0i a0),((),()))) (Eq (y1.1,((),())) ((X0i a0),((),()))))))))
def X0Q.L(a0:(List Int)):Nat→Option X0c:=fun p=>Go.Proofs.YtcfaphojdacmbaaGreatR.Bv.look p [(122,{kp:={hold:=[0,7,8],slots:=[3,4,9],boxes:=[],rows:=[]},T:=(.pair .str T0q),I:=fun st y=>vlI a0 y.1 y.2.1 y.2.2,μ:=fun st y=>vlM a0 y.1 y.2.1 y.2.2})]
theorem X0Q.pure(a0:(List Int))(h:(Xe2 a0))(hw:Wf X4Q.A a0):X0Q.F a0:=by
 delta X0Q.F ln tN wI eS
 have hw1:a0.length≤maxLen:=hw.1
 unfold maxLen at hw1
 have hp:a0.length≤1099511627776:=h
 simp only[Bs,B0,B1,Prod.mk.injEq,X01,vlI,vlM,Xhx,X0A,Xds]
 repeat' (with_reducible (first | (refine And.intro ?_ ?_) | intro _))
 all_goals (try simp (disch:=omega) only[w64,wu8,tn0,tn1,tm1,tm2,List.length_append,List.length_cons,List.length_nil,n11]at*)
 all_goals (try simp (disch:=omega) only[w64,wu8,tn0,tn1,tm1,tm2,List.length_append,List.length_cons,List.length_nil,n11]at*)
 all_goals (try omega)
 all_goals (try grind[X0i,XdU,vlS,X4r,Xbc,X7U])
theorem X0Q.eq:EqS X4Q Tryz.f240 [9] [X1B.e,X59.e] [] (fun i x=>X0Q.L x) (fun i x=>X0Q.F x):=by intro i x;kernel_rfl
theorem X0Q.ok:X0n Tryz.prog 240 X4Q:=X2j X0Q.eq Tryz.func240 rfl (by kernel_rfl) fun i x h hi hw=>X0Q.pure x h hw
def X0Q.e:GE:=⟨240,X4Q,⟨_,Tryz.func240,rfl,rfl⟩,X0Q.ok⟩
end Go.Proofs.YtcfaphojdacmbaaGreatR.B
