/- Bits:numbers with a sign,times,values. -/
import Derived.Test.YtcfaphojdacmbaaGreatRCSum
set_option maxRecDepth 100000
set_option linter.unusedVariables false
set_option linter.unusedSimpArgs false
namespace Go.Proofs.YtcfaphojdacmbaaGreatR.B
open Go Go.Proofs.YtcfaphojdacmbaaGreatR.Bv
def Xc2(n:Int):Int:=if fIn n (-140737488355328) 140737488355328 then(if n<0 then -2*n - 1 else 2*n) else -1
def Xh8(n:Int):List UInt8:=X1K (Xc2 n)
def X9j(l:List Int)(i:Nat):Bool:=fIn (l.getD i 0) 0 1099511627776&&(decide (i=0)||decide (l.getD (i - 1) 0<l.getD i 0))
def X8u(l:List Int):Bool:=fIn l.length 1 60&&Xdv (X9j l) l.length
def X7f(l:List Int)(i:Nat):Bool:=fIn (l.getD i 0) (-1099511627776) 1099511627776
def X8R(l:List Int):Bool:=fIn l.length 1 60&&Xdv (X7f l) l.length
theorem Xd8{p:Nat→Bool}{n:Nat}:Xdv p n=true↔∀j,j<n→p j=true:=by simp[Xdv]
theorem X4d{l:List Int}:X8u l=true↔(1≤l.length∧l.length≤60)∧∀j,j<l.length→X9j l j=true:=by
 simp only[X8u,Bool.and_eq_true,X0C,Xd8]
 exact⟨fun h=>⟨by omega,h.2⟩,fun h=>⟨by omega,h.2⟩⟩
theorem X4w{l:List Int}:X8R l=true↔(1≤l.length∧l.length≤60)∧∀j,j<l.length→X7f l j=true:=by
 simp only[X8R,Bool.and_eq_true,X0C,Xd8]
 exact⟨fun h=>⟨by omega,h.2⟩,fun h=>⟨by omega,h.2⟩⟩
theorem X7q{l:List Int}{i:Nat}:X9j l i=true↔(0≤l.getD i 0∧l.getD i 0≤1099511627776)∧(i=0∨l.getD (i - 1) 0<l.getD i 0):=by
 simp[X9j,fIn]
theorem XbA{l:List Int}{i:Nat}:X7f l i=true↔-1099511627776≤l.getD i 0∧l.getD i 0≤1099511627776:=by simp[X7f,fIn]
def scI(p:List Int→Nat→Bool)(l:List Int)(i:Int):Prop:=0≤i∧i≤l.length∧l.length≤60∧1≤l.length∧∀j,j<i.toNat→p l j=true
def scM(l:List Int)(i:Int):Nat:=(l.length - i).toNat
def XaN(l:List Int)(i:Nat):List UInt8:=if i=0 then X1K (l.getD 0 0) else if i=1 then X1K (l.getD 1 0 - l.getD 0 0) else X1K (Xc2 (l.getD i 0 - l.getD (i - 1) 0 - (l.getD (i - 1) 0 - l.getD (i - 2) 0)))
def tmS(l:List Int):Nat→List UInt8
 | 0=>[]
 | i+1=>tmS l i++XaN l i
theorem XjB(l:List Int)(i:Nat):tmS l (i+1)=tmS l i++XaN l i:=rfl
def X0l(l:List Int):List UInt8:=if X8u l then tmS l l.length else []
def XdV(l:List Int)(i:Nat):List UInt8:=X1K (Xc2 (l.getD i 0 - (if i=0 then 0 else l.getD (i - 1) 0)))
def vlS(l:List Int):Nat→List UInt8
 | 0=>[]
 | i+1=>vlS l i++XdV l i
theorem Xja(l:List Int)(i:Nat):vlS l (i+1)=vlS l i++XdV l i:=rfl
def X0i(l:List Int):List UInt8:=if X8R l then vlS l l.length else []
theorem X7Q(n:Int):(X1K n).length≤7:=X0v n
theorem Xft(l:List Int):∀i,(tmS l i).length≤7*i
 | 0=>by simp[tmS]
 | i+1=>by
   have h:=Xft l i
   have h1:(XaN l i).length≤7:=by
    unfold XaN
    split
    · exact X0v _
    · split<;>exact X0v _
   rw[XjB,List.length_append];omega
theorem Xfs(l:List Int):∀i,(vlS l i).length≤7*i
 | 0=>by simp[vlS]
 | i+1=>by
   have h:=Xfs l i
   have h1:(XdV l i).length≤7:=X0v _
   rw[Xja,List.length_append];omega
theorem X6q(l:List Int):(X0l l).length≤420:=by
 unfold X0l;split
 · rename_i h
   have:=Xft l l.length
   have:=(X4d.1 h).1;omega
 · simp
theorem X5W(l:List Int):(X0i l).length≤420:=by
 unfold X0i;split
 · rename_i h
   have:=Xfs l l.length
   have:=(X4w.1 h).1;omega
 · simp
def tmI(l:List Int)(s:List UInt8)(i:Int):Prop:=0≤i∧i≤l.length∧(∀j,j<i.toNat→X9j l j=true)∧(1≤i→(0≤l.getD 0 0∧l.getD 0 0≤1099511627776)∧0≤l.getD (i.toNat - 1) 0∧l.getD (i.toNat - 1) 0≤1099511627776)∧(2≤i→0≤l.getD (i.toNat - 2) 0∧l.getD (i.toNat - 2) 0≤1099511627776)∧(s.length:Int)≤7*i∧s=tmS l i.toNat
def tmJ(l:List Int)(s:List UInt8)(i:Int):Prop:=1≤i∧X8u l=true∧(i<l.length→0≤l.getD i.toNat 0∧l.getD i.toNat 0≤1099511627776)∧tmI l s i
def tmM(l:List Int)(s:List UInt8)(i:Int):Nat:=(l.length - i).toNat
def vlI(l:List Int)(s:List UInt8)(last i:Int):Prop:=0≤i∧i≤l.length∧(∀j,j<i.toNat→X7f l j=true)∧(-1099511627776≤last∧last≤1099511627776)∧last=(if i.toNat=0 then 0 else l.getD (i.toNat - 1) 0)∧(s.length:Int)≤7*i∧s=vlS l i.toNat
def vlJ(l:List Int)(s:List UInt8)(last i:Int):Prop:=X8R l=true∧(i<l.length→-1099511627776≤l.getD i.toNat 0∧l.getD i.toNat 0≤1099511627776)∧vlI l s last i
def vlM(l:List Int)(s:List UInt8)(last i:Int):Nat:=(l.length - i).toNat
def Xdq(l:List Int):Prop:=l.length≤1099511627776
theorem n11(n:Nat):n+1 - 1=n:=rfl
theorem n12(n:Nat):n+1 - 2=n - 1:=rfl
theorem tn_0:Int.toNat 0=0:=rfl
theorem tn_1:Int.toNat 1=1:=rfl
theorem Xb5{l:List Int}{i:Nat}(h:X8u l=true)(hi:i<l.length):0≤l.getD i 0∧l.getD i 0≤1099511627776:=(X7q.1 ((X4d.1 h).2 i hi)).1
theorem Xia{l:List Int}{i:Nat}(h:X8R l=true)(hi:i<l.length):-1099511627776≤l.getD i 0∧l.getD i 0≤1099511627776:=XbA.1 ((X4w.1 h).2 i hi)
def X7e:Con:={A:=(.int .i64),shA:=[.one],R:=(.int .i64),shR:=[(false,1)],pre:=fun _ _=>True,f:=some fun _ a=>((Xc2 a),((),()))}
def X2T.F(a0:Int):Prop:=(True∧∀r1,(Eq r1 ((fIn a0 (-140737488355328) 140737488355328),((),())))→(X00 (!r1.1) (Eq ((-1),((),())) ((Xc2 a0),((),()))) (X00 (decide (a0<(0:Int))) (Eq ((wI ((wI (((-2):Int)*a0)) - (1:Int))),((),())) ((Xc2 a0),((),()))) (Eq ((wI ((2:Int)*a0)),((),())) ((Xc2 a0),((),()))))))
theorem X2T.pure(a0:Int)(h:True)(hw:Wf X7e.A a0):X2T.F a0:=by
 delta X2T.F wI
 simp only[Bs,B0,B1,Prod.mk.injEq,X01,X0C,Xde]
 repeat' (with_reducible (first | (refine And.intro ?_ ?_) | intro _))
 all_goals (try simp (disch:=omega) only[w64,wu8,tn0,tn1,tm1,tm2,List.length_append,List.length_cons,List.length_nil]at*)
 all_goals (try simp (disch:=omega) only[w64,wu8,tn0,tn1,tm1,tm2,List.length_append,List.length_cons,List.length_nil]at*)
 all_goals (try omega)
 all_goals (try grind[Xc2,X0C])
theorem X2T.eq:EqS X7e Tryz.f245 [3] [X23.e] [] noL (fun i x=>X2T.F x):=by intro i x;kernel_rfl
theorem X2T.ok:X0n Tryz.prog 245 X7e:=X2g X2T.eq Tryz.func245 rfl (by kernel_rfl) fun i x h hi hw=>X2T.pure x h hw
def X2T.e:GE:=⟨245,X7e,⟨_,Tryz.func245,rfl,rfl⟩,X2T.ok⟩
def X7g:Con:={A:=(.int .i64),shA:=[.one],R:=(.int .i64),shR:=[(false,1)],pre:=fun _ _=>True,f:=some fun _ a=>((Xc2 a),((),()))}
def X3t.F(a0:Int):Prop:=(True∧∀r1,(Eq r1 ((fIn a0 0 140737488355328),((),())))→(X00 r1.1 (Eq ((wI ((2:Int)*a0)),((),())) ((Xc2 a0),((),()))) (True∧∀r2,(Eq r2 ((fIn a0 (-140737488355328) (-1)),((),())))→(X00 r2.1 (Eq ((wI ((wI (((-2):Int)*a0)) - (1:Int))),((),())) ((Xc2 a0),((),()))) (Eq ((-1),((),())) ((Xc2 a0),((),())))))))
theorem X3t.pure(a0:Int)(h:True)(hw:Wf X7g.A a0):X3t.F a0:=by
 delta X3t.F wI
 simp only[Bs,B0,B1,Prod.mk.injEq,X01,X0C,Xde]
 repeat' (with_reducible (first | (refine And.intro ?_ ?_) | intro _))
 all_goals (try simp (disch:=omega) only[w64,wu8,tn0,tn1,tm1,tm2,List.length_append,List.length_cons,List.length_nil]at*)
 all_goals (try simp (disch:=omega) only[w64,wu8,tn0,tn1,tm1,tm2,List.length_append,List.length_cons,List.length_nil]at*)
 all_goals (try omega)
 all_goals (try grind[Xc2,X0C])
theorem X3t.eq:EqS X7g Tryz.f272 [3] [X1D.e] [] noL (fun i x=>X3t.F x):=by intro i x;kernel_rfl
theorem X3t.ok:X0n Tryz.prog 272 X7g:=X2g X3t.eq Tryz.func272 rfl (by kernel_rfl) fun i x h hi hw=>X3t.pure x h hw
def X3t.e:GE:=⟨272,X7g,⟨_,Tryz.func272,rfl,rfl⟩,X3t.ok⟩
def Xaf:Con:={A:=(.int .i64),shA:=[.one],R:=.str,shR:=[(false,1)],pre:=fun _ _=>True,f:=some fun _ a=>((Xh8 a),((),()))}
def X5r.F(a0:Int):Prop:=(True∧∀r1,(Eq r1 ((Xc2 a0),((),())))→(True∧∀r2,(Eq r2 ((X1K r1.1),((),())))→(Eq (r2.1,((),())) ((Xh8 a0),((),())))))
theorem X5r.pure(a0:Int)(h:True)(hw:Wf Xaf.A a0):X5r.F a0:=by
 unfold X5r.F
 simp only[Bs,B0,B1,Prod.mk.injEq,X01]
 repeat' (with_reducible (first | (refine And.intro ?_ ?_) | intro _))
 all_goals (try simp (disch:=omega) only[w64,wu8,tn0,tn1,tm1,tm2,List.length_append,List.length_cons,List.length_nil]at*)
 all_goals (try simp (disch:=omega) only[w64,wu8,tn0,tn1,tm1,tm2,List.length_append,List.length_cons,List.length_nil]at*)
 all_goals (try omega)
 all_goals (try grind[Xh8])
theorem X5r.eq:EqS Xaf Tryz.f263 [9] [X3N.e,X3t.e] [] noL (fun i x=>X5r.F x):=by intro i x;kernel_rfl
theorem X5r.ok:X0n Tryz.prog 263 Xaf:=X2g X5r.eq Tryz.func263 rfl (by kernel_rfl) fun i x h hi hw=>X5r.pure x h hw
def X5r.e:GE:=⟨263,Xaf,⟨_,Tryz.func263,rfl,rfl⟩,X5r.ok⟩
def X7a:Con:={A:=XcE,shA:=[.one],R:=.bool,shR:=[(false,1)],pre:=fun _ _=>True,f:=some fun _ a=>((X8u a),((),()))}
def X2S.F(a0:(List Int)):Prop:=(True∧∀r1,(Eq r1 ((fIn (ln a0) 1 60),((),())))→(X00 (!r1.1) (Eq (false,((),())) ((X8u a0),((),()))) (eS [(0,.val false [.lst (.int .i64) a0 none])] [(0,.val false [.lst (.int .i64) a0 none])]∧((scI X9j a0 0)∧∀(y2:Int),(scI X9j a0 y2)→(X00 (decide (y2<(ln a0))) (0≤y2∧(y2<(ln a0)∧(True∧∀r3,(Eq r3 ((fIn (List.getD a0 (tN y2) 0) 0 1099511627776),((),())))→(X00 (!r3.1) (Eq (false,((),())) ((X8u a0),((),()))) (X00 (decide (y2>(0:Int))) (0≤(wI (y2 - (1:Int)))∧((wI (y2 - (1:Int)))<(ln a0)∧(0≤y2∧(y2<(ln a0)∧(X00 (decide ((List.getD a0 (tN (wI (y2 - (1:Int)))) 0)≥(List.getD a0 (tN y2) 0))) (Eq (false,((),())) ((X8u a0),((),()))) (eS [(0,.val false [.lst (.int .i64) a0 none])] [(0,.val false [.lst (.int .i64) a0 none])]∧(scI X9j a0 (wI (y2+(1:Int))))∧(scM a0 (wI (y2+(1:Int))))<(scM a0 y2))))))) (eS [(0,.val false [.lst (.int .i64) a0 none])] [(0,.val false [.lst (.int .i64) a0 none])]∧(scI X9j a0 (wI (y2+(1:Int))))∧(scM a0 (wI (y2+(1:Int))))<(scM a0 y2))))))) (Eq (true,((),())) ((X8u a0),((),()))))))))
def X2S.L(a0:(List Int)):Nat→Option X0c:=fun p=>Go.Proofs.YtcfaphojdacmbaaGreatR.Bv.look p [(58,{kp:={hold:=[0],slots:=[3],boxes:=[],rows:=[]},T:=(.int .i64),I:=fun st y=>scI X9j a0 y,μ:=fun st y=>scM a0 y})]
theorem X2S.pure(a0:(List Int))(h:True)(hw:Wf X7a.A a0):X2S.F a0:=by
 delta X2S.F ln tN wI eS
 have hw1:a0.length≤maxLen:=hw.1
 unfold maxLen at hw1
 simp only[Bs,B0,B1,Prod.mk.injEq,X01,scI,scM,X0C,Xde]
 repeat' (with_reducible (first | (refine And.intro ?_ ?_) | intro _))
 all_goals (try simp (disch:=omega) only[w64,wu8,tn0,tn1,tm1,tm2,List.length_append,List.length_cons,List.length_nil]at*)
 all_goals (try simp (disch:=omega) only[w64,wu8,tn0,tn1,tm1,tm2,List.length_append,List.length_cons,List.length_nil]at*)
 all_goals (try omega)
 all_goals (try grind[X4d,X7q])
theorem X2S.eq:EqS X7a Tryz.f244 [4] [X23.e] [] (fun i x=>X2S.L x) (fun i x=>X2S.F x):=by intro i x;kernel_rfl
theorem X2S.ok:X0n Tryz.prog 244 X7a:=X2g X2S.eq Tryz.func244 rfl (by kernel_rfl) fun i x h hi hw=>X2S.pure x h hw
def X2S.e:GE:=⟨244,X7a,⟨_,Tryz.func244,rfl,rfl⟩,X2S.ok⟩
def X66:Con:={A:=XcE,shA:=[.one],R:=.bool,shR:=[(false,1)],pre:=fun _ _=>True,f:=some fun _ a=>((X8R a),((),()))}
def X1V.F(a0:(List Int)):Prop:=(True∧∀r1,(Eq r1 ((fIn (ln a0) 1 60),((),())))→(X00 (!r1.1) (Eq (false,((),())) ((X8R a0),((),()))) (eS [(0,.val false [.lst (.int .i64) a0 none])] [(0,.val false [.lst (.int .i64) a0 none])]∧((scI X7f a0 0)∧∀(y2:Int),(scI X7f a0 y2)→(X00 (decide (y2<(ln a0))) (0≤y2∧(y2<(ln a0)∧(True∧∀r3,(Eq r3 ((fIn (List.getD a0 (tN y2) 0) (-1099511627776) 1099511627776),((),())))→(X00 (!r3.1) (Eq (false,((),())) ((X8R a0),((),()))) (eS [(0,.val false [.lst (.int .i64) a0 none])] [(0,.val false [.lst (.int .i64) a0 none])]∧(scI X7f a0 (wI (y2+(1:Int))))∧(scM a0 (wI (y2+(1:Int))))<(scM a0 y2)))))) (Eq (true,((),())) ((X8R a0),((),()))))))))
def X1V.L(a0:(List Int)):Nat→Option X0c:=fun p=>Go.Proofs.YtcfaphojdacmbaaGreatR.Bv.look p [(58,{kp:={hold:=[0],slots:=[3],boxes:=[],rows:=[]},T:=(.int .i64),I:=fun st y=>scI X7f a0 y,μ:=fun st y=>scM a0 y})]
theorem X1V.pure(a0:(List Int))(h:True)(hw:Wf X66.A a0):X1V.F a0:=by
 delta X1V.F ln tN wI eS
 have hw1:a0.length≤maxLen:=hw.1
 unfold maxLen at hw1
 simp only[Bs,B0,B1,Prod.mk.injEq,X01,scI,scM,X0C,Xde]
 repeat' (with_reducible (first | (refine And.intro ?_ ?_) | intro _))
 all_goals (try simp (disch:=omega) only[w64,wu8,tn0,tn1,tm1,tm2,List.length_append,List.length_cons,List.length_nil]at*)
 all_goals (try simp (disch:=omega) only[w64,wu8,tn0,tn1,tm1,tm2,List.length_append,List.length_cons,List.length_nil]at*)
 all_goals (try omega)
 all_goals (try grind[X4w,XbA])
theorem X1V.eq:EqS X66 Tryz.f246 [4] [X23.e] [] (fun i x=>X1V.L x) (fun i x=>X1V.F x):=by intro i x;kernel_rfl
theorem X1V.ok:X0n Tryz.prog 246 X66:=X2g X1V.eq Tryz.func246 rfl (by kernel_rfl) fun i x h hi hw=>X1V.pure x h hw
def X1V.e:GE:=⟨246,X66,⟨_,Tryz.func246,rfl,rfl⟩,X1V.ok⟩
def X5k:Con:={A:=XcE,shA:=[.one],R:=.str,shR:=[(false,1)],pre:=fun _ _=>True,f:=some fun _ a=>((X0l a),((),()))}
def X1j.F(a0:(List Int)):Prop:=(True∧∀r1,(Eq r1 ((X8u a0),((),())))→(X00 (!r1.1) (Eq ([],((),())) ((X0l a0),((),()))) (0≤(0:Int)∧((0:Int)<(ln a0)∧(True∧∀r2,(Eq r2 ((X1K (List.getD a0 (tN (0:Int)) 0)),((),())))→(eS [(0,.val false [.lst (.int .i64) a0 none])] [(0,.val false [.lst (.int .i64) a0 none])]∧((tmJ a0 r2.1 1)∧∀(y3:(U5q×Int)),(tmJ a0 y3.1 y3.2)→(X00 (decide (y3.2<(ln a0))) (0≤y3.2∧(y3.2<(ln a0)∧(0≤(wI (y3.2 - (1:Int)))∧((wI (y3.2 - (1:Int)))<(ln a0)∧(X00 (y3.2==(1:Int)) (True∧∀r4,(Eq r4 ((X1K (wI ((List.getD a0 (tN y3.2) 0) - (List.getD a0 (tN (wI (y3.2 - (1:Int)))) 0)))),((),())))→(List.length y3.1+List.length r4.1≤9223372036854775807∧(eS [(0,.val false [.lst (.int .i64) a0 none])] [(0,.val false [.lst (.int .i64) a0 none])]∧(tmJ a0 (y3.1++r4.1) (wI (y3.2+(1:Int))))∧(tmM a0 (y3.1++r4.1) (wI (y3.2+(1:Int))))<(tmM a0 y3.1 y3.2)))) (0≤(wI (y3.2 - (1:Int)))∧((wI (y3.2 - (1:Int)))<(ln a0)∧(0≤(wI (y3.2 - (2:Int)))∧((wI (y3.2 - (2:Int)))<(ln a0)∧(True∧∀r5,(Eq r5 ((Xc2 (wI ((wI ((List.getD a0 (tN y3.2) 0) - (List.getD a0 (tN (wI (y3.2 - (1:Int)))) 0))) - (wI ((List.getD a0 (tN (wI (y3.2 - (1:Int)))) 0) - (List.getD a0 (tN (wI (y3.2 - (2:Int)))) 0)))))),((),())))→(True∧∀r6,(Eq r6 ((X1K r5.1),((),())))→(List.length y3.1+List.length r6.1≤9223372036854775807∧(eS [(0,.val false [.lst (.int .i64) a0 none])] [(0,.val false [.lst (.int .i64) a0 none])]∧(tmJ a0 (y3.1++r6.1) (wI (y3.2+(1:Int))))∧(tmM a0 (y3.1++r6.1) (wI (y3.2+(1:Int))))<(tmM a0 y3.1 y3.2)))))))))))))) (Eq (y3.1,((),())) ((X0l a0),((),())))))))))))
def X1j.L(a0:(List Int)):Nat→Option X0c:=fun p=>Go.Proofs.YtcfaphojdacmbaaGreatR.Bv.look p [(122,{kp:={hold:=[0],slots:=[3,4],boxes:=[],rows:=[]},T:=XkW,I:=fun st y=>tmJ a0 y.1 y.2,μ:=fun st y=>tmM a0 y.1 y.2})]
theorem X1j.pure(a0:(List Int))(h:True)(hw:Wf X5k.A a0):X1j.F a0:=by
 delta X1j.F ln tN wI eS
 have hw1:a0.length≤maxLen:=hw.1
 unfold maxLen at hw1
 simp only[Bs,B0,B1,Prod.mk.injEq,X01,tmJ,tmI,tmM]
 repeat' (with_reducible (first | (refine And.intro ?_ ?_) | intro _))
 all_goals (try simp (disch:=omega) only[w64,wu8,tn0,tn1,tm1,tm2,List.length_append,List.length_cons,List.length_nil,n11,n12,tn_0,tn_1]at*)
 all_goals (try simp (disch:=omega) only[w64,wu8,tn0,tn1,tm1,tm2,List.length_append,List.length_cons,List.length_nil,n11,n12,tn_0,tn_1]at*)
 all_goals (try omega)
 all_goals (try grind[X0l,XaN,tmS,X4d,X7q,X7Q])
theorem X1j.eq:EqS X5k Tryz.f203 [9] [X3D.e,X2S.e,X2T.e] [] (fun i x=>X1j.L x) (fun i x=>X1j.F x):=by intro i x;kernel_rfl
theorem X1j.ok:X0n Tryz.prog 203 X5k:=X2g X1j.eq Tryz.func203 rfl (by kernel_rfl) fun i x h hi hw=>X1j.pure x h hw
def X1j.e:GE:=⟨203,X5k,⟨_,Tryz.func203,rfl,rfl⟩,X1j.ok⟩
def X5m:Con:={A:=XcE,shA:=[.one],R:=.str,shR:=[(false,1)],pre:=fun _ a=>(Xdq a),f:=some fun _ a=>((X0l a),((),()))}
def X1h.F(a0:(List Int)):Prop:=(eS [(0,.val false [.lst (.int .i64) a0 none]),(6,.val false [.lst (.int .i64) a0 none]),(7,.val false [.int .i64 (ln a0)])] [(0,.val false [.lst (.int .i64) a0 none]),(6,.val false [.lst (.int .i64) a0 none]),(7,.val false [.int .i64 (ln a0)])]∧((tmI a0 [] 0)∧∀(y1:(U5q×Int)),(tmI a0 y1.1 y1.2)→(X00 (decide (y1.2<(ln a0))) (0≤y1.2∧(y1.2<(ln a0)∧(True∧∀r2,(Eq r2 ((fIn (List.getD a0 (tN y1.2) 0) 0 1099511627776),((),())))→(X00 (!r2.1) (Eq ([],((),())) ((X0l a0),((),()))) (X00 (decide (y1.2>(0:Int))) (0≤(wI (y1.2 - (1:Int)))∧((wI (y1.2 - (1:Int)))<(ln a0)∧(X00 (decide ((List.getD a0 (tN (wI (y1.2 - (1:Int)))) 0)≥(List.getD a0 (tN y1.2) 0))) (Eq ([],((),())) ((X0l a0),((),()))) (X00 (y1.2==(0:Int)) (True∧∀r3,(Eq r3 ((X1K (List.getD a0 (tN y1.2) 0)),((),())))→(List.length y1.1+List.length r3.1≤9223372036854775807∧(eS [(0,.val false [.lst (.int .i64) a0 none]),(6,.val false [.lst (.int .i64) a0 none]),(7,.val false [.int .i64 (ln a0)])] [(0,.val false [.lst (.int .i64) a0 none]),(6,.val false [.lst (.int .i64) a0 none]),(7,.val false [.int .i64 (ln a0)])]∧(tmI a0 (y1.1++r3.1) (wI (y1.2+(1:Int))))∧(tmM a0 (y1.1++r3.1) (wI (y1.2+(1:Int))))<(tmM a0 y1.1 y1.2)))) (X00 (y1.2==(1:Int)) (0≤(0:Int)∧((0:Int)<(ln a0)∧(True∧∀r4,(Eq r4 ((X1K (wI ((List.getD a0 (tN y1.2) 0) - (List.getD a0 (tN (0:Int)) 0)))),((),())))→(List.length y1.1+List.length r4.1≤9223372036854775807∧(eS [(0,.val false [.lst (.int .i64) a0 none]),(6,.val false [.lst (.int .i64) a0 none]),(7,.val false [.int .i64 (ln a0)])] [(0,.val false [.lst (.int .i64) a0 none]),(6,.val false [.lst (.int .i64) a0 none]),(7,.val false [.int .i64 (ln a0)])]∧(tmI a0 (y1.1++r4.1) (wI (y1.2+(1:Int))))∧(tmM a0 (y1.1++r4.1) (wI (y1.2+(1:Int))))<(tmM a0 y1.1 y1.2)))))) (0≤(wI (y1.2 - (1:Int)))∧((wI (y1.2 - (1:Int)))<(ln a0)∧(0≤(wI (y1.2 - (1:Int)))∧((wI (y1.2 - (1:Int)))<(ln a0)∧(0≤(wI (y1.2 - (2:Int)))∧((wI (y1.2 - (2:Int)))<(ln a0)∧(True∧∀r5,(Eq r5 ((Xh8 (wI ((wI ((List.getD a0 (tN y1.2) 0) - (List.getD a0 (tN (wI (y1.2 - (1:Int)))) 0))) - (wI ((List.getD a0 (tN (wI (y1.2 - (1:Int)))) 0) - (List.getD a0 (tN (wI (y1.2 - (2:Int)))) 0)))))),((),())))→(List.length y1.1+List.length r5.1≤9223372036854775807∧(eS [(0,.val false [.lst (.int .i64) a0 none]),(6,.val false [.lst (.int .i64) a0 none]),(7,.val false [.int .i64 (ln a0)])] [(0,.val false [.lst (.int .i64) a0 none]),(6,.val false [.lst (.int .i64) a0 none]),(7,.val false [.int .i64 (ln a0)])]∧(tmI a0 (y1.1++r5.1) (wI (y1.2+(1:Int))))∧(tmM a0 (y1.1++r5.1) (wI (y1.2+(1:Int))))<(tmM a0 y1.1 y1.2))))))))))))))) (X00 (y1.2==(0:Int)) (True∧∀r6,(Eq r6 ((X1K (List.getD a0 (tN y1.2) 0)),((),())))→(List.length y1.1+List.length r6.1≤9223372036854775807∧(eS [(0,.val false [.lst (.int .i64) a0 none]),(6,.val false [.lst (.int .i64) a0 none]),(7,.val false [.int .i64 (ln a0)])] [(0,.val false [.lst (.int .i64) a0 none]),(6,.val false [.lst (.int .i64) a0 none]),(7,.val false [.int .i64 (ln a0)])]∧(tmI a0 (y1.1++r6.1) (wI (y1.2+(1:Int))))∧(tmM a0 (y1.1++r6.1) (wI (y1.2+(1:Int))))<(tmM a0 y1.1 y1.2)))) (X00 (y1.2==(1:Int)) (0≤(0:Int)∧((0:Int)<(ln a0)∧(True∧∀r7,(Eq r7 ((X1K (wI ((List.getD a0 (tN y1.2) 0) - (List.getD a0 (tN (0:Int)) 0)))),((),())))→(List.length y1.1+List.length r7.1≤9223372036854775807∧(eS [(0,.val false [.lst (.int .i64) a0 none]),(6,.val false [.lst (.int .i64) a0 none]),(7,.val false [.int .i64 (ln a0)])] [(0,.val false [.lst (.int .i64) a0 none]),(6,.val false [.lst (.int .i64) a0 none]),(7,.val false [.int .i64 (ln a0)])]∧(tmI a0 (y1.1++r7.1) (wI (y1.2+(1:Int))))∧(tmM a0 (y1.1++r7.1) (wI (y1.2+(1:Int))))<(tmM a0 y1.1 y1.2)))))) (0≤(wI (y1.2 - (1:Int)))∧((wI (y1.2 - (1:Int)))<(ln a0)∧(0≤(wI (y1.2 - (1:Int)))∧((wI (y1.2 - (1:Int)))<(ln a0)∧(0≤(wI (y1.2 - (2:Int)))∧((wI (y1.2 - (2:Int)))<(ln a0)∧(True∧∀r8,(Eq r8 ((Xh8 (wI ((wI ((List.getD a0 (tN y1.2) 0) - (List.getD a0 (tN (wI (y1.2 - (1:Int)))) 0))) - (wI ((List.getD a0 (tN (wI (y1.2 - (1:Int)))) 0) - (List.getD a0 (tN (wI (y1.2 - (2:Int)))) 0)))))),((),())))→(List.length y1.1+List.length r8.1≤9223372036854775807∧(eS [(0,.val false [.lst (.int .i64) a0 none]),(6,.val false [.lst (.int .i64) a0 none]),(7,.val false [.int .i64 (ln a0)])] [(0,.val false [.lst (.int .i64) a0 none]),(6,.val false [.lst (.int .i64) a0 none]),(7,.val false [.int .i64 (ln a0)])]∧(tmI a0 (y1.1++r8.1) (wI (y1.2+(1:Int))))∧(tmM a0 (y1.1++r8.1) (wI (y1.2+(1:Int))))<(tmM a0 y1.1 y1.2))))))))))))))))) (True∧∀r9,(Eq r9 ((fIn (ln a0) 1 60),((),())))→(X00 (!r9.1) (Eq ([],((),())) ((X0l a0),((),()))) (Eq (y1.1,((),())) ((X0l a0),((),()))))))))
def X1h.L(a0:(List Int)):Nat→Option X0c:=fun p=>Go.Proofs.YtcfaphojdacmbaaGreatR.Bv.look p [(58,{kp:={hold:=[0,6,7],slots:=[3,8],boxes:=[],rows:=[]},T:=XkW,I:=fun st y=>tmI a0 y.1 y.2,μ:=fun st y=>tmM a0 y.1 y.2})]
theorem X1h.pure(a0:(List Int))(h:(Xdq a0))(hw:Wf X5m.A a0):X1h.F a0:=by
 delta X1h.F ln tN wI eS
 have hw1:a0.length≤maxLen:=hw.1
 unfold maxLen at hw1
 have hp:a0.length≤1099511627776:=h
 simp only[Bs,B0,B1,Prod.mk.injEq,X01,tmI,tmM,Xh8,X0C,Xde]
 repeat' (with_reducible (first | (refine And.intro ?_ ?_) | intro _))
 all_goals (try simp (disch:=omega) only[w64,wu8,tn0,tn1,tm1,tm2,List.length_append,List.length_cons,List.length_nil,n11,n12,tn_0,tn_1]at*)
 all_goals (try simp (disch:=omega) only[w64,wu8,tn0,tn1,tm1,tm2,List.length_append,List.length_cons,List.length_nil,n11,n12,tn_0,tn_1]at*)
 all_goals (try omega)
 all_goals (try grind[X0l,XaN,tmS,X4d,X7q,X7Q])
theorem X1h.eq:EqS X5m Tryz.f239 [9] [X1D.e,X3N.e,X5r.e] [] (fun i x=>X1h.L x) (fun i x=>X1h.F x):=by intro i x;kernel_rfl
theorem X1h.ok:X0n Tryz.prog 239 X5m:=X2g X1h.eq Tryz.func239 rfl (by kernel_rfl) fun i x h hi hw=>X1h.pure x h hw
def X1h.e:GE:=⟨239,X5m,⟨_,Tryz.func239,rfl,rfl⟩,X1h.ok⟩
def X4L:Con:={A:=XcE,shA:=[.one],R:=.str,shR:=[(false,1)],pre:=fun _ _=>True,f:=some fun _ a=>((X0i a),((),()))}
def X0Q.F(a0:(List Int)):Prop:=(True∧∀r1,(Eq r1 ((X8R a0),((),())))→(X00 (!r1.1) (Eq ([],((),())) ((X0i a0),((),()))) (eS [(0,.val false [.lst (.int .i64) a0 none])] [(0,.val false [.lst (.int .i64) a0 none])]∧((vlJ a0 [] 0 0)∧∀(y2:(U5q×(Int×Int))),(vlJ a0 y2.1 y2.2.1 y2.2.2)→(X00 (decide (y2.2.2<(ln a0))) (0≤y2.2.2∧(y2.2.2<(ln a0)∧(True∧∀r3,(Eq r3 ((Xc2 (wI ((List.getD a0 (tN y2.2.2) 0) - y2.2.1))),((),())))→(True∧∀r4,(Eq r4 ((X1K r3.1),((),())))→(List.length y2.1+List.length r4.1≤9223372036854775807∧(0≤y2.2.2∧(y2.2.2<(ln a0)∧(eS [(0,.val false [.lst (.int .i64) a0 none])] [(0,.val false [.lst (.int .i64) a0 none])]∧(vlJ a0 (y2.1++r4.1) (List.getD a0 (tN y2.2.2) 0) (wI (y2.2.2+(1:Int))))∧(vlM a0 (y2.1++r4.1) (List.getD a0 (tN y2.2.2) 0) (wI (y2.2.2+(1:Int))))<(vlM a0 y2.1 y2.2.1 y2.2.2))))))))) (Eq (y2.1,((),())) ((X0i a0),((),()))))))))
def X0Q.L(a0:(List Int)):Nat→Option X0c:=fun p=>Go.Proofs.YtcfaphojdacmbaaGreatR.Bv.look p [(250,{kp:={hold:=[0],slots:=[3,4,5],boxes:=[],rows:=[]},T:=(.pair .str T0q),I:=fun st y=>vlJ a0 y.1 y.2.1 y.2.2,μ:=fun st y=>vlM a0 y.1 y.2.1 y.2.2})]
theorem X0Q.pure(a0:(List Int))(h:True)(hw:Wf X4L.A a0):X0Q.F a0:=by
 delta X0Q.F ln tN wI eS
 have hw1:a0.length≤maxLen:=hw.1
 unfold maxLen at hw1
 simp only[Bs,B0,B1,Prod.mk.injEq,X01,vlJ,vlI,vlM]
 repeat' (with_reducible (first | (refine And.intro ?_ ?_) | intro _))
 all_goals (try simp (disch:=omega) only[w64,wu8,tn0,tn1,tm1,tm2,List.length_append,List.length_cons,List.length_nil,n11]at*)
 all_goals (try simp (disch:=omega) only[w64,wu8,tn0,tn1,tm1,tm2,List.length_append,List.length_cons,List.length_nil,n11]at*)
 all_goals (try omega)
 all_goals (try grind[X0i,XdV,vlS,X4w,XbA,X7Q])
theorem X0Q.eq:EqS X4L Tryz.f204 [9] [X3D.e,X2T.e,X1V.e] [] (fun i x=>X0Q.L x) (fun i x=>X0Q.F x):=by intro i x;kernel_rfl
theorem X0Q.ok:X0n Tryz.prog 204 X4L:=X2g X0Q.eq Tryz.func204 rfl (by kernel_rfl) fun i x h hi hw=>X0Q.pure x h hw
def X0Q.e:GE:=⟨204,X4L,⟨_,Tryz.func204,rfl,rfl⟩,X0Q.ok⟩
def X4N:Con:={A:=XcE,shA:=[.one],R:=.str,shR:=[(false,1)],pre:=fun _ a=>(Xdq a),f:=some fun _ a=>((X0i a),((),()))}
def X0M.F(a0:(List Int)):Prop:=(eS [(0,.val false [.lst (.int .i64) a0 none]),(7,.val false [.lst (.int .i64) a0 none]),(8,.val false [.int .i64 (ln a0)])] [(0,.val false [.lst (.int .i64) a0 none]),(7,.val false [.lst (.int .i64) a0 none]),(8,.val false [.int .i64 (ln a0)])]∧((vlI a0 [] 0 0)∧∀(y1:(U5q×(Int×Int))),(vlI a0 y1.1 y1.2.1 y1.2.2)→(X00 (decide (y1.2.2<(ln a0))) (0≤y1.2.2∧(y1.2.2<(ln a0)∧(True∧∀r2,(Eq r2 ((fIn (List.getD a0 (tN y1.2.2) 0) (-1099511627776) 1099511627776),((),())))→(X00 (!r2.1) (Eq ([],((),())) ((X0i a0),((),()))) (True∧∀r3,(Eq r3 ((Xh8 (wI ((List.getD a0 (tN y1.2.2) 0) - y1.2.1))),((),())))→(List.length y1.1+List.length r3.1≤9223372036854775807∧(eS [(0,.val false [.lst (.int .i64) a0 none]),(7,.val false [.lst (.int .i64) a0 none]),(8,.val false [.int .i64 (ln a0)])] [(0,.val false [.lst (.int .i64) a0 none]),(7,.val false [.lst (.int .i64) a0 none]),(8,.val false [.int .i64 (ln a0)])]∧(vlI a0 (y1.1++r3.1) (List.getD a0 (tN y1.2.2) 0) (wI (y1.2.2+(1:Int))))∧(vlM a0 (y1.1++r3.1) (List.getD a0 (tN y1.2.2) 0) (wI (y1.2.2+(1:Int))))<(vlM a0 y1.1 y1.2.1 y1.2.2)))))))) (True∧∀r4,(Eq r4 ((fIn (ln a0) 1 60),((),())))→(X00 (!r4.1) (Eq ([],((),())) ((X0i a0),((),()))) (Eq (y1.1,((),())) ((X0i a0),((),()))))))))
def X0M.L(a0:(List Int)):Nat→Option X0c:=fun p=>Go.Proofs.YtcfaphojdacmbaaGreatR.Bv.look p [(122,{kp:={hold:=[0,7,8],slots:=[3,4,9],boxes:=[],rows:=[]},T:=(.pair .str T0q),I:=fun st y=>vlI a0 y.1 y.2.1 y.2.2,μ:=fun st y=>vlM a0 y.1 y.2.1 y.2.2})]
theorem X0M.pure(a0:(List Int))(h:(Xdq a0))(hw:Wf X4N.A a0):X0M.F a0:=by
 delta X0M.F ln tN wI eS
 have hw1:a0.length≤maxLen:=hw.1
 unfold maxLen at hw1
 have hp:a0.length≤1099511627776:=h
 simp only[Bs,B0,B1,Prod.mk.injEq,X01,vlI,vlM,Xh8,X0C,Xde]
 repeat' (with_reducible (first | (refine And.intro ?_ ?_) | intro _))
 all_goals (try simp (disch:=omega) only[w64,wu8,tn0,tn1,tm1,tm2,List.length_append,List.length_cons,List.length_nil,n11]at*)
 all_goals (try simp (disch:=omega) only[w64,wu8,tn0,tn1,tm1,tm2,List.length_append,List.length_cons,List.length_nil,n11]at*)
 all_goals (try omega)
 all_goals (try grind[X0i,XdV,vlS,X4w,XbA,X7Q])
theorem X0M.eq:EqS X4N Tryz.f240 [9] [X1D.e,X5r.e] [] (fun i x=>X0M.L x) (fun i x=>X0M.F x):=by intro i x;kernel_rfl
theorem X0M.ok:X0n Tryz.prog 240 X4N:=X2g X0M.eq Tryz.func240 rfl (by kernel_rfl) fun i x h hi hw=>X0M.pure x h hw
def X0M.e:GE:=⟨240,X4N,⟨_,Tryz.func240,rfl,rfl⟩,X0M.ok⟩
end Go.Proofs.YtcfaphojdacmbaaGreatR.B
