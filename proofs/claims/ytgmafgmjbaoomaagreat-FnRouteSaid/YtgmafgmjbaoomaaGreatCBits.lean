/- Bits:numbers with a sign,times,values. -/
import Derived.Test.YtgmafgmjbaoomaaGreatCSum
set_option maxRecDepth 100000
set_option linter.unusedVariables false
set_option linter.unusedSimpArgs false
namespace Go.Proofs.YtgmafgmjbaoomaaGreat.B
open Go Go.Proofs.YtgmafgmjbaoomaaGreat.Bv
def XaB(n:Int):Int:=if fIn n (-140737488355328) 140737488355328 then(if n<0 then -2*n - 1 else 2*n) else -1
def XeX(n:Int):List UInt8:=X1H (XaB n)
def X7V(l:List Int)(i:Nat):Bool:=fIn (l.getD i 0) 0 1099511627776&&(decide (i=0)||decide (l.getD (i - 1) 0<l.getD i 0))
def X6Y(l:List Int):Bool:=fIn l.length 1 60&&XcP (X7V l) l.length
def X5M(l:List Int)(i:Nat):Bool:=fIn (l.getD i 0) (-1099511627776) 1099511627776
def X7l(l:List Int):Bool:=fIn l.length 1 60&&XcP (X5M l) l.length
theorem Xbi{p:Nat→Bool}{n:Nat}:XcP p n=true↔∀j,j<n→p j=true:=by simp[XcP]
theorem X3s{l:List Int}:X6Y l=true↔(1≤l.length∧l.length≤60)∧∀j,j<l.length→X7V l j=true:=by
 simp only[X6Y,Bool.and_eq_true,X0u,Xbi]
 exact⟨fun h=>⟨by omega,h.2⟩,fun h=>⟨by omega,h.2⟩⟩
theorem X3J{l:List Int}:X7l l=true↔(1≤l.length∧l.length≤60)∧∀j,j<l.length→X5M l j=true:=by
 simp only[X7l,Bool.and_eq_true,X0u,Xbi]
 exact⟨fun h=>⟨by omega,h.2⟩,fun h=>⟨by omega,h.2⟩⟩
theorem X5Z{l:List Int}{i:Nat}:X7V l i=true↔(0≤l.getD i 0∧l.getD i 0≤1099511627776)∧(i=0∨l.getD (i - 1) 0<l.getD i 0):=by
 simp[X7V,fIn]
theorem X9Q{l:List Int}{i:Nat}:X5M l i=true↔-1099511627776≤l.getD i 0∧l.getD i 0≤1099511627776:=by simp[X5M,fIn]
def scI(p:List Int→Nat→Bool)(l:List Int)(i:Int):Prop:=0≤i∧i≤l.length∧l.length≤60∧1≤l.length∧∀j,j<i.toNat→p l j=true
def scM(l:List Int)(i:Int):Nat:=(l.length - i).toNat
def X9r(l:List Int)(i:Nat):List UInt8:=if i=0 then X1H (l.getD 0 0) else if i=1 then X1H (l.getD 1 0 - l.getD 0 0) else X1H (XaB (l.getD i 0 - l.getD (i - 1) 0 - (l.getD (i - 1) 0 - l.getD (i - 2) 0)))
def tmS(l:List Int):Nat→List UInt8
 | 0=>[]
 | i+1=>tmS l i++X9r l i
theorem Xh6(l:List Int)(i:Nat):tmS l (i+1)=tmS l i++X9r l i:=rfl
def X0j(l:List Int):List UInt8:=if X6Y l then tmS l l.length else []
def Xbz(l:List Int)(i:Nat):List UInt8:=X1H (XaB (l.getD i 0 - (if i=0 then 0 else l.getD (i - 1) 0)))
def vlS(l:List Int):Nat→List UInt8
 | 0=>[]
 | i+1=>vlS l i++Xbz l i
theorem XgS(l:List Int)(i:Nat):vlS l (i+1)=vlS l i++Xbz l i:=rfl
def X0f(l:List Int):List UInt8:=if X7l l then vlS l l.length else []
theorem X6F(n:Int):(X1H n).length≤7:=X1v n
theorem XdA(l:List Int):∀i,(tmS l i).length≤7*i
 | 0=>by simp[tmS]
 | i+1=>by
   have h:=XdA l i
   have h1:(X9r l i).length≤7:=by
    unfold X9r
    split
    · exact X1v _
    · split<;>exact X1v _
   rw[Xh6,List.length_append];omega
theorem Xdm(l:List Int):∀i,(vlS l i).length≤7*i
 | 0=>by simp[vlS]
 | i+1=>by
   have h:=Xdm l i
   have h1:(Xbz l i).length≤7:=X1v _
   rw[XgS,List.length_append];omega
theorem X55(l:List Int):(X0j l).length≤420:=by
 unfold X0j;split
 · rename_i h
   have:=XdA l l.length
   have:=(X3s.1 h).1;omega
 · simp
theorem X4K(l:List Int):(X0f l).length≤420:=by
 unfold X0f;split
 · rename_i h
   have:=Xdm l l.length
   have:=(X3J.1 h).1;omega
 · simp
def tmI(l:List Int)(s:List UInt8)(i:Int):Prop:=0≤i∧i≤l.length∧(∀j,j<i.toNat→X7V l j=true)∧(1≤i→(0≤l.getD 0 0∧l.getD 0 0≤1099511627776)∧0≤l.getD (i.toNat - 1) 0∧l.getD (i.toNat - 1) 0≤1099511627776)∧(2≤i→0≤l.getD (i.toNat - 2) 0∧l.getD (i.toNat - 2) 0≤1099511627776)∧(s.length:Int)≤7*i∧s=tmS l i.toNat
def tmJ(l:List Int)(s:List UInt8)(i:Int):Prop:=1≤i∧X6Y l=true∧(i<l.length→0≤l.getD i.toNat 0∧l.getD i.toNat 0≤1099511627776)∧tmI l s i
def tmM(l:List Int)(s:List UInt8)(i:Int):Nat:=(l.length - i).toNat
def vlI(l:List Int)(s:List UInt8)(last i:Int):Prop:=0≤i∧i≤l.length∧(∀j,j<i.toNat→X5M l j=true)∧(-1099511627776≤last∧last≤1099511627776)∧last=(if i.toNat=0 then 0 else l.getD (i.toNat - 1) 0)∧(s.length:Int)≤7*i∧s=vlS l i.toNat
def vlJ(l:List Int)(s:List UInt8)(last i:Int):Prop:=X7l l=true∧(i<l.length→-1099511627776≤l.getD i.toNat 0∧l.getD i.toNat 0≤1099511627776)∧vlI l s last i
def vlM(l:List Int)(s:List UInt8)(last i:Int):Nat:=(l.length - i).toNat
def Xco(l:List Int):Prop:=l.length≤1099511627776
theorem n11(n:Nat):n+1 - 1=n:=rfl
theorem n12(n:Nat):n+1 - 2=n - 1:=rfl
theorem tn_0:Int.toNat 0=0:=rfl
theorem tn_1:Int.toNat 1=1:=rfl
theorem X9v{l:List Int}{i:Nat}(h:X6Y l=true)(hi:i<l.length):0≤l.getD i 0∧l.getD i 0≤1099511627776:=(X5Z.1 ((X3s.1 h).2 i hi)).1
theorem XfT{l:List Int}{i:Nat}(h:X7l l=true)(hi:i<l.length):-1099511627776≤l.getD i 0∧l.getD i 0≤1099511627776:=X9Q.1 ((X3J.1 h).2 i hi)
def X5L:Con:={A:=(.int .i64),shA:=[.one],R:=(.int .i64),shR:=[(false,1)],pre:=fun _ _=>True,f:=some fun _ a=>((XaB a),((),()))}
def X2b.F(a0:Int):Prop:=(True∧∀r1,(Eq r1 ((fIn a0 (-140737488355328) 140737488355328),((),())))→(X00 (!r1.1) (Eq ((-1),((),())) ((XaB a0),((),()))) (X00 (decide (a0<(0:Int))) (Eq ((wI ((wI (((-2):Int)*a0)) - (1:Int))),((),())) ((XaB a0),((),()))) (Eq ((wI ((2:Int)*a0)),((),())) ((XaB a0),((),()))))))
theorem X2b.pure(a0:Int)(h:True)(hw:Wf X5L.A a0):X2b.F a0:=by
 delta X2b.F wI
 simp only[Bs,B0,B1,Prod.mk.injEq,X03,X0u,XbN]
 repeat' (with_reducible (first | (refine And.intro ?_ ?_) | intro _))
 all_goals (try simp (disch:=omega) only[w64,wu8,tn0,tn1,tm1,tm2,List.length_append,List.length_cons,List.length_nil]at*)
 all_goals (try simp (disch:=omega) only[w64,wu8,tn0,tn1,tm1,tm2,List.length_append,List.length_cons,List.length_nil]at*)
 all_goals (try omega)
 all_goals (try grind[XaB,X0u])
theorem X2b.eq:EqS X5L Tryz.f167 [3] [X1j.e] [] noL (fun i x=>X2b.F x):=by intro i x;kernel_rfl
theorem X2b.ok:X0o Tryz.prog 167 X5L:=X2u X2b.eq Tryz.func167 rfl (by kernel_rfl) fun i x h hi hw=>X2b.pure x h hw
def X2b.e:GE:=⟨167,X5L,⟨_,Tryz.func167,rfl,rfl⟩,X2b.ok⟩
def X5P:Con:={A:=(.int .i64),shA:=[.one],R:=(.int .i64),shR:=[(false,1)],pre:=fun _ _=>True,f:=some fun _ a=>((XaB a),((),()))}
def X2R.F(a0:Int):Prop:=(True∧∀r1,(Eq r1 ((fIn a0 0 140737488355328),((),())))→(X00 r1.1 (Eq ((wI ((2:Int)*a0)),((),())) ((XaB a0),((),()))) (True∧∀r2,(Eq r2 ((fIn a0 (-140737488355328) (-1)),((),())))→(X00 r2.1 (Eq ((wI ((wI (((-2):Int)*a0)) - (1:Int))),((),())) ((XaB a0),((),()))) (Eq ((-1),((),())) ((XaB a0),((),())))))))
theorem X2R.pure(a0:Int)(h:True)(hw:Wf X5P.A a0):X2R.F a0:=by
 delta X2R.F wI
 simp only[Bs,B0,B1,Prod.mk.injEq,X03,X0u,XbN]
 repeat' (with_reducible (first | (refine And.intro ?_ ?_) | intro _))
 all_goals (try simp (disch:=omega) only[w64,wu8,tn0,tn1,tm1,tm2,List.length_append,List.length_cons,List.length_nil]at*)
 all_goals (try simp (disch:=omega) only[w64,wu8,tn0,tn1,tm1,tm2,List.length_append,List.length_cons,List.length_nil]at*)
 all_goals (try omega)
 all_goals (try grind[XaB,X0u])
theorem X2R.eq:EqS X5P Tryz.f207 [3] [X0A.e] [] noL (fun i x=>X2R.F x):=by intro i x;kernel_rfl
theorem X2R.ok:X0o Tryz.prog 207 X5P:=X2u X2R.eq Tryz.func207 rfl (by kernel_rfl) fun i x h hi hw=>X2R.pure x h hw
def X2R.e:GE:=⟨207,X5P,⟨_,Tryz.func207,rfl,rfl⟩,X2R.ok⟩
def X8P:Con:={A:=(.int .i64),shA:=[.one],R:=.str,shR:=[(false,1)],pre:=fun _ _=>True,f:=some fun _ a=>((XeX a),((),()))}
def X44.F(a0:Int):Prop:=(True∧∀r1,(Eq r1 ((XaB a0),((),())))→(True∧∀r2,(Eq r2 ((X1H r1.1),((),())))→(Eq (r2.1,((),())) ((XeX a0),((),())))))
theorem X44.pure(a0:Int)(h:True)(hw:Wf X8P.A a0):X44.F a0:=by
 unfold X44.F
 simp only[Bs,B0,B1,Prod.mk.injEq,X03]
 repeat' (with_reducible (first | (refine And.intro ?_ ?_) | intro _))
 all_goals (try simp (disch:=omega) only[w64,wu8,tn0,tn1,tm1,tm2,List.length_append,List.length_cons,List.length_nil]at*)
 all_goals (try simp (disch:=omega) only[w64,wu8,tn0,tn1,tm1,tm2,List.length_append,List.length_cons,List.length_nil]at*)
 all_goals (try omega)
 all_goals (try grind[XeX])
theorem X44.eq:EqS X8P Tryz.f190 [9] [X36.e,X2R.e] [] noL (fun i x=>X44.F x):=by intro i x;kernel_rfl
theorem X44.ok:X0o Tryz.prog 190 X8P:=X2u X44.eq Tryz.func190 rfl (by kernel_rfl) fun i x h hi hw=>X44.pure x h hw
def X44.e:GE:=⟨190,X8P,⟨_,Tryz.func190,rfl,rfl⟩,X44.ok⟩
def X5S:Con:={A:=X8Z,shA:=[.one],R:=.bool,shR:=[(false,1)],pre:=fun _ _=>True,f:=some fun _ a=>((X6Y a),((),()))}
def X2h.F(a0:(List Int)):Prop:=(True∧∀r1,(Eq r1 ((fIn (ln a0) 1 60),((),())))→(X00 (!r1.1) (Eq (false,((),())) ((X6Y a0),((),()))) (eS [(0,.val false [.lst (.int .i64) a0 none])] [(0,.val false [.lst (.int .i64) a0 none])]∧((scI X7V a0 0)∧∀(y2:Int),(scI X7V a0 y2)→(X00 (decide (y2<(ln a0))) (0≤y2∧(y2<(ln a0)∧(True∧∀r3,(Eq r3 ((fIn (List.getD a0 (tN y2) 0) 0 1099511627776),((),())))→(X00 (!r3.1) (Eq (false,((),())) ((X6Y a0),((),()))) (X00 (decide (y2>(0:Int))) (0≤(wI (y2 - (1:Int)))∧((wI (y2 - (1:Int)))<(ln a0)∧(0≤y2∧(y2<(ln a0)∧(X00 (decide ((List.getD a0 (tN (wI (y2 - (1:Int)))) 0)≥(List.getD a0 (tN y2) 0))) (Eq (false,((),())) ((X6Y a0),((),()))) (eS [(0,.val false [.lst (.int .i64) a0 none])] [(0,.val false [.lst (.int .i64) a0 none])]∧(scI X7V a0 (wI (y2+(1:Int))))∧(scM a0 (wI (y2+(1:Int))))<(scM a0 y2))))))) (eS [(0,.val false [.lst (.int .i64) a0 none])] [(0,.val false [.lst (.int .i64) a0 none])]∧(scI X7V a0 (wI (y2+(1:Int))))∧(scM a0 (wI (y2+(1:Int))))<(scM a0 y2))))))) (Eq (true,((),())) ((X6Y a0),((),()))))))))
def X2h.L(a0:(List Int)):Nat→Option X0a:=fun p=>Go.Proofs.YtgmafgmjbaoomaaGreat.Bv.look p [(58,{kp:={hold:=[0],slots:=[3],boxes:=[],rows:=[]},T:=(.int .i64),I:=fun st y=>scI X7V a0 y,μ:=fun st y=>scM a0 y})]
theorem X2h.pure(a0:(List Int))(h:True)(hw:Wf X5S.A a0):X2h.F a0:=by
 delta X2h.F ln tN wI eS
 have hw1:a0.length≤maxLen:=hw.1
 unfold maxLen at hw1
 simp only[Bs,B0,B1,Prod.mk.injEq,X03,scI,scM,X0u,XbN]
 repeat' (with_reducible (first | (refine And.intro ?_ ?_) | intro _))
 all_goals (try simp (disch:=omega) only[w64,wu8,tn0,tn1,tm1,tm2,List.length_append,List.length_cons,List.length_nil]at*)
 all_goals (try simp (disch:=omega) only[w64,wu8,tn0,tn1,tm1,tm2,List.length_append,List.length_cons,List.length_nil]at*)
 all_goals (try omega)
 all_goals (try grind[X3s,X5Z])
theorem X2h.eq:EqS X5S Tryz.f166 [4] [X1j.e] [] (fun i x=>X2h.L x) (fun i x=>X2h.F x):=by intro i x;kernel_rfl
theorem X2h.ok:X0o Tryz.prog 166 X5S:=X2u X2h.eq Tryz.func166 rfl (by kernel_rfl) fun i x h hi hw=>X2h.pure x h hw
def X2h.e:GE:=⟨166,X5S,⟨_,Tryz.func166,rfl,rfl⟩,X2h.ok⟩
def X4E:Con:={A:=X8Z,shA:=[.one],R:=.bool,shR:=[(false,1)],pre:=fun _ _=>True,f:=some fun _ a=>((X7l a),((),()))}
def X1r.F(a0:(List Int)):Prop:=(True∧∀r1,(Eq r1 ((fIn (ln a0) 1 60),((),())))→(X00 (!r1.1) (Eq (false,((),())) ((X7l a0),((),()))) (eS [(0,.val false [.lst (.int .i64) a0 none])] [(0,.val false [.lst (.int .i64) a0 none])]∧((scI X5M a0 0)∧∀(y2:Int),(scI X5M a0 y2)→(X00 (decide (y2<(ln a0))) (0≤y2∧(y2<(ln a0)∧(True∧∀r3,(Eq r3 ((fIn (List.getD a0 (tN y2) 0) (-1099511627776) 1099511627776),((),())))→(X00 (!r3.1) (Eq (false,((),())) ((X7l a0),((),()))) (eS [(0,.val false [.lst (.int .i64) a0 none])] [(0,.val false [.lst (.int .i64) a0 none])]∧(scI X5M a0 (wI (y2+(1:Int))))∧(scM a0 (wI (y2+(1:Int))))<(scM a0 y2)))))) (Eq (true,((),())) ((X7l a0),((),()))))))))
def X1r.L(a0:(List Int)):Nat→Option X0a:=fun p=>Go.Proofs.YtgmafgmjbaoomaaGreat.Bv.look p [(58,{kp:={hold:=[0],slots:=[3],boxes:=[],rows:=[]},T:=(.int .i64),I:=fun st y=>scI X5M a0 y,μ:=fun st y=>scM a0 y})]
theorem X1r.pure(a0:(List Int))(h:True)(hw:Wf X4E.A a0):X1r.F a0:=by
 delta X1r.F ln tN wI eS
 have hw1:a0.length≤maxLen:=hw.1
 unfold maxLen at hw1
 simp only[Bs,B0,B1,Prod.mk.injEq,X03,scI,scM,X0u,XbN]
 repeat' (with_reducible (first | (refine And.intro ?_ ?_) | intro _))
 all_goals (try simp (disch:=omega) only[w64,wu8,tn0,tn1,tm1,tm2,List.length_append,List.length_cons,List.length_nil]at*)
 all_goals (try simp (disch:=omega) only[w64,wu8,tn0,tn1,tm1,tm2,List.length_append,List.length_cons,List.length_nil]at*)
 all_goals (try omega)
 all_goals (try grind[X3J,X9Q])
theorem X1r.eq:EqS X4E Tryz.f168 [4] [X1j.e] [] (fun i x=>X1r.L x) (fun i x=>X1r.F x):=by intro i x;kernel_rfl
theorem X1r.ok:X0o Tryz.prog 168 X4E:=X2u X1r.eq Tryz.func168 rfl (by kernel_rfl) fun i x h hi hw=>X1r.pure x h hw
def X1r.e:GE:=⟨168,X4E,⟨_,Tryz.func168,rfl,rfl⟩,X1r.ok⟩
def X49:Con:={A:=X8Z,shA:=[.one],R:=.str,shR:=[(false,1)],pre:=fun _ _=>True,f:=some fun _ a=>((X0j a),((),()))}
def X0Z.F(a0:(List Int)):Prop:=(True∧∀r1,(Eq r1 ((X6Y a0),((),())))→(X00 (!r1.1) (Eq ([],((),())) ((X0j a0),((),()))) (0≤(0:Int)∧((0:Int)<(ln a0)∧(True∧∀r2,(Eq r2 ((X1H (List.getD a0 (tN (0:Int)) 0)),((),())))→(eS [(0,.val false [.lst (.int .i64) a0 none])] [(0,.val false [.lst (.int .i64) a0 none])]∧((tmJ a0 r2.1 1)∧∀(y3:(U4q×Int)),(tmJ a0 y3.1 y3.2)→(X00 (decide (y3.2<(ln a0))) (0≤y3.2∧(y3.2<(ln a0)∧(0≤(wI (y3.2 - (1:Int)))∧((wI (y3.2 - (1:Int)))<(ln a0)∧(X00 (y3.2==(1:Int)) (True∧∀r4,(Eq r4 ((X1H (wI ((List.getD a0 (tN y3.2) 0) - (List.getD a0 (tN (wI (y3.2 - (1:Int)))) 0)))),((),())))→(List.length y3.1+List.length r4.1≤9223372036854775807∧(eS [(0,.val false [.lst (.int .i64) a0 none])] [(0,.val false [.lst (.int .i64) a0 none])]∧(tmJ a0 (y3.1++r4.1) (wI (y3.2+(1:Int))))∧(tmM a0 (y3.1++r4.1) (wI (y3.2+(1:Int))))<(tmM a0 y3.1 y3.2)))) (0≤(wI (y3.2 - (1:Int)))∧((wI (y3.2 - (1:Int)))<(ln a0)∧(0≤(wI (y3.2 - (2:Int)))∧((wI (y3.2 - (2:Int)))<(ln a0)∧(True∧∀r5,(Eq r5 ((XaB (wI ((wI ((List.getD a0 (tN y3.2) 0) - (List.getD a0 (tN (wI (y3.2 - (1:Int)))) 0))) - (wI ((List.getD a0 (tN (wI (y3.2 - (1:Int)))) 0) - (List.getD a0 (tN (wI (y3.2 - (2:Int)))) 0)))))),((),())))→(True∧∀r6,(Eq r6 ((X1H r5.1),((),())))→(List.length y3.1+List.length r6.1≤9223372036854775807∧(eS [(0,.val false [.lst (.int .i64) a0 none])] [(0,.val false [.lst (.int .i64) a0 none])]∧(tmJ a0 (y3.1++r6.1) (wI (y3.2+(1:Int))))∧(tmM a0 (y3.1++r6.1) (wI (y3.2+(1:Int))))<(tmM a0 y3.1 y3.2)))))))))))))) (Eq (y3.1,((),())) ((X0j a0),((),())))))))))))
def X0Z.L(a0:(List Int)):Nat→Option X0a:=fun p=>Go.Proofs.YtgmafgmjbaoomaaGreat.Bv.look p [(122,{kp:={hold:=[0],slots:=[3,4],boxes:=[],rows:=[]},T:=Xir,I:=fun st y=>tmJ a0 y.1 y.2,μ:=fun st y=>tmM a0 y.1 y.2})]
theorem X0Z.pure(a0:(List Int))(h:True)(hw:Wf X49.A a0):X0Z.F a0:=by
 delta X0Z.F ln tN wI eS
 have hw1:a0.length≤maxLen:=hw.1
 unfold maxLen at hw1
 simp only[Bs,B0,B1,Prod.mk.injEq,X03,tmJ,tmI,tmM]
 repeat' (with_reducible (first | (refine And.intro ?_ ?_) | intro _))
 all_goals (try simp (disch:=omega) only[w64,wu8,tn0,tn1,tm1,tm2,List.length_append,List.length_cons,List.length_nil,n11,n12,tn_0,tn_1]at*)
 all_goals (try simp (disch:=omega) only[w64,wu8,tn0,tn1,tm1,tm2,List.length_append,List.length_cons,List.length_nil,n11,n12,tn_0,tn_1]at*)
 all_goals (try omega)
 all_goals (try grind[X0j,X9r,tmS,X3s,X5Z,X6F])
theorem X0Z.eq:EqS X49 Tryz.f119 [9] [X2Z.e,X2h.e,X2b.e] [] (fun i x=>X0Z.L x) (fun i x=>X0Z.F x):=by intro i x;kernel_rfl
theorem X0Z.ok:X0o Tryz.prog 119 X49:=X2u X0Z.eq Tryz.func119 rfl (by kernel_rfl) fun i x h hi hw=>X0Z.pure x h hw
def X0Z.e:GE:=⟨119,X49,⟨_,Tryz.func119,rfl,rfl⟩,X0Z.ok⟩
def X4m:Con:={A:=X8Z,shA:=[.one],R:=.str,shR:=[(false,1)],pre:=fun _ a=>(Xco a),f:=some fun _ a=>((X0j a),((),()))}
def X12.F(a0:(List Int)):Prop:=(eS [(0,.val false [.lst (.int .i64) a0 none]),(6,.val false [.lst (.int .i64) a0 none]),(7,.val false [.int .i64 (ln a0)])] [(0,.val false [.lst (.int .i64) a0 none]),(6,.val false [.lst (.int .i64) a0 none]),(7,.val false [.int .i64 (ln a0)])]∧((tmI a0 [] 0)∧∀(y1:(U4q×Int)),(tmI a0 y1.1 y1.2)→(X00 (decide (y1.2<(ln a0))) (0≤y1.2∧(y1.2<(ln a0)∧(True∧∀r2,(Eq r2 ((fIn (List.getD a0 (tN y1.2) 0) 0 1099511627776),((),())))→(X00 (!r2.1) (Eq ([],((),())) ((X0j a0),((),()))) (X00 (decide (y1.2>(0:Int))) (0≤(wI (y1.2 - (1:Int)))∧((wI (y1.2 - (1:Int)))<(ln a0)∧(X00 (decide ((List.getD a0 (tN (wI (y1.2 - (1:Int)))) 0)≥(List.getD a0 (tN y1.2) 0))) (Eq ([],((),())) ((X0j a0),((),()))) (X00 (y1.2==(0:Int)) (True∧∀r3,(Eq r3 ((X1H (List.getD a0 (tN y1.2) 0)),((),())))→(List.length y1.1+List.length r3.1≤9223372036854775807∧(eS [(0,.val false [.lst (.int .i64) a0 none]),(6,.val false [.lst (.int .i64) a0 none]),(7,.val false [.int .i64 (ln a0)])] [(0,.val false [.lst (.int .i64) a0 none]),(6,.val false [.lst (.int .i64) a0 none]),(7,.val false [.int .i64 (ln a0)])]∧(tmI a0 (y1.1++r3.1) (wI (y1.2+(1:Int))))∧(tmM a0 (y1.1++r3.1) (wI (y1.2+(1:Int))))<(tmM a0 y1.1 y1.2)))) (X00 (y1.2==(1:Int)) (0≤(0:Int)∧((0:Int)<(ln a0)∧(True∧∀r4,(Eq r4 ((X1H (wI ((List.getD a0 (tN y1.2) 0) - (List.getD a0 (tN (0:Int)) 0)))),((),())))→(List.length y1.1+List.length r4.1≤9223372036854775807∧(eS [(0,.val false [.lst (.int .i64) a0 none]),(6,.val false [.lst (.int .i64) a0 none]),(7,.val false [.int .i64 (ln a0)])] [(0,.val false [.lst (.int .i64) a0 none]),(6,.val false [.lst (.int .i64) a0 none]),(7,.val false [.int .i64 (ln a0)])]∧(tmI a0 (y1.1++r4.1) (wI (y1.2+(1:Int))))∧(tmM a0 (y1.1++r4.1) (wI (y1.2+(1:Int))))<(tmM a0 y1.1 y1.2)))))) (0≤(wI (y1.2 - (1:Int)))∧((wI (y1.2 - (1:Int)))<(ln a0)∧(0≤(wI (y1.2 - (1:Int)))∧((wI (y1.2 - (1:Int)))<(ln a0)∧(0≤(wI (y1.2 - (2:Int)))∧((wI (y1.2 - (2:Int)))<(ln a0)∧(True∧∀r5,(Eq r5 ((XeX (wI ((wI ((List.getD a0 (tN y1.2) 0) - (List.getD a0 (tN (wI (y1.2 - (1:Int)))) 0))) - (wI ((List.getD a0 (tN (wI (y1.2 - (1:Int)))) 0) - (List.getD a0 (tN (wI (y1.2 - (2:Int)))) 0)))))),((),())))→(List.length y1.1+List.length r5.1≤9223372036854775807∧(eS [(0,.val false [.lst (.int .i64) a0 none]),(6,.val false [.lst (.int .i64) a0 none]),(7,.val false [.int .i64 (ln a0)])] [(0,.val false [.lst (.int .i64) a0 none]),(6,.val false [.lst (.int .i64) a0 none]),(7,.val false [.int .i64 (ln a0)])]∧(tmI a0 (y1.1++r5.1) (wI (y1.2+(1:Int))))∧(tmM a0 (y1.1++r5.1) (wI (y1.2+(1:Int))))<(tmM a0 y1.1 y1.2))))))))))))))) (X00 (y1.2==(0:Int)) (True∧∀r6,(Eq r6 ((X1H (List.getD a0 (tN y1.2) 0)),((),())))→(List.length y1.1+List.length r6.1≤9223372036854775807∧(eS [(0,.val false [.lst (.int .i64) a0 none]),(6,.val false [.lst (.int .i64) a0 none]),(7,.val false [.int .i64 (ln a0)])] [(0,.val false [.lst (.int .i64) a0 none]),(6,.val false [.lst (.int .i64) a0 none]),(7,.val false [.int .i64 (ln a0)])]∧(tmI a0 (y1.1++r6.1) (wI (y1.2+(1:Int))))∧(tmM a0 (y1.1++r6.1) (wI (y1.2+(1:Int))))<(tmM a0 y1.1 y1.2)))) (X00 (y1.2==(1:Int)) (0≤(0:Int)∧((0:Int)<(ln a0)∧(True∧∀r7,(Eq r7 ((X1H (wI ((List.getD a0 (tN y1.2) 0) - (List.getD a0 (tN (0:Int)) 0)))),((),())))→(List.length y1.1+List.length r7.1≤9223372036854775807∧(eS [(0,.val false [.lst (.int .i64) a0 none]),(6,.val false [.lst (.int .i64) a0 none]),(7,.val false [.int .i64 (ln a0)])] [(0,.val false [.lst (.int .i64) a0 none]),(6,.val false [.lst (.int .i64) a0 none]),(7,.val false [.int .i64 (ln a0)])]∧(tmI a0 (y1.1++r7.1) (wI (y1.2+(1:Int))))∧(tmM a0 (y1.1++r7.1) (wI (y1.2+(1:Int))))<(tmM a0 y1.1 y1.2)))))) (0≤(wI (y1.2 - (1:Int)))∧((wI (y1.2 - (1:Int)))<(ln a0)∧(0≤(wI (y1.2 - (1:Int)))∧((wI (y1.2 - (1:Int)))<(ln a0)∧(0≤(wI (y1.2 - (2:Int)))∧((wI (y1.2 - (2:Int)))<(ln a0)∧(True∧∀r8,(Eq r8 ((XeX (wI ((wI ((List.getD a0 (tN y1.2) 0) - (List.getD a0 (tN (wI (y1.2 - (1:Int)))) 0))) - (wI ((List.getD a0 (tN (wI (y1.2 - (1:Int)))) 0) - (List.getD a0 (tN (wI (y1.2 - (2:Int)))) 0)))))),((),())))→(List.length y1.1+List.length r8.1≤9223372036854775807∧(eS [(0,.val false [.lst (.int .i64) a0 none]),(6,.val false [.lst (.int .i64) a0 none]),(7,.val false [.int .i64 (ln a0)])] [(0,.val false [.lst (.int .i64) a0 none]),(6,.val false [.lst (.int .i64) a0 none]),(7,.val false [.int .i64 (ln a0)])]∧(tmI a0 (y1.1++r8.1) (wI (y1.2+(1:Int))))∧(tmM a0 (y1.1++r8.1) (wI (y1.2+(1:Int))))<(tmM a0 y1.1 y1.2))))))))))))))))) (True∧∀r9,(Eq r9 ((fIn (ln a0) 1 60),((),())))→(X00 (!r9.1) (Eq ([],((),())) ((X0j a0),((),()))) (Eq (y1.1,((),())) ((X0j a0),((),()))))))))
def X12.L(a0:(List Int)):Nat→Option X0a:=fun p=>Go.Proofs.YtgmafgmjbaoomaaGreat.Bv.look p [(58,{kp:={hold:=[0,6,7],slots:=[3,8],boxes:=[],rows:=[]},T:=Xir,I:=fun st y=>tmI a0 y.1 y.2,μ:=fun st y=>tmM a0 y.1 y.2})]
theorem X12.pure(a0:(List Int))(h:(Xco a0))(hw:Wf X4m.A a0):X12.F a0:=by
 delta X12.F ln tN wI eS
 have hw1:a0.length≤maxLen:=hw.1
 unfold maxLen at hw1
 have hp:a0.length≤1099511627776:=h
 simp only[Bs,B0,B1,Prod.mk.injEq,X03,tmI,tmM,XeX,X0u,XbN]
 repeat' (with_reducible (first | (refine And.intro ?_ ?_) | intro _))
 all_goals (try simp (disch:=omega) only[w64,wu8,tn0,tn1,tm1,tm2,List.length_append,List.length_cons,List.length_nil,n11,n12,tn_0,tn_1]at*)
 all_goals (try simp (disch:=omega) only[w64,wu8,tn0,tn1,tm1,tm2,List.length_append,List.length_cons,List.length_nil,n11,n12,tn_0,tn_1]at*)
 all_goals (try omega)
 all_goals (try grind[X0j,X9r,tmS,X3s,X5Z,X6F])
theorem X12.eq:EqS X4m Tryz.f154 [9] [X0A.e,X36.e,X44.e] [] (fun i x=>X12.L x) (fun i x=>X12.F x):=by intro i x;kernel_rfl
theorem X12.ok:X0o Tryz.prog 154 X4m:=X2u X12.eq Tryz.func154 rfl (by kernel_rfl) fun i x h hi hw=>X12.pure x h hw
def X12.e:GE:=⟨154,X4m,⟨_,Tryz.func154,rfl,rfl⟩,X12.ok⟩
def X3M:Con:={A:=X8Z,shA:=[.one],R:=.str,shR:=[(false,1)],pre:=fun _ _=>True,f:=some fun _ a=>((X0f a),((),()))}
def X0H.F(a0:(List Int)):Prop:=(True∧∀r1,(Eq r1 ((X7l a0),((),())))→(X00 (!r1.1) (Eq ([],((),())) ((X0f a0),((),()))) (eS [(0,.val false [.lst (.int .i64) a0 none])] [(0,.val false [.lst (.int .i64) a0 none])]∧((vlJ a0 [] 0 0)∧∀(y2:(U4q×(Int×Int))),(vlJ a0 y2.1 y2.2.1 y2.2.2)→(X00 (decide (y2.2.2<(ln a0))) (0≤y2.2.2∧(y2.2.2<(ln a0)∧(True∧∀r3,(Eq r3 ((XaB (wI ((List.getD a0 (tN y2.2.2) 0) - y2.2.1))),((),())))→(True∧∀r4,(Eq r4 ((X1H r3.1),((),())))→(List.length y2.1+List.length r4.1≤9223372036854775807∧(0≤y2.2.2∧(y2.2.2<(ln a0)∧(eS [(0,.val false [.lst (.int .i64) a0 none])] [(0,.val false [.lst (.int .i64) a0 none])]∧(vlJ a0 (y2.1++r4.1) (List.getD a0 (tN y2.2.2) 0) (wI (y2.2.2+(1:Int))))∧(vlM a0 (y2.1++r4.1) (List.getD a0 (tN y2.2.2) 0) (wI (y2.2.2+(1:Int))))<(vlM a0 y2.1 y2.2.1 y2.2.2))))))))) (Eq (y2.1,((),())) ((X0f a0),((),()))))))))
def X0H.L(a0:(List Int)):Nat→Option X0a:=fun p=>Go.Proofs.YtgmafgmjbaoomaaGreat.Bv.look p [(250,{kp:={hold:=[0],slots:=[3,4,5],boxes:=[],rows:=[]},T:=(.pair .str T0q),I:=fun st y=>vlJ a0 y.1 y.2.1 y.2.2,μ:=fun st y=>vlM a0 y.1 y.2.1 y.2.2})]
theorem X0H.pure(a0:(List Int))(h:True)(hw:Wf X3M.A a0):X0H.F a0:=by
 delta X0H.F ln tN wI eS
 have hw1:a0.length≤maxLen:=hw.1
 unfold maxLen at hw1
 simp only[Bs,B0,B1,Prod.mk.injEq,X03,vlJ,vlI,vlM]
 repeat' (with_reducible (first | (refine And.intro ?_ ?_) | intro _))
 all_goals (try simp (disch:=omega) only[w64,wu8,tn0,tn1,tm1,tm2,List.length_append,List.length_cons,List.length_nil,n11]at*)
 all_goals (try simp (disch:=omega) only[w64,wu8,tn0,tn1,tm1,tm2,List.length_append,List.length_cons,List.length_nil,n11]at*)
 all_goals (try omega)
 all_goals (try grind[X0f,Xbz,vlS,X3J,X9Q,X6F])
theorem X0H.eq:EqS X3M Tryz.f120 [9] [X2Z.e,X2b.e,X1r.e] [] (fun i x=>X0H.L x) (fun i x=>X0H.F x):=by intro i x;kernel_rfl
theorem X0H.ok:X0o Tryz.prog 120 X3M:=X2u X0H.eq Tryz.func120 rfl (by kernel_rfl) fun i x h hi hw=>X0H.pure x h hw
def X0H.e:GE:=⟨120,X3M,⟨_,Tryz.func120,rfl,rfl⟩,X0H.ok⟩
def X3L:Con:={A:=X8Z,shA:=[.one],R:=.str,shR:=[(false,1)],pre:=fun _ a=>(Xco a),f:=some fun _ a=>((X0f a),((),()))}
def X0F.F(a0:(List Int)):Prop:=(eS [(0,.val false [.lst (.int .i64) a0 none]),(7,.val false [.lst (.int .i64) a0 none]),(8,.val false [.int .i64 (ln a0)])] [(0,.val false [.lst (.int .i64) a0 none]),(7,.val false [.lst (.int .i64) a0 none]),(8,.val false [.int .i64 (ln a0)])]∧((vlI a0 [] 0 0)∧∀(y1:(U4q×(Int×Int))),(vlI a0 y1.1 y1.2.1 y1.2.2)→(X00 (decide (y1.2.2<(ln a0))) (0≤y1.2.2∧(y1.2.2<(ln a0)∧(True∧∀r2,(Eq r2 ((fIn (List.getD a0 (tN y1.2.2) 0) (-1099511627776) 1099511627776),((),())))→(X00 (!r2.1) (Eq ([],((),())) ((X0f a0),((),()))) (True∧∀r3,(Eq r3 ((XeX (wI ((List.getD a0 (tN y1.2.2) 0) - y1.2.1))),((),())))→(List.length y1.1+List.length r3.1≤9223372036854775807∧(eS [(0,.val false [.lst (.int .i64) a0 none]),(7,.val false [.lst (.int .i64) a0 none]),(8,.val false [.int .i64 (ln a0)])] [(0,.val false [.lst (.int .i64) a0 none]),(7,.val false [.lst (.int .i64) a0 none]),(8,.val false [.int .i64 (ln a0)])]∧(vlI a0 (y1.1++r3.1) (List.getD a0 (tN y1.2.2) 0) (wI (y1.2.2+(1:Int))))∧(vlM a0 (y1.1++r3.1) (List.getD a0 (tN y1.2.2) 0) (wI (y1.2.2+(1:Int))))<(vlM a0 y1.1 y1.2.1 y1.2.2)))))))) (True∧∀r4,(Eq r4 ((fIn (ln a0) 1 60),((),())))→(X00 (!r4.1) (Eq ([],((),())) ((X0f a0),((),()))) (Eq (y1.1,((),())) ((X0f a0),((),()))))))))
def X0F.L(a0:(List Int)):Nat→Option X0a:=fun p=>Go.Proofs.YtgmafgmjbaoomaaGreat.Bv.look p [(122,{kp:={hold:=[0,7,8],slots:=[3,4,9],boxes:=[],rows:=[]},T:=(.pair .str T0q),I:=fun st y=>vlI a0 y.1 y.2.1 y.2.2,μ:=fun st y=>vlM a0 y.1 y.2.1 y.2.2})]
theorem X0F.pure(a0:(List Int))(h:(Xco a0))(hw:Wf X3L.A a0):X0F.F a0:=by
 delta X0F.F ln tN wI eS
 have hw1:a0.length≤maxLen:=hw.1
 unfold maxLen at hw1
 have hp:a0.length≤1099511627776:=h
 simp only[Bs,B0,B1,Prod.mk.injEq,X03,vlI,vlM,XeX,X0u,XbN]
 repeat' (with_reducible (first | (refine And.intro ?_ ?_) | intro _))
 all_goals (try simp (disch:=omega) only[w64,wu8,tn0,tn1,tm1,tm2,List.length_append,List.length_cons,List.length_nil,n11]at*)
 all_goals (try simp (disch:=omega) only[w64,wu8,tn0,tn1,tm1,tm2,List.length_append,List.length_cons,List.length_nil,n11]at*)
 all_goals (try omega)
 all_goals (try grind[X0f,Xbz,vlS,X3J,X9Q,X6F])
theorem X0F.eq:EqS X3L Tryz.f155 [9] [X0A.e,X44.e] [] (fun i x=>X0F.L x) (fun i x=>X0F.F x):=by intro i x;kernel_rfl
theorem X0F.ok:X0o Tryz.prog 155 X3L:=X2u X0F.eq Tryz.func155 rfl (by kernel_rfl) fun i x h hi hw=>X0F.pure x h hw
def X0F.e:GE:=⟨155,X3L,⟨_,Tryz.func155,rfl,rfl⟩,X0F.ok⟩
end Go.Proofs.YtgmafgmjbaoomaaGreat.B
