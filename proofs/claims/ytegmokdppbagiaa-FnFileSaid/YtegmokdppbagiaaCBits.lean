/- Bits:numbers with a sign,times,values. -/
import Derived.Test.YtegmokdppbagiaaCSum
set_option maxRecDepth 100000
set_option linter.unusedVariables false
set_option linter.unusedSimpArgs false
namespace Go.Proofs.Ytegmokdppbagiaa.B
open Go Go.Proofs.Ytegmokdppbagiaa.Bv
def Xcs(n:Int):Int:=if fIn n (-140737488355328) 140737488355328 then(if n<0 then -2*n - 1 else 2*n) else -1
def XbS(n:Int):List UInt8:=X27 (Xcs n)
def X8U(l:List Int)(i:Nat):Bool:=fIn (l.getD i 0) 0 1099511627776&&(decide (i=0)||decide (l.getD (i - 1) 0<l.getD i 0))
def X7M(l:List Int):Bool:=fIn l.length 1 60&&Xa7 (X8U l) l.length
def X4S(l:List Int)(i:Nat):Bool:=fIn (l.getD i 0) (-1099511627776) 1099511627776
def X7K(l:List Int):Bool:=fIn l.length 1 60&&Xa7 (X4S l) l.length
theorem X7d{p:Nat→Bool}{n:Nat}:Xa7 p n=true↔∀j,j<n→p j=true:=by simp[Xa7]
theorem X2A{l:List Int}:X7M l=true↔(1≤l.length∧l.length≤60)∧∀j,j<l.length→X8U l j=true:=by
 simp only[X7M,Bool.and_eq_true,X0Z,X7d]
 exact⟨fun h=>⟨by omega,h.2⟩,fun h=>⟨by omega,h.2⟩⟩
theorem X35{l:List Int}:X7K l=true↔(1≤l.length∧l.length≤60)∧∀j,j<l.length→X4S l j=true:=by
 simp only[X7K,Bool.and_eq_true,X0Z,X7d]
 exact⟨fun h=>⟨by omega,h.2⟩,fun h=>⟨by omega,h.2⟩⟩
theorem X4Y{l:List Int}{i:Nat}:X8U l i=true↔(0≤l.getD i 0∧l.getD i 0≤1099511627776)∧(i=0∨l.getD (i - 1) 0<l.getD i 0):=by
 simp[X8U,fIn]
theorem Xca{l:List Int}{i:Nat}:X4S l i=true↔-1099511627776≤l.getD i 0∧l.getD i 0≤1099511627776:=by simp[X4S,fIn]
def X7C(l:List Int)(i:Nat):List UInt8:=if i=0 then X27 (l.getD 0 0) else if i=1 then X27 (l.getD 1 0 - l.getD 0 0) else X27 (Xcs (l.getD i 0 - l.getD (i - 1) 0 - (l.getD (i - 1) 0 - l.getD (i - 2) 0)))
def tmS(l:List Int):Nat→List UInt8
 | 0=>[]
 | i+1=>tmS l i++X7C l i
theorem XdM(l:List Int)(i:Nat):tmS l (i+1)=tmS l i++X7C l i:=rfl
def X0h(l:List Int):List UInt8:=if X7M l then tmS l l.length else []
def XaW(l:List Int)(i:Nat):List UInt8:=X27 (Xcs (l.getD i 0 - (if i=0 then 0 else l.getD (i - 1) 0)))
def vlS(l:List Int):Nat→List UInt8
 | 0=>[]
 | i+1=>vlS l i++XaW l i
theorem XdW(l:List Int)(i:Nat):vlS l (i+1)=vlS l i++XaW l i:=rfl
def X0d(l:List Int):List UInt8:=if X7K l then vlS l l.length else []
theorem X81(n:Int):(X27 n).length≤7:=X0m n
theorem Xa9(l:List Int):∀i,(tmS l i).length≤7*i
 | 0=>by simp[tmS]
 | i+1=>by
   have h:=Xa9 l i
   have h1:(X7C l i).length≤7:=by
    unfold X7C
    split
    · exact X0m _
    · split<;>exact X0m _
   rw[XdM,List.length_append];omega
theorem XaA(l:List Int):∀i,(vlS l i).length≤7*i
 | 0=>by simp[vlS]
 | i+1=>by
   have h:=XaA l i
   have h1:(XaW l i).length≤7:=X0m _
   rw[XdW,List.length_append];omega
theorem X4W(l:List Int):(X0h l).length≤420:=by
 unfold X0h;split
 · rename_i h
   have:=Xa9 l l.length
   have:=(X2A.1 h).1;omega
 · simp
theorem X4j(l:List Int):(X0d l).length≤420:=by
 unfold X0d;split
 · rename_i h
   have:=XaA l l.length
   have:=(X35.1 h).1;omega
 · simp
def tmI(l:List Int)(s:List UInt8)(i:Int):Prop:=0≤i∧i≤l.length∧(∀j,j<i.toNat→X8U l j=true)∧(1≤i→(0≤l.getD 0 0∧l.getD 0 0≤1099511627776)∧0≤l.getD (i.toNat - 1) 0∧l.getD (i.toNat - 1) 0≤1099511627776)∧(2≤i→0≤l.getD (i.toNat - 2) 0∧l.getD (i.toNat - 2) 0≤1099511627776)∧(s.length:Int)≤7*i∧s=tmS l i.toNat
def tmM(l:List Int)(s:List UInt8)(i:Int):Nat:=(l.length - i).toNat
def vlI(l:List Int)(s:List UInt8)(last i:Int):Prop:=0≤i∧i≤l.length∧(∀j,j<i.toNat→X4S l j=true)∧(-1099511627776≤last∧last≤1099511627776)∧last=(if i.toNat=0 then 0 else l.getD (i.toNat - 1) 0)∧(s.length:Int)≤7*i∧s=vlS l i.toNat
def vlM(l:List Int)(s:List UInt8)(last i:Int):Nat:=(l.length - i).toNat
def X9f(l:List Int):Prop:=l.length≤1099511627776
theorem n11(n:Nat):n+1 - 1=n:=rfl
theorem n12(n:Nat):n+1 - 2=n - 1:=rfl
theorem tn_0:Int.toNat 0=0:=rfl
theorem tn_1:Int.toNat 1=1:=rfl
theorem X8A{l:List Int}{i:Nat}(h:X7M l=true)(hi:i<l.length):0≤l.getD i 0∧l.getD i 0≤1099511627776:=(X4Y.1 ((X2A.1 h).2 i hi)).1
theorem Xg9{l:List Int}{i:Nat}(h:X7K l=true)(hi:i<l.length):-1099511627776≤l.getD i 0∧l.getD i 0≤1099511627776:=Xca.1 ((X35.1 h).2 i hi)
def X3T:Con:={A:=(.int .i64),shA:=[.one],R:=(.int .i64),shR:=[(false,1)],pre:=fun _ _=>True,f:=some fun _ a=>((Xcs a),((),()))}
def X1C.F(a0:Int):Prop:=(True∧∀r1,(Eq r1 ((fIn a0 0 140737488355328),((),())))→(X04 r1.1 (Eq ((wI ((2:Int)*a0)),((),())) ((Xcs a0),((),()))) (True∧∀r2,(Eq r2 ((fIn a0 (-140737488355328) (-1)),((),())))→(X04 r2.1 (Eq ((wI ((wI (((-2):Int)*a0)) - (1:Int))),((),())) ((Xcs a0),((),()))) (Eq ((-1),((),())) ((Xcs a0),((),())))))))
theorem X1C.pure(a0:Int)(h:True)(hw:Wf X3T.A a0):X1C.F a0:=by
 delta X1C.F wI
 simp only[Bs,B0,B1,Prod.mk.injEq,X06,X0Z,Xdf]
 repeat' (with_reducible (first | (refine And.intro ?_ ?_) | intro _))
 all_goals (try simp (disch:=omega) only[w64,wu8,tn0,tn1,tm1,tm2,List.length_append,List.length_cons,List.length_nil]at*)
 all_goals (try simp (disch:=omega) only[w64,wu8,tn0,tn1,tm1,tm2,List.length_append,List.length_cons,List.length_nil]at*)
 all_goals (try omega)
 all_goals (try grind[Xcs,X0Z])
theorem X1C.eq:EqS X3T Try.f119 [3] [X0O.e] [] noL (fun i x=>X1C.F x):=by intro i x;kernel_rfl
theorem X1C.ok:X11 Try.prog 119 X3T:=X3V X1C.eq Try.func119 rfl (by kernel_rfl) fun i x h hi hw=>X1C.pure x h hw
def X1C.e:GE:=⟨119,X3T,⟨_,Try.func119,rfl,rfl⟩,X1C.ok⟩
def X67:Con:={A:=(.int .i64),shA:=[.one],R:=.str,shR:=[(false,1)],pre:=fun _ _=>True,f:=some fun _ a=>((XbS a),((),()))}
def X2M.F(a0:Int):Prop:=(True∧∀r1,(Eq r1 ((Xcs a0),((),())))→(True∧∀r2,(Eq r2 ((X27 r1.1),((),())))→(Eq (r2.1,((),())) ((XbS a0),((),())))))
theorem X2M.pure(a0:Int)(h:True)(hw:Wf X67.A a0):X2M.F a0:=by
 unfold X2M.F
 simp only[Bs,B0,B1,Prod.mk.injEq,X06]
 repeat' (with_reducible (first | (refine And.intro ?_ ?_) | intro _))
 all_goals (try simp (disch:=omega) only[w64,wu8,tn0,tn1,tm1,tm2,List.length_append,List.length_cons,List.length_nil]at*)
 all_goals (try simp (disch:=omega) only[w64,wu8,tn0,tn1,tm1,tm2,List.length_append,List.length_cons,List.length_nil]at*)
 all_goals (try omega)
 all_goals (try grind[XbS])
theorem X2M.eq:EqS X67 Try.f110 [9] [X1X.e,X1C.e] [] noL (fun i x=>X2M.F x):=by intro i x;kernel_rfl
theorem X2M.ok:X11 Try.prog 110 X67:=X3V X2M.eq Try.func110 rfl (by kernel_rfl) fun i x h hi hw=>X2M.pure x h hw
def X2M.e:GE:=⟨110,X67,⟨_,Try.func110,rfl,rfl⟩,X2M.ok⟩
def X2Q:Con:={A:=(.list (.int .i64)),shA:=[.one],R:=.str,shR:=[(false,1)],pre:=fun _ a=>(X9f a),f:=some fun _ a=>((X0h a),((),()))}
def X0D.F(a0:(List Int)):Prop:=(eS [(0,.val false [.lst (.int .i64) a0 none]),(6,.val false [.lst (.int .i64) a0 none]),(7,.val false [.int .i64 (ln a0)])] [(0,.val false [.lst (.int .i64) a0 none]),(6,.val false [.lst (.int .i64) a0 none]),(7,.val false [.int .i64 (ln a0)])]∧((tmI a0 [] 0)∧∀(y1:(U3q×Int)),(tmI a0 y1.1 y1.2)→(X04 (decide (y1.2<(ln a0))) (0≤y1.2∧(y1.2<(ln a0)∧(True∧∀r2,(Eq r2 ((fIn (List.getD a0 (tN y1.2) 0) 0 1099511627776),((),())))→(X04 (!r2.1) (Eq ([],((),())) ((X0h a0),((),()))) (X04 (decide (y1.2>(0:Int))) (0≤(wI (y1.2 - (1:Int)))∧((wI (y1.2 - (1:Int)))<(ln a0)∧(X04 (decide ((List.getD a0 (tN (wI (y1.2 - (1:Int)))) 0)≥(List.getD a0 (tN y1.2) 0))) (Eq ([],((),())) ((X0h a0),((),()))) (X04 (y1.2==(0:Int)) (True∧∀r3,(Eq r3 ((X27 (List.getD a0 (tN y1.2) 0)),((),())))→(List.length y1.1+List.length r3.1≤9223372036854775807∧(eS [(0,.val false [.lst (.int .i64) a0 none]),(6,.val false [.lst (.int .i64) a0 none]),(7,.val false [.int .i64 (ln a0)])] [(0,.val false [.lst (.int .i64) a0 none]),(6,.val false [.lst (.int .i64) a0 none]),(7,.val false [.int .i64 (ln a0)])]∧(tmI a0 (y1.1++r3.1) (wI (y1.2+(1:Int))))∧(tmM a0 (y1.1++r3.1) (wI (y1.2+(1:Int))))<(tmM a0 y1.1 y1.2)))) (X04 (y1.2==(1:Int)) (0≤(0:Int)∧((0:Int)<(ln a0)∧(True∧∀r4,(Eq r4 ((X27 (wI ((List.getD a0 (tN y1.2) 0) - (List.getD a0 (tN (0:Int)) 0)))),((),())))→(List.length y1.1+List.length r4.1≤9223372036854775807∧(eS [(0,.val false [.lst (.int .i64) a0 none]),(6,.val false [.lst (.int .i64) a0 none]),(7,.val false [.int .i64 (ln a0)])] [(0,.val false [.lst (.int .i64) a0 none]),(6,.val false [.lst (.int .i64) a0 none]),(7,.val false [.int .i64 (ln a0)])]∧(tmI a0 (y1.1++r4.1) (wI (y1.2+(1:Int))))∧(tmM a0 (y1.1++r4.1) (wI (y1.2+(1:Int))))<(tmM a0 y1.1 y1.2)))))) (0≤(wI (y1.2 - (1:Int)))∧((wI (y1.2 - (1:Int)))<(ln a0)∧(0≤(wI (y1.2 - (1:Int)))∧((wI (y1.2 - (1:Int)))<(ln a0)∧(0≤(wI (y1.2 - (2:Int)))∧((wI (y1.2 - (2:Int)))<(ln a0)∧(True∧∀r5,(Eq r5 ((XbS (wI ((wI ((List.getD a0 (tN y1.2) 0) - (List.getD a0 (tN (wI (y1.2 - (1:Int)))) 0))) - (wI ((List.getD a0 (tN (wI (y1.2 - (1:Int)))) 0) - (List.getD a0 (tN (wI (y1.2 - (2:Int)))) 0)))))),((),())))→(List.length y1.1+List.length r5.1≤9223372036854775807∧(eS [(0,.val false [.lst (.int .i64) a0 none]),(6,.val false [.lst (.int .i64) a0 none]),(7,.val false [.int .i64 (ln a0)])] [(0,.val false [.lst (.int .i64) a0 none]),(6,.val false [.lst (.int .i64) a0 none]),(7,.val false [.int .i64 (ln a0)])]∧(tmI a0 (y1.1++r5.1) (wI (y1.2+(1:Int))))∧(tmM a0 (y1.1++r5.1) (wI (y1.2+(1:Int))))<(tmM a0 y1.1 y1.2))))))))))))))) (X04 (y1.2==(0:Int)) (True∧∀r6,(Eq r6 ((X27 (List.getD a0 (tN y1.2) 0)),((),())))→(List.length y1.1+List.length r6.1≤9223372036854775807∧(eS [(0,.val false [.lst (.int .i64) a0 none]),(6,.val false [.lst (.int .i64) a0 none]),(7,.val false [.int .i64 (ln a0)])] [(0,.val false [.lst (.int .i64) a0 none]),(6,.val false [.lst (.int .i64) a0 none]),(7,.val false [.int .i64 (ln a0)])]∧(tmI a0 (y1.1++r6.1) (wI (y1.2+(1:Int))))∧(tmM a0 (y1.1++r6.1) (wI (y1.2+(1:Int))))<(tmM a0 y1.1 y1.2)))) (X04 (y1.2==(1:Int)) (0≤(0:Int)∧((0:Int)<(ln a0)∧(True∧∀r7,(Eq r7 ((X27 (wI ((List.getD a0 (tN y1.2) 0) - (List.getD a0 (tN (0:Int)) 0)))),((),())))→(List.length y1.1+List.length r7.1≤9223372036854775807∧(eS [(0,.val false [.lst (.int .i64) a0 none]),(6,.val false [.lst (.int .i64) a0 none]),(7,.val false [.int .i64 (ln a0)])] [(0,.val false [.lst (.int .i64) a0 none]),(6,.val false [.lst (.int .i64) a0 none]),(7,.val false [.int .i64 (ln a0)])]∧(tmI a0 (y1.1++r7.1) (wI (y1.2+(1:Int))))∧(tmM a0 (y1.1++r7.1) (wI (y1.2+(1:Int))))<(tmM a0 y1.1 y1.2)))))) (0≤(wI (y1.2 - (1:Int)))∧((wI (y1.2 - (1:Int)))<(ln a0)∧(0≤(wI (y1.2 - (1:Int)))∧((wI (y1.2 - (1:Int)))<(ln a0)∧(0≤(wI (y1.2 - (2:Int)))∧((wI (y1.2 - (2:Int)))<(ln a0)∧(True∧∀r8,(Eq r8 ((XbS (wI ((wI ((List.getD a0 (tN y1.2) 0) - (List.getD a0 (tN (wI (y1.2 - (1:Int)))) 0))) - (wI ((List.getD a0 (tN (wI (y1.2 - (1:Int)))) 0) - (List.getD a0 (tN (wI (y1.2 - (2:Int)))) 0)))))),((),())))→(List.length y1.1+List.length r8.1≤9223372036854775807∧(eS [(0,.val false [.lst (.int .i64) a0 none]),(6,.val false [.lst (.int .i64) a0 none]),(7,.val false [.int .i64 (ln a0)])] [(0,.val false [.lst (.int .i64) a0 none]),(6,.val false [.lst (.int .i64) a0 none]),(7,.val false [.int .i64 (ln a0)])]∧(tmI a0 (y1.1++r8.1) (wI (y1.2+(1:Int))))∧(tmM a0 (y1.1++r8.1) (wI (y1.2+(1:Int))))<(tmM a0 y1.1 y1.2))))))))))))))))) (True∧∀r9,(Eq r9 ((fIn (ln a0) 1 60),((),())))→(X04 (!r9.1) (Eq ([],((),())) ((X0h a0),((),()))) (Eq (y1.1,((),())) ((X0h a0),((),()))))))))
def X0D.L(a0:(List Int)):Nat→Option X0g:=fun p=>Go.Proofs.Ytegmokdppbagiaa.Bv.look p [(58,{kp:={hold:=[0,6,7],slots:=[3,8],boxes:=[],rows:=[]},T:=(.pair .str (.int .i64)),I:=fun st y=>tmI a0 y.1 y.2,μ:=fun st y=>tmM a0 y.1 y.2})]
theorem X0D.pure(a0:(List Int))(h:(X9f a0))(hw:Wf X2Q.A a0):X0D.F a0:=by
 delta X0D.F ln tN wI eS
 have hw1:a0.length≤maxLen:=hw.1
 unfold maxLen at hw1
 have hp:a0.length≤1099511627776:=h
 simp only[Bs,B0,B1,Prod.mk.injEq,X06,tmI,tmM,XbS,X0Z,Xdf]
 repeat' (with_reducible (first | (refine And.intro ?_ ?_) | intro _))
 all_goals (try simp (disch:=omega) only[w64,wu8,tn0,tn1,tm1,tm2,List.length_append,List.length_cons,List.length_nil,n11,n12,tn_0,tn_1]at*)
 all_goals (try simp (disch:=omega) only[w64,wu8,tn0,tn1,tm1,tm2,List.length_append,List.length_cons,List.length_nil,n11,n12,tn_0,tn_1]at*)
 all_goals (try omega)
 all_goals (try grind[X0h,X7C,tmS,X2A,X4Y,X81])
theorem X0D.eq:EqS X2Q Try.f83 [9] [X1X.e,X0O.e,X2M.e] [] (fun i x=>X0D.L x) (fun i x=>X0D.F x):=by intro i x;kernel_rfl
theorem X0D.ok:X11 Try.prog 83 X2Q:=X3V X0D.eq Try.func83 rfl (by kernel_rfl) fun i x h hi hw=>X0D.pure x h hw
def X0D.e:GE:=⟨83,X2Q,⟨_,Try.func83,rfl,rfl⟩,X0D.ok⟩
def X2s:Con:={A:=(.list (.int .i64)),shA:=[.one],R:=.str,shR:=[(false,1)],pre:=fun _ a=>(X9f a),f:=some fun _ a=>((X0d a),((),()))}
def X0o.F(a0:(List Int)):Prop:=(eS [(0,.val false [.lst (.int .i64) a0 none]),(7,.val false [.lst (.int .i64) a0 none]),(8,.val false [.int .i64 (ln a0)])] [(0,.val false [.lst (.int .i64) a0 none]),(7,.val false [.lst (.int .i64) a0 none]),(8,.val false [.int .i64 (ln a0)])]∧((vlI a0 [] 0 0)∧∀(y1:(U3q×(Int×Int))),(vlI a0 y1.1 y1.2.1 y1.2.2)→(X04 (decide (y1.2.2<(ln a0))) (0≤y1.2.2∧(y1.2.2<(ln a0)∧(True∧∀r2,(Eq r2 ((fIn (List.getD a0 (tN y1.2.2) 0) (-1099511627776) 1099511627776),((),())))→(X04 (!r2.1) (Eq ([],((),())) ((X0d a0),((),()))) (True∧∀r3,(Eq r3 ((XbS (wI ((List.getD a0 (tN y1.2.2) 0) - y1.2.1))),((),())))→(List.length y1.1+List.length r3.1≤9223372036854775807∧(eS [(0,.val false [.lst (.int .i64) a0 none]),(7,.val false [.lst (.int .i64) a0 none]),(8,.val false [.int .i64 (ln a0)])] [(0,.val false [.lst (.int .i64) a0 none]),(7,.val false [.lst (.int .i64) a0 none]),(8,.val false [.int .i64 (ln a0)])]∧(vlI a0 (y1.1++r3.1) (List.getD a0 (tN y1.2.2) 0) (wI (y1.2.2+(1:Int))))∧(vlM a0 (y1.1++r3.1) (List.getD a0 (tN y1.2.2) 0) (wI (y1.2.2+(1:Int))))<(vlM a0 y1.1 y1.2.1 y1.2.2)))))))) (True∧∀r4,(Eq r4 ((fIn (ln a0) 1 60),((),())))→(X04 (!r4.1) (Eq ([],((),())) ((X0d a0),((),()))) (Eq (y1.1,((),())) ((X0d a0),((),()))))))))
def X0o.L(a0:(List Int)):Nat→Option X0g:=fun p=>Go.Proofs.Ytegmokdppbagiaa.Bv.look p [(122,{kp:={hold:=[0,7,8],slots:=[3,4,9],boxes:=[],rows:=[]},T:=(.pair .str T0q),I:=fun st y=>vlI a0 y.1 y.2.1 y.2.2,μ:=fun st y=>vlM a0 y.1 y.2.1 y.2.2})]
theorem X0o.pure(a0:(List Int))(h:(X9f a0))(hw:Wf X2s.A a0):X0o.F a0:=by
 delta X0o.F ln tN wI eS
 have hw1:a0.length≤maxLen:=hw.1
 unfold maxLen at hw1
 have hp:a0.length≤1099511627776:=h
 simp only[Bs,B0,B1,Prod.mk.injEq,X06,vlI,vlM,XbS,X0Z,Xdf]
 repeat' (with_reducible (first | (refine And.intro ?_ ?_) | intro _))
 all_goals (try simp (disch:=omega) only[w64,wu8,tn0,tn1,tm1,tm2,List.length_append,List.length_cons,List.length_nil,n11]at*)
 all_goals (try simp (disch:=omega) only[w64,wu8,tn0,tn1,tm1,tm2,List.length_append,List.length_cons,List.length_nil,n11]at*)
 all_goals (try omega)
 all_goals (try grind[X0d,XaW,vlS,X35,Xca,X81])
theorem X0o.eq:EqS X2s Try.f84 [9] [X0O.e,X2M.e] [] (fun i x=>X0o.L x) (fun i x=>X0o.F x):=by intro i x;kernel_rfl
theorem X0o.ok:X11 Try.prog 84 X2s:=X3V X0o.eq Try.func84 rfl (by kernel_rfl) fun i x h hi hw=>X0o.pure x h hw
def X0o.e:GE:=⟨84,X2s,⟨_,Try.func84,rfl,rfl⟩,X0o.ok⟩
end Go.Proofs.Ytegmokdppbagiaa.B
