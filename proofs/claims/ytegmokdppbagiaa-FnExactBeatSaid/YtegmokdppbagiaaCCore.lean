/- Wals and cores:right or not. -/
import Derived.Test.YtegmokdppbagiaaCSum
set_option maxRecDepth 100000
set_option linter.unusedVariables false
set_option linter.unusedSimpArgs false
namespace Go.Proofs.Ytegmokdppbagiaa.B
open Go Go.Proofs.Ytegmokdppbagiaa.Bv
abbrev Ent:=Int×List UInt8
abbrev Wal:=Int×(Int×(Int×(Int×List Ent)))
abbrev X2Z:=Int×(Int×(Int×(Int×(Int×(Int×(Int×(Int×(List Ent×(Int×(List Int×(List Int×List Int)))))))))))
def X7r(n:Int):Bool:=fIn n 1 100000
def X94(n:Int):Bool:=fIn n (-1) 4
def X2C(i t:Int):Bool:=(decide (i=0)&&decide (t=0))||(fIn i 1 100000&&fIn t 1 100000)
def tmOf(l:List Ent)(low:Int)(i:Nat):Int:=if i=0 then low else(l.getD (i - 1) (0,[])).1
def Xgy(l:List Ent)(low high:Int)(i:Nat):Bool:=decide (1≤(l.getD i (0,[])).1)&&(fIn (l.getD i (0,[])).1 (tmOf l low i) high&&decide ((l.getD i (0,[])).2.length≤900))
def X3k(l:List Ent)(low high:Int):Bool:=(List.range l.length).all (Xgy l low high)
theorem Xcw{l:List Ent}{low high:Int}(h:∀j,j<l.length→Xgy l low high j=true):X3k l low high=true:=by
 simp only[X3k,List.all_eq_true,List.mem_range];exact h
theorem Xec{l:List Ent}{low high:Int}{j:Nat}(hj:j<l.length)(h:Xgy l low high j=false):X3k l low high=false:=by
 rw[Bool.eq_false_iff];intro hh
 simp only[X3k,List.all_eq_true,List.mem_range]at hh
 rw[hh j hj]at h;cases h
def X22(w:Wal):Bool:=fIn w.1 0 100000&&(fIn w.2.1 (-1) 4&&(X2C w.2.2.1 w.2.2.2.1&&(decide (w.2.2.2.1≤w.1)&&(decide (w.2.2.2.2.length≤60)&&(X3k w.2.2.2.2 w.2.2.2.1 w.1&&decide (w.2.2.1+w.2.2.2.2.length≤100000))))))
def tkI(l:List Ent)(low0 high low i:Int):Prop:=0≤i∧i≤l.length∧low=tmOf l low0 i.toNat∧∀j,j<i.toNat→Xgy l low0 high j=true
def tkM(l:List Ent)(low0 high low i:Int):Nat:=(l.length - i).toNat
def tsI(w:Wal)(last i:Int)(a0 a1 a2 a3:Int)(a4:List Ent):Prop:=((a0,(a1,(a2,(a3,a4)))):Wal)=w∧tkI w.2.2.2.2 w.2.2.2.1 w.1 last i
def tsM(w:Wal)(last i:Int)(a0 a1 a2 a3:Int)(a4:List Ent):Nat:=(w.2.2.2.2.length - i).toNat
def X6t(c:X2Z):Wal:=(c.2.2.1,(c.2.2.2.1,(c.2.2.2.2.2.2.1,(c.2.2.2.2.2.2.2.1,c.2.2.2.2.2.2.2.2.1))))
def X0t(c:X2Z):Int:=IntKind.wrap .i64 (c.2.2.2.2.2.2.1+(c.2.2.2.2.2.2.2.2.1.length:Int))
def XgK(c:X2Z)(n:Int):Bool:=decide (IntKind.wrap .i64 (2*n)>c.2.1)
def X3e(c:X2Z)(n:Int):Bool:=fIn n 0 (IntKind.wrap .i64 (c.2.1 - 1))
theorem X8y{i t:Int}(h:X2C i t=true):0≤i∧i≤100000:=by
 simp[X2C,fIn]at h;omega
def X42:Con:={A:=(.int .i64),shA:=[.one],R:=.bool,shR:=[(false,1)],pre:=fun _ _=>True,f:=some fun _ a=>((X7r a),((),()))}
def X1E.F(a0:Int):Prop:=(True∧∀r1,(Eq r1 ((fIn a0 1 100000),((),())))→(Eq (r1.1,((),())) ((X7r a0),((),()))))
theorem X1E.pure(a0:Int)(h:True)(hw:Wf X42.A a0):X1E.F a0:=by
 unfold X1E.F
 simp only[Bs,B0,B1,Prod.mk.injEq,X04]
 repeat' (with_reducible (first | (refine And.intro ?_ ?_) | intro _))
 all_goals (try simp (disch:=omega) only[w64,wu8,tn0,tn1,tm1,tm2,List.length_append,List.length_cons,List.length_nil]at*)
 all_goals (try simp (disch:=omega) only[w64,wu8,tn0,tn1,tm1,tm2,List.length_append,List.length_cons,List.length_nil]at*)
 all_goals (try omega)
 all_goals (try grind[X7r])
theorem X1E.eq:EqS X42 Try.f122 [4] [X1k.e] [] noL (fun i x=>X1E.F x):=by intro i x;kernel_rfl
theorem X1E.ok:X0I Try.prog 122 X42:=X35 X1E.eq Try.func122 rfl (by kernel_rfl) fun i x h hi hw=>X1E.pure x h hw
def X1E.e:GE:=⟨122,X42,⟨_,Try.func122,rfl,rfl⟩,X1E.ok⟩
def X47:Con:={A:=(.int .i64),shA:=[.one],R:=.bool,shR:=[(false,1)],pre:=fun _ _=>True,f:=some fun _ a=>((X94 a),((),()))}
def X1A.F(a0:Int):Prop:=(True∧∀r1,(Eq r1 ((fIn a0 (-1) 4),((),())))→(Eq (r1.1,((),())) ((X94 a0),((),()))))
theorem X1A.pure(a0:Int)(h:True)(hw:Wf X47.A a0):X1A.F a0:=by
 unfold X1A.F
 simp only[Bs,B0,B1,Prod.mk.injEq,X04]
 repeat' (with_reducible (first | (refine And.intro ?_ ?_) | intro _))
 all_goals (try simp (disch:=omega) only[w64,wu8,tn0,tn1,tm1,tm2,List.length_append,List.length_cons,List.length_nil]at*)
 all_goals (try simp (disch:=omega) only[w64,wu8,tn0,tn1,tm1,tm2,List.length_append,List.length_cons,List.length_nil]at*)
 all_goals (try omega)
 all_goals (try grind[X94])
theorem X1A.eq:EqS X47 Try.f114 [4] [X1k.e] [] noL (fun i x=>X1A.F x):=by intro i x;kernel_rfl
theorem X1A.ok:X0I Try.prog 114 X47:=X35 X1A.eq Try.func114 rfl (by kernel_rfl) fun i x h hi hw=>X1A.pure x h hw
def X1A.e:GE:=⟨114,X47,⟨_,Try.func114,rfl,rfl⟩,X1A.ok⟩
def X3K:Con:={A:=T9q,shA:=[.one,.one],R:=.bool,shR:=[(false,1)],pre:=fun _ _=>True,f:=some fun _ a=>((X2C a.1 a.2),((),()))}
def X1j.F(a0:Int)(a1:Int):Prop:=(X03 (a0==(0:Int)) (X03 (a1==(0:Int)) (Eq (true,((),())) ((X2C a0 a1),((),()))) (True∧∀r1,(Eq r1 ((fIn a0 1 100000),((),())))→(X03 r1.1 (True∧∀r2,(Eq r2 ((X7r a1),((),())))→(Eq (r2.1,((),())) ((X2C a0 a1),((),())))) (Eq (false,((),())) ((X2C a0 a1),((),())))))) (True∧∀r3,(Eq r3 ((fIn a0 1 100000),((),())))→(X03 r3.1 (True∧∀r4,(Eq r4 ((X7r a1),((),())))→(Eq (r4.1,((),())) ((X2C a0 a1),((),())))) (Eq (false,((),())) ((X2C a0 a1),((),()))))))
theorem X1j.pure(a0:Int)(a1:Int)(h:True)(hw:Wf X3K.A (a0,a1)):X1j.F a0 a1:=by
 unfold X1j.F
 simp only[Bs,B0,B1,Prod.mk.injEq,X04,X7r]
 repeat' (with_reducible (first | (refine And.intro ?_ ?_) | intro _))
 all_goals (try simp (disch:=omega) only[w64,wu8,tn0,tn1,tm1,tm2,List.length_append,List.length_cons,List.length_nil]at*)
 all_goals (try simp (disch:=omega) only[w64,wu8,tn0,tn1,tm1,tm2,List.length_append,List.length_cons,List.length_nil]at*)
 all_goals (try omega)
 all_goals (try grind[X2C])
theorem X1j.eq:EqS X3K Try.f115 [4] [X1k.e,X1E.e] [] noL (fun i x=>X1j.F x.1 x.2):=by intro i x;kernel_rfl
theorem X1j.ok:X0I Try.prog 115 X3K:=X35 X1j.eq Try.func115 rfl (by kernel_rfl) fun i x h hi hw=>X1j.pure x.1 x.2 h hw
def X1j.e:GE:=⟨115,X3K,⟨_,Try.func115,rfl,rfl⟩,X1j.ok⟩
def X3O:Con:={A:=T9q,shA:=[.one,.one],R:=.bool,shR:=[(false,1)],pre:=fun _ _=>True,f:=some fun _ a=>((X2C a.1 a.2),((),()))}
def X1i.F(a0:Int)(a1:Int):Prop:=(X03 (a0==(0:Int)) (Eq ((a1==(0:Int)),((),())) ((X2C a0 a1),((),()))) (True∧∀r1,(Eq r1 ((fIn a0 1 100000),((),())))→(X03 r1.1 (True∧∀r2,(Eq r2 ((fIn a1 1 100000),((),())))→(Eq (r2.1,((),())) ((X2C a0 a1),((),())))) (Eq (false,((),())) ((X2C a0 a1),((),()))))))
theorem X1i.pure(a0:Int)(a1:Int)(h:True)(hw:Wf X3O.A (a0,a1)):X1i.F a0 a1:=by
 unfold X1i.F
 simp only[Bs,B0,B1,Prod.mk.injEq,X04]
 repeat' (with_reducible (first | (refine And.intro ?_ ?_) | intro _))
 all_goals (try simp (disch:=omega) only[w64,wu8,tn0,tn1,tm1,tm2,List.length_append,List.length_cons,List.length_nil]at*)
 all_goals (try simp (disch:=omega) only[w64,wu8,tn0,tn1,tm1,tm2,List.length_append,List.length_cons,List.length_nil]at*)
 all_goals (try omega)
 all_goals (try grind[X2C,X30])
theorem X1i.eq:EqS X3O Try.f113 [4] [X1U.e] [] noL (fun i x=>X1i.F x.1 x.2):=by intro i x;kernel_rfl
theorem X1i.ok:X0I Try.prog 113 X3O:=X35 X1i.eq Try.func113 rfl (by kernel_rfl) fun i x h hi hw=>X1i.pure x.1 x.2 h hw
def X1i.e:GE:=⟨113,X3O,⟨_,Try.func113,rfl,rfl⟩,X1i.ok⟩
def X3M:Con:={A:=(.pair (.list T5q) T9q),shA:=[.one,.one,.one],R:=.bool,shR:=[(false,1)],pre:=fun _ _=>True,f:=some fun _ a=>((X3k a.1 a.2.1 a.2.2),((),()))}
def X0P.F(a0:(List U4q))(a1:Int)(a2:Int):Prop:=(eS [(2,.val false [.int .i64 a2]),(9,.val false [.lst T5q a0 none]),(10,.val false [.int .i64 (ln a0)])] [(2,.val false [.int .i64 a2]),(9,.val false [.lst T5q a0 none]),(10,.val false [.int .i64 (ln a0)])]∧((tkI a0 a1 a2 a1 0)∧∀(y1:(Int×Int)),(tkI a0 a1 a2 y1.1 y1.2)→(X03 (decide (y1.2<(ln a0))) (0≤y1.2∧(y1.2<(ln a0)∧(X03 (decide (((List.getD a0 (tN y1.2) (0,[])).1)<(1:Int))) (Eq (false,((),())) ((X3k a0 a1 a2),((),()))) (True∧∀r2,(Eq r2 ((fIn ((List.getD a0 (tN y1.2) (0,[])).1) y1.1 a2),((),())))→(X03 (!r2.1) (Eq (false,((),())) ((X3k a0 a1 a2),((),()))) (X03 (decide ((ln ((List.getD a0 (tN y1.2) (0,[])).2))>(900:Int))) (Eq (false,((),())) ((X3k a0 a1 a2),((),()))) (eS [(2,.val false [.int .i64 a2]),(9,.val false [.lst T5q a0 none]),(10,.val false [.int .i64 (ln a0)])] [(2,.val false [.int .i64 a2]),(9,.val false [.lst T5q a0 none]),(10,.val false [.int .i64 (ln a0)])]∧(tkI a0 a1 a2 ((List.getD a0 (tN y1.2) (0,[])).1) (wI (y1.2+(1:Int))))∧(tkM a0 a1 a2 ((List.getD a0 (tN y1.2) (0,[])).1) (wI (y1.2+(1:Int))))<(tkM a0 a1 a2 y1.1 y1.2)))))))) (Eq (true,((),())) ((X3k a0 a1 a2),((),()))))))
def X0P.L(a0:(List U4q))(a1:Int)(a2:Int):Nat→Option X0l:=fun p=>Go.Proofs.Ytegmokdppbagiaa.Bv.look p [(26,{kp:={hold:=[2,9,10],slots:=[1,11],boxes:=[],rows:=[]},T:=T9q,I:=fun st y=>tkI a0 a1 a2 y.1 y.2,μ:=fun st y=>tkM a0 a1 a2 y.1 y.2})]
theorem X0P.pure(a0:(List U4q))(a1:Int)(a2:Int)(h:True)(hw:Wf X3M.A (a0,a1,a2)):X0P.F a0 a1 a2:=by
 delta X0P.F ln tN wI eS
 have hw1:a0.length≤9223372036854775807:=hw.1.1
 simp only[Bs,B0,B1,Prod.mk.injEq,X04,tkI,tkM,X30,Xhf]
 repeat' (with_reducible (first | (refine And.intro ?_ ?_) | intro _))
 all_goals (try simp (disch:=omega) only[w64,wu8,tn0,tn1,tm1,tm2,List.length_append,List.length_cons,List.length_nil]at*)
 all_goals (try simp (disch:=omega) only[w64,wu8,tn0,tn1,tm1,tm2,List.length_append,List.length_cons,List.length_nil]at*)
 all_goals (try omega)
 all_goals (try grind[Xcw,Xec,Xgy,tmOf,X30])
theorem X0P.eq:EqS X3M Try.f116 [4] [X1k.e] [] (fun i x=>X0P.L x.1 x.2.1 x.2.2) (fun i x=>X0P.F x.1 x.2.1 x.2.2):=by intro i x;kernel_rfl
theorem X0P.ok:X0I Try.prog 116 X3M:=X35 X0P.eq Try.func116 rfl (by kernel_rfl) fun i x h hi hw=>X0P.pure x.1 x.2.1 x.2.2 h hw
def X0P.e:GE:=⟨116,X3M,⟨_,Try.func116,rfl,rfl⟩,X0P.ok⟩
def X4Q:Con:={A:=T8q,shA:=[.agg 5],R:=.bool,shR:=[(false,1)],pre:=fun _ _=>True,f:=some fun _ a=>((X22 a),((),()))}
def X1W.F(a0:(Int×(Int×(Int×(Int×(List U4q)))))):Prop:=(True∧∀r1,(Eq r1 ((fIn a0.1 0 100000),((),())))→(X03 r1.1 (True∧∀r2,(Eq r2 ((X94 a0.2.1),((),())))→(X03 r2.1 (True∧∀r3,(Eq r3 ((X2C a0.2.2.1 a0.2.2.2.1),((),())))→(X03 r3.1 (X03 (decide (a0.2.2.2.1≤a0.1)) (X03 (decide ((ln a0.2.2.2.2)≤(60:Int))) (True∧∀r4,(Eq r4 ((X3k a0.2.2.2.2 a0.2.2.2.1 a0.1),((),())))→(X03 r4.1 (Eq ((decide ((wI (a0.2.2.1+(ln a0.2.2.2.2)))≤(100000:Int))),((),())) ((X22 a0),((),()))) (Eq (false,((),())) ((X22 a0),((),()))))) (Eq (false,((),())) ((X22 a0),((),())))) (Eq (false,((),())) ((X22 a0),((),())))) (Eq (false,((),())) ((X22 a0),((),()))))) (Eq (false,((),())) ((X22 a0),((),()))))) (Eq (false,((),())) ((X22 a0),((),())))))
theorem X1W.pure(a0:(Int×(Int×(Int×(Int×(List U4q))))))(h:True)(hw:Wf X4Q.A a0):X1W.F a0:=by
 delta X1W.F ln wI
 have hB:X2C a0.2.2.1 a0.2.2.2.1=true→(a0.2.2.2.2.length:Int)≤60→IntKind.wrap .i64 (a0.2.2.1+(a0.2.2.2.2.length:Int))=a0.2.2.1+(a0.2.2.2.2.length:Int):=fun h1 h2=>by
  have:=X8y h1
  exact w64 (by omega) (by omega)
 simp only[Bs,B0,B1,Prod.mk.injEq,X04,X94]
 repeat' (with_reducible (first | (refine And.intro ?_ ?_) | intro _))
 all_goals (try simp (disch:=omega) only[w64,wu8,tn0,tn1,tm1,tm2,List.length_append,List.length_cons,List.length_nil]at*)
 all_goals (try simp (disch:=omega) only[w64,wu8,tn0,tn1,tm1,tm2,List.length_append,List.length_cons,List.length_nil]at*)
 all_goals (try omega)
 all_goals (try grind[X22,X2C,X30])
theorem X1W.eq:EqS X4Q Try.f99 [4] [X1k.e,X1A.e,X1j.e,X0P.e] [] noL (fun i x=>X1W.F x):=by intro i x;kernel_rfl
theorem X1W.ok:X0I Try.prog 99 X4Q:=X35 X1W.eq Try.func99 rfl (by kernel_rfl) fun i x h hi hw=>X1W.pure x h hw
def X1W.e:GE:=⟨99,X4Q,⟨_,Try.func99,rfl,rfl⟩,X1W.ok⟩
def X4L:Con:={A:=T8q,shA:=[.agg 5],R:=.bool,shR:=[(false,1)],pre:=fun _ _=>True,f:=some fun _ a=>((X22 a),((),()))}
def X1u.F(a0:(Int×(Int×(Int×(Int×(List U4q)))))):Prop:=(True∧∀r1,(Eq r1 ((fIn a0.1 0 100000),((),())))→(X03 (!r1.1) (Eq (false,((),())) ((X22 a0),((),()))) (True∧∀r2,(Eq r2 ((fIn a0.2.1 (-1) 4),((),())))→(X03 (!r2.1) (Eq (false,((),())) ((X22 a0),((),()))) (True∧∀r3,(Eq r3 ((X2C a0.2.2.1 a0.2.2.2.1),((),())))→(X03 (!r3.1) (Eq (false,((),())) ((X22 a0),((),()))) (X03 (decide (a0.2.2.2.1>a0.1)) (Eq (false,((),())) ((X22 a0),((),()))) (X03 (decide ((ln a0.2.2.2.2)>(60:Int))) (Eq (false,((),())) ((X22 a0),((),()))) (X03 (decide ((wI (a0.2.2.1+(ln a0.2.2.2.2)))>(100000:Int))) (Eq (false,((),())) ((X22 a0),((),()))) (eS [(1,.box 2 0)] [(1,.box 2 0)]∧((tsI a0 a0.2.2.2.1 0 a0.1 a0.2.1 a0.2.2.1 a0.2.2.2.1 a0.2.2.2.2)∧∀(y4:(Int×(Int×(Int×(Int×(Int×(Int×(List U4q)))))))),(tsI a0 y4.1 y4.2.1 y4.2.2.1 y4.2.2.2.1 y4.2.2.2.2.1 y4.2.2.2.2.2.1 y4.2.2.2.2.2.2)→(X03 (decide (y4.2.1<(ln y4.2.2.2.2.2.2))) (0≤y4.2.1∧(y4.2.1<(ln y4.2.2.2.2.2.2)∧(X03 (decide (((List.getD y4.2.2.2.2.2.2 (tN y4.2.1) (0,[])).1)<(1:Int))) (Eq (false,((),())) ((X22 a0),((),()))) (X03 (decide (((List.getD y4.2.2.2.2.2.2 (tN y4.2.1) (0,[])).1)<y4.1)) (Eq (false,((),())) ((X22 a0),((),()))) (X03 (decide (((List.getD y4.2.2.2.2.2.2 (tN y4.2.1) (0,[])).1)>y4.2.2.1)) (Eq (false,((),())) ((X22 a0),((),()))) (X03 (decide ((ln ((List.getD y4.2.2.2.2.2.2 (tN y4.2.1) (0,[])).2))>(900:Int))) (Eq (false,((),())) ((X22 a0),((),()))) (eS [(1,.box 2 0)] [(1,.box 2 0)]∧(tsI a0 ((List.getD y4.2.2.2.2.2.2 (tN y4.2.1) (0,[])).1) (wI (y4.2.1+(1:Int))) y4.2.2.1 y4.2.2.2.1 y4.2.2.2.2.1 y4.2.2.2.2.2.1 y4.2.2.2.2.2.2)∧(tsM a0 ((List.getD y4.2.2.2.2.2.2 (tN y4.2.1) (0,[])).1) (wI (y4.2.1+(1:Int))) y4.2.2.1 y4.2.2.2.1 y4.2.2.2.2.1 y4.2.2.2.2.2.1 y4.2.2.2.2.2.2)<(tsM a0 y4.1 y4.2.1 y4.2.2.1 y4.2.2.2.1 y4.2.2.2.2.1 y4.2.2.2.2.2.1 y4.2.2.2.2.2.2)))))))) (Eq (true,((),())) ((X22 a0),((),())))))))))))))))
def X1u.L(a0:(Int×(Int×(Int×(Int×(List U4q)))))):Nat→Option X0l:=fun p=>Go.Proofs.Ytegmokdppbagiaa.Bv.look p [(122,{kp:={hold:=[1],slots:=[3,4],boxes:=[2],rows:=[]},T:=(.pair (.int .i64) (.pair (.int .i64) T8q)),I:=fun st y=>tsI a0 y.1 y.2.1 y.2.2.1 y.2.2.2.1 y.2.2.2.2.1 y.2.2.2.2.2.1 y.2.2.2.2.2.2,μ:=fun st y=>tsM a0 y.1 y.2.1 y.2.2.1 y.2.2.2.1 y.2.2.2.2.1 y.2.2.2.2.2.1 y.2.2.2.2.2.2})]
theorem X1u.pure(a0:(Int×(Int×(Int×(Int×(List U4q))))))(h:True)(hw:Wf X4L.A a0):X1u.F a0:=by
 delta X1u.F ln tN wI eS
 have hB:X2C a0.2.2.1 a0.2.2.2.1=true→(a0.2.2.2.2.length:Int)≤60→IntKind.wrap .i64 (a0.2.2.1+(a0.2.2.2.2.length:Int))=a0.2.2.1+(a0.2.2.2.2.length:Int):=fun h1 h2=>by
  have:=X8y h1
  exact w64 (by omega) (by omega)
 simp only[Bs,B0,B1,Prod.mk.injEq,X04,tsI,tsM,tkI,Prod.eta]
 repeat' (with_reducible (first | (refine And.intro ?_ ?_) | intro _))
 all_goals (try simp (disch:=omega) only[w64,wu8,tn0,tn1,tm1,tm2,List.length_append,List.length_cons,List.length_nil]at*)
 all_goals (try simp (disch:=omega) only[w64,wu8,tn0,tn1,tm1,tm2,List.length_append,List.length_cons,List.length_nil]at*)
 all_goals (try omega)
 all_goals (try grind[X22,Xcw,Xec,Xgy,tmOf,X2C,X30])
theorem X1u.eq:EqS X4L Try.f93 [4] [X1U.e,X1i.e] [] (fun i x=>X1u.L x) (fun i x=>X1u.F x):=by intro i x;kernel_rfl
theorem X1u.ok:X0I Try.prog 93 X4L:=X35 X1u.eq Try.func93 rfl (by kernel_rfl) fun i x h hi hw=>X1u.pure x h hw
def X1u.e:GE:=⟨93,X4L,⟨_,Try.func93,rfl,rfl⟩,X1u.ok⟩
def Xf8(l:List Int)(x:Int):Int:=match (List.range l.length).find? (fun j=>l.getD j 0==x) with
 | some j=>(j:Int)
 | none=>-1
theorem XcV{l:List Int}{x:Int}{j:Nat}(hj:j<l.length)(h:x=l.getD j 0)(hn:∀i,i<j→l.getD i 0≠x):Xf8 l x=(j:Int):=by
 unfold Xf8
 have e:(List.range l.length).find? (fun j=>l.getD j 0==x)=some j:=(List.find?_range_eq_some (p:=fun j=>l.getD j 0==x)).2 ⟨by rw[h];exact beq_self_eq_true _,by simpa using hj,fun i hi=>by simpa using hn i hi⟩
 rw[e]
theorem XcP{l:List Int}{x:Int}(hn:∀i,i<l.length→l.getD i 0≠x):Xf8 l x= -1:=by
 unfold Xf8
 rw[List.find?_eq_none.2 fun i hi=>by simpa using hn i (by simpa using hi)]
def XcZ(l:List Int)(x:Int):Bool:=decide (Xf8 l x≥0)
theorem Xh0{l:List Int}{x:Int}{j:Nat}(hj:j<l.length)(h:l.getD j 0=x)(hn:∀i,i<j→l.getD i 0≠x):XcZ l x=true:=by
 unfold XcZ;rw[XcV hj h.symm hn,decide_eq_true (by omega)]
theorem Xhd{l:List Int}{x:Int}(hn:∀i,i<l.length→l.getD i 0≠x):XcZ l x=false:=by
 unfold XcZ;rw[XcP hn];rfl
def XeJ(l:List Int)(x i:Int):Prop:=0≤i∧i≤l.length∧∀j,j<i.toNat→l.getD j 0≠x
def XfG(l:List Int)(x i:Int):Nat:=(l.length - i).toNat
def XgO(c:X2Z)(j:Nat):Bool:=fIn (c.2.2.2.2.2.2.2.2.2.2.1.getD j 0) 0 (IntKind.wrap .i64 (c.2.1 - 1))&&(decide (j=0)||decide (c.2.2.2.2.2.2.2.2.2.2.1.getD (j - 1) 0<c.2.2.2.2.2.2.2.2.2.2.1.getD j 0))
def X82(c:X2Z):Bool:=(List.range c.2.2.2.2.2.2.2.2.2.2.1.length).all (XgO c)&&(XcZ c.2.2.2.2.2.2.2.2.2.2.1 c.1&&!decide (IntKind.wrap .i64 (2*(c.2.2.2.2.2.2.2.2.2.2.1.length:Int))>c.2.1))
def skI(c:X2Z)(i:Int)(a0 a1 a2 a3 a4 a5 a6 a7:Int)(a8:List Ent)(a9:Int)(a10 a11 a12:List Int):Prop:=(((a0,(a1,(a2,(a3,(a4,(a5,(a6,(a7,(a8,(a9,(a10,(a11,a12)))))))))))):X2Z)=c)∧0≤i∧i≤c.2.2.2.2.2.2.2.2.2.2.1.length∧∀j,j<i.toNat→XgO c j=true
def skM(c:X2Z)(i:Int)(a0 a1 a2 a3 a4 a5 a6 a7:Int)(a8:List Ent)(a9:Int)(a10 a11 a12:List Int):Nat:=(c.2.2.2.2.2.2.2.2.2.2.1.length - i).toNat
def Xg2(c:X2Z)(j:Nat):Bool:=decide (0≤c.2.2.2.2.2.2.2.2.2.2.2.2.getD j 0)&&(decide (c.2.2.2.2.2.2.2.2.2.2.2.2.getD j 0<c.2.2.2.2.2.2.2.2.2.2.2.1.getD j 0)&&decide (c.2.2.2.2.2.2.2.2.2.2.2.1.getD j 0≤IntKind.wrap .i64 (X0t c+1)))
def X6C(c:X2Z):Bool:=decide ((c.2.2.2.2.2.2.2.2.2.2.2.1.length:Int)=c.2.1)&&(decide ((c.2.2.2.2.2.2.2.2.2.2.2.2.length:Int)=c.2.1)&&((List.range c.2.2.2.2.2.2.2.2.2.2.2.1.length).all (Xg2 c)&&decide (c.2.2.2.2.2.2.2.2.2.2.2.2.getD c.1.toNat 0=X0t c)))
def X21(c:X2Z):Prop:=c.2.2.2.2.2.2.2.2.1.length≤1099511627776∧c.2.2.2.2.2.2.2.2.2.2.1.length≤1099511627776∧c.2.2.2.2.2.2.2.2.2.2.2.1.length≤1099511627776∧c.2.2.2.2.2.2.2.2.2.2.2.2.length≤1099511627776
def XeZ(c:X2Z):Prop:=X21 c∧0≤c.1∧c.1<c.2.1
def ldI(c:X2Z)(i:Int)(a0 a1 a2 a3 a4 a5 a6 a7:Int)(a8:List Ent)(a9:Int)(a10 a11 a12:List Int):Prop:=(((a0,(a1,(a2,(a3,(a4,(a5,(a6,(a7,(a8,(a9,(a10,(a11,a12)))))))))))):X2Z)=c)∧0≤i∧i≤c.2.2.2.2.2.2.2.2.2.2.2.1.length∧∀j,j<i.toNat→Xg2 c j=true
def ldM(c:X2Z)(i:Int)(a0 a1 a2 a3 a4 a5 a6 a7:Int)(a8:List Ent)(a9:Int)(a10 a11 a12:List Int):Nat:=(c.2.2.2.2.2.2.2.2.2.2.2.1.length - i).toNat
theorem Xgq{p:Nat→Bool}{n:Nat}(h:∀j,j<n→p j=true):(List.range n).all p=true:=by
 simp only[List.all_eq_true,List.mem_range];exact h
theorem Xgn{p:Nat→Bool}{n j:Nat}(hj:j<n)(h:p j=false):(List.range n).all p=false:=by
 rw[Bool.eq_false_iff];intro hh
 simp only[List.all_eq_true,List.mem_range]at hh
 rw[hh j hj]at h;cases h
def X1G:Con:={A:=(.pair T6q (.int .i64)),shA:=[.one,.one],R:=(.int .i64),shR:=[(false,1)],pre:=fun _ _=>True,f:=some fun _ a=>((Xf8 a.1 a.2),((),()))}
def X0b.F(a0:(List Int))(a1:Int):Prop:=(eS [(0,.val false [.lst (.int .i64) a0 none]),(1,.val false [.int .i64 a1]),(7,.val false [.int .i64 (ln a0)])] [(0,.val false [.lst (.int .i64) a0 none]),(1,.val false [.int .i64 a1]),(7,.val false [.int .i64 (ln a0)])]∧((XeJ a0 a1 0)∧∀(y1:Int),(XeJ a0 a1 y1)→(X03 (decide (y1<(ln a0))) (0≤y1∧(y1<(ln a0)∧(X03 (a1==(List.getD a0 (tN y1) 0)) (Eq (y1,((),())) ((Xf8 a0 a1),((),()))) (eS [(0,.val false [.lst (.int .i64) a0 none]),(1,.val false [.int .i64 a1]),(7,.val false [.int .i64 (ln a0)])] [(0,.val false [.lst (.int .i64) a0 none]),(1,.val false [.int .i64 a1]),(7,.val false [.int .i64 (ln a0)])]∧(XeJ a0 a1 (wI (y1+(1:Int))))∧(XfG a0 a1 (wI (y1+(1:Int))))<(XfG a0 a1 y1))))) (Eq ((-1),((),())) ((Xf8 a0 a1),((),()))))))
def X0b.L(a0:(List Int))(a1:Int):Nat→Option X0l:=fun p=>Go.Proofs.Ytegmokdppbagiaa.Bv.look p [(26,{kp:={hold:=[0,1,7],slots:=[8],boxes:=[],rows:=[]},T:=(.int .i64),I:=fun st y=>XeJ a0 a1 y,μ:=fun st y=>XfG a0 a1 y})]
theorem X0b.pure(a0:(List Int))(a1:Int)(h:True)(hw:Wf X1G.A (a0,a1)):X0b.F a0 a1:=by
 delta X0b.F ln tN wI eS
 have hw1:a0.length≤9223372036854775807:=hw.1.1
 simp only[Bs,B0,B1,Prod.mk.injEq,X04,XeJ,XfG]
 repeat' (with_reducible (first | (refine And.intro ?_ ?_) | intro _))
 all_goals (try simp (disch:=omega) only[w64,wu8,tn0,tn1,tm1,tm2,List.length_append,List.length_cons,List.length_nil]at*)
 all_goals (try simp (disch:=omega) only[w64,wu8,tn0,tn1,tm1,tm2,List.length_append,List.length_cons,List.length_nil]at*)
 all_goals (try omega)
 all_goals (try grind[XcV,XcP])
theorem X0b.eq:EqS X1G Try.f123 [3] [] [] (fun i x=>X0b.L x.1 x.2) (fun i x=>X0b.F x.1 x.2):=by intro i x;kernel_rfl
theorem X0b.ok:X0I Try.prog 123 X1G:=X35 X0b.eq Try.func123 rfl (by kernel_rfl) fun i x h hi hw=>X0b.pure x.1 x.2 h hw
def X0b.e:GE:=⟨123,X1G,⟨_,Try.func123,rfl,rfl⟩,X0b.ok⟩
def X1e:Con:={A:=(.pair T6q (.int .i64)),shA:=[.one,.one],R:=.bool,shR:=[(false,1)],pre:=fun _ _=>True,f:=some fun _ a=>((XcZ a.1 a.2),((),()))}
def X0a.F(a0:(List Int))(a1:Int):Prop:=(True∧∀r1,(Eq r1 ((Xf8 a0 a1),((),())))→(Eq ((decide (r1.1≥(0:Int))),((),())) ((XcZ a0 a1),((),()))))
theorem X0a.pure(a0:(List Int))(a1:Int)(h:True)(hw:Wf X1e.A (a0,a1)):X0a.F a0 a1:=by
 unfold X0a.F
 simp only[Bs,B0,B1,Prod.mk.injEq,X04]
 repeat' (with_reducible (first | (refine And.intro ?_ ?_) | intro _))
 all_goals (try simp (disch:=omega) only[w64,wu8,tn0,tn1,tm1,tm2,List.length_append,List.length_cons,List.length_nil]at*)
 all_goals (try simp (disch:=omega) only[w64,wu8,tn0,tn1,tm1,tm2,List.length_append,List.length_cons,List.length_nil]at*)
 all_goals (try omega)
 all_goals (try grind[XcZ])
theorem X0a.eq:EqS X1e Try.f117 [4] [X0b.e] [] noL (fun i x=>X0a.F x.1 x.2):=by intro i x;kernel_rfl
theorem X0a.ok:X0I Try.prog 117 X1e:=X35 X0a.eq Try.func117 rfl (by kernel_rfl) fun i x h hi hw=>X0a.pure x.1 x.2 h hw
def X0a.e:GE:=⟨117,X1e,⟨_,Try.func117,rfl,rfl⟩,X0a.ok⟩
def X4S:Con:={A:=(.pair T6q (.int .i64)),shA:=[.one,.one],R:=.bool,shR:=[(false,1)],pre:=fun _ _=>True,f:=some fun _ a=>((XcZ a.1 a.2),((),()))}
def X1t.F(a0:(List Int))(a1:Int):Prop:=(eS [(0,.val false [.lst (.int .i64) a0 none]),(1,.val false [.int .i64 a1])] [(0,.val false [.lst (.int .i64) a0 none]),(1,.val false [.int .i64 a1])]∧((XeJ a0 a1 0)∧∀(y1:Int),(XeJ a0 a1 y1)→(X03 (decide (y1<(ln a0))) (0≤y1∧(y1<(ln a0)∧(X03 ((List.getD a0 (tN y1) 0)==a1) (Eq (true,((),())) ((XcZ a0 a1),((),()))) (eS [(0,.val false [.lst (.int .i64) a0 none]),(1,.val false [.int .i64 a1])] [(0,.val false [.lst (.int .i64) a0 none]),(1,.val false [.int .i64 a1])]∧(XeJ a0 a1 (wI (y1+(1:Int))))∧(XfG a0 a1 (wI (y1+(1:Int))))<(XfG a0 a1 y1))))) (Eq (false,((),())) ((XcZ a0 a1),((),()))))))
def X1t.L(a0:(List Int))(a1:Int):Nat→Option X0l:=fun p=>Go.Proofs.Ytegmokdppbagiaa.Bv.look p [(26,{kp:={hold:=[0,1],slots:=[5],boxes:=[],rows:=[]},T:=(.int .i64),I:=fun st y=>XeJ a0 a1 y,μ:=fun st y=>XfG a0 a1 y})]
theorem X1t.pure(a0:(List Int))(a1:Int)(h:True)(hw:Wf X4S.A (a0,a1)):X1t.F a0 a1:=by
 delta X1t.F ln tN wI eS
 have hw1:a0.length≤9223372036854775807:=hw.1.1
 simp only[Bs,B0,B1,Prod.mk.injEq,X04,XeJ,XfG]
 repeat' (with_reducible (first | (refine And.intro ?_ ?_) | intro _))
 all_goals (try simp (disch:=omega) only[w64,wu8,tn0,tn1,tm1,tm2,List.length_append,List.length_cons,List.length_nil]at*)
 all_goals (try simp (disch:=omega) only[w64,wu8,tn0,tn1,tm1,tm2,List.length_append,List.length_cons,List.length_nil]at*)
 all_goals (try omega)
 all_goals (try grind[Xh0,Xhd])
theorem X1t.eq:EqS X4S Try.f95 [4] [] [] (fun i x=>X1t.L x.1 x.2) (fun i x=>X1t.F x.1 x.2):=by intro i x;kernel_rfl
theorem X1t.ok:X0I Try.prog 95 X4S:=X35 X1t.eq Try.func95 rfl (by kernel_rfl) fun i x h hi hw=>X1t.pure x.1 x.2 h hw
def X1t.e:GE:=⟨95,X4S,⟨_,Try.func95,rfl,rfl⟩,X1t.ok⟩
def X3P:Con:={A:=T0q,shA:=[.ptr 13],R:=(.int .i64),shR:=[(false,1)],pre:=fun _ _=>True,f:=some fun _ a=>((X0t a),((),()))}
def X14.F(a0:U1q):Prop:=(Eq ((wI (a0.2.2.2.2.2.2.1+(ln a0.2.2.2.2.2.2.2.2.1))),((),())) ((X0t a0),((),())))
theorem X14.pure(a0:U1q)(h:True)(hw:Wf X3P.A a0):X14.F a0:=by
 delta X14.F ln wI
 simp only[Bs,B0,B1,Prod.mk.injEq,X04,Prod.eta,X0t]
 repeat' (with_reducible (first | (refine And.intro ?_ ?_) | intro _))
 all_goals (try simp (disch:=omega) only[w64,wu8,tn0,tn1,tm1,tm2,List.length_append,List.length_cons,List.length_nil]at*)
 all_goals (try simp (disch:=omega) only[w64,wu8,tn0,tn1,tm1,tm2,List.length_append,List.length_cons,List.length_nil]at*)
 all_goals (try omega)
 all_goals (try grind[])
theorem X14.eq:EqS X3P Try.f68 [3] [] [] noL (fun i x=>X14.F x):=by intro i x;kernel_rfl
theorem X14.ok:X0I Try.prog 68 X3P:=X35 X14.eq Try.func68 rfl (by kernel_rfl) fun i x h hi hw=>X14.pure x h hw
def X14.e:GE:=⟨68,X3P,⟨_,Try.func68,rfl,rfl⟩,X14.ok⟩
def X2m:Con:={A:=(.pair T0q (.int .i64)),shA:=[.ptr 13,.one],R:=.bool,shR:=[(false,1)],pre:=fun _ _=>True,f:=some fun _ a=>((XgK a.1 a.2),((),()))}
def X0w.F(a0:U1q)(a1:Int):Prop:=(Eq ((decide ((wI ((2:Int)*a1))>a0.2.1)),((),())) ((XgK a0 a1),((),())))
theorem X0w.pure(a0:U1q)(a1:Int)(h:True)(hw:Wf X2m.A (a0,a1)):X0w.F a0 a1:=by
 delta X0w.F wI
 simp only[Bs,B0,B1,Prod.mk.injEq,X04,Prod.eta,XgK]
 repeat' (with_reducible (first | (refine And.intro ?_ ?_) | intro _))
 all_goals (try simp (disch:=omega) only[w64,wu8,tn0,tn1,tm1,tm2,List.length_append,List.length_cons,List.length_nil]at*)
 all_goals (try simp (disch:=omega) only[w64,wu8,tn0,tn1,tm1,tm2,List.length_append,List.length_cons,List.length_nil]at*)
 all_goals (try omega)
 all_goals (try grind[])
theorem X0w.eq:EqS X2m Try.f71 [4] [] [] noL (fun i x=>X0w.F x.1 x.2):=by intro i x;kernel_rfl
theorem X0w.ok:X0I Try.prog 71 X2m:=X35 X0w.eq Try.func71 rfl (by kernel_rfl) fun i x h hi hw=>X0w.pure x.1 x.2 h hw
def X0w.e:GE:=⟨71,X2m,⟨_,Try.func71,rfl,rfl⟩,X0w.ok⟩
def X3F:Con:={A:=T0q,shA:=[.agg 13],R:=(.int .i64),shR:=[(false,1)],pre:=fun _ _=>True,f:=some fun _ a=>((X0t a),((),()))}
def X13.F(a0:U1q):Prop:=(Eq ((wI (a0.2.2.2.2.2.2.1+(ln a0.2.2.2.2.2.2.2.2.1))),((),())) ((X0t a0),((),())))
theorem X13.pure(a0:U1q)(h:True)(hw:Wf X3F.A a0):X13.F a0:=by
 delta X13.F ln wI
 simp only[Bs,B0,B1,Prod.mk.injEq,X04,Prod.eta,X0t]
 repeat' (with_reducible (first | (refine And.intro ?_ ?_) | intro _))
 all_goals (try simp (disch:=omega) only[w64,wu8,tn0,tn1,tm1,tm2,List.length_append,List.length_cons,List.length_nil]at*)
 all_goals (try simp (disch:=omega) only[w64,wu8,tn0,tn1,tm1,tm2,List.length_append,List.length_cons,List.length_nil]at*)
 all_goals (try omega)
 all_goals (try grind[])
theorem X13.eq:EqS X3F Try.f64 [3] [] [] noL (fun i x=>X13.F x):=by intro i x;kernel_rfl
theorem X13.ok:X0I Try.prog 64 X3F:=X35 X13.eq Try.func64 rfl (by kernel_rfl) fun i x h hi hw=>X13.pure x h hw
def X13.e:GE:=⟨64,X3F,⟨_,Try.func64,rfl,rfl⟩,X13.ok⟩
def X4j:Con:={A:=(.pair T0q (.int .i64)),shA:=[.agg 13,.one],R:=.bool,shR:=[(false,1)],pre:=fun _ _=>True,f:=some fun _ a=>((X3e a.1 a.2),((),()))}
def X1o.F(a0:U1q)(a1:Int):Prop:=(True∧∀r1,(Eq r1 ((fIn a1 0 (wI (a0.2.1 - (1:Int)))),((),())))→(Eq (r1.1,((),())) ((X3e a0 a1),((),()))))
theorem X1o.pure(a0:U1q)(a1:Int)(h:True)(hw:Wf X4j.A (a0,a1)):X1o.F a0 a1:=by
 delta X1o.F wI
 simp only[Bs,B0,B1,Prod.mk.injEq,X04,Prod.eta,X3e]
 repeat' (with_reducible (first | (refine And.intro ?_ ?_) | intro _))
 all_goals (try simp (disch:=omega) only[w64,wu8,tn0,tn1,tm1,tm2,List.length_append,List.length_cons,List.length_nil]at*)
 all_goals (try simp (disch:=omega) only[w64,wu8,tn0,tn1,tm1,tm2,List.length_append,List.length_cons,List.length_nil]at*)
 all_goals (try omega)
 all_goals (try grind[])
theorem X1o.eq:EqS X4j Try.f98 [4] [X1k.e] [] noL (fun i x=>X1o.F x.1 x.2):=by intro i x;kernel_rfl
theorem X1o.ok:X0I Try.prog 98 X4j:=X35 X1o.eq Try.func98 rfl (by kernel_rfl) fun i x h hi hw=>X1o.pure x.1 x.2 h hw
def X1o.e:GE:=⟨98,X4j,⟨_,Try.func98,rfl,rfl⟩,X1o.ok⟩
def X4g:Con:={A:=T0q,shA:=[.agg 13],R:=.bool,shR:=[(false,1)],pre:=fun _ a=>(X21 a),f:=some fun _ a=>((X82 a),((),()))}
def X1a.F(a0:U1q):Prop:=(eS [(1,.box 2 0),(6,.val false [.lst (.int .i64) a0.2.2.2.2.2.2.2.2.2.2.1 none]),(7,.val false [.int .i64 (ln a0.2.2.2.2.2.2.2.2.2.2.1)])] [(1,.box 2 0),(6,.val false [.lst (.int .i64) a0.2.2.2.2.2.2.2.2.2.2.1 none]),(7,.val false [.int .i64 (ln a0.2.2.2.2.2.2.2.2.2.2.1)])]∧((skI a0 0 a0.1 a0.2.1 a0.2.2.1 a0.2.2.2.1 a0.2.2.2.2.1 a0.2.2.2.2.2.1 a0.2.2.2.2.2.2.1 a0.2.2.2.2.2.2.2.1 a0.2.2.2.2.2.2.2.2.1 a0.2.2.2.2.2.2.2.2.2.1 a0.2.2.2.2.2.2.2.2.2.2.1 a0.2.2.2.2.2.2.2.2.2.2.2.1 a0.2.2.2.2.2.2.2.2.2.2.2.2)∧∀(y1:(Int×U1q)),(skI a0 y1.1 y1.2.1 y1.2.2.1 y1.2.2.2.1 y1.2.2.2.2.1 y1.2.2.2.2.2.1 y1.2.2.2.2.2.2.1 y1.2.2.2.2.2.2.2.1 y1.2.2.2.2.2.2.2.2.1 y1.2.2.2.2.2.2.2.2.2.1 y1.2.2.2.2.2.2.2.2.2.2.1 y1.2.2.2.2.2.2.2.2.2.2.2.1 y1.2.2.2.2.2.2.2.2.2.2.2.2.1 y1.2.2.2.2.2.2.2.2.2.2.2.2.2)→(X03 (decide (y1.1<(ln a0.2.2.2.2.2.2.2.2.2.2.1))) (0≤y1.1∧(y1.1<(ln a0.2.2.2.2.2.2.2.2.2.2.1)∧(True∧∀r2,(Eq r2 ((X3e (y1.2.1,(y1.2.2.1,(y1.2.2.2.1,(y1.2.2.2.2.1,(y1.2.2.2.2.2.1,(y1.2.2.2.2.2.2.1,(y1.2.2.2.2.2.2.2.1,(y1.2.2.2.2.2.2.2.2.1,(y1.2.2.2.2.2.2.2.2.2.1,(y1.2.2.2.2.2.2.2.2.2.2.1,(y1.2.2.2.2.2.2.2.2.2.2.2.1,(y1.2.2.2.2.2.2.2.2.2.2.2.2.1,y1.2.2.2.2.2.2.2.2.2.2.2.2.2)))))))))))) (List.getD a0.2.2.2.2.2.2.2.2.2.2.1 (tN y1.1) 0)),((),())))→(X03 (!r2.1) (Eq (false,((),())) ((X82 a0),((),()))) (X03 (decide (y1.1>(0:Int))) (0≤(wI (y1.1 - (1:Int)))∧((wI (y1.1 - (1:Int)))<(ln y1.2.2.2.2.2.2.2.2.2.2.2.1)∧(X03 (decide ((List.getD y1.2.2.2.2.2.2.2.2.2.2.2.1 (tN (wI (y1.1 - (1:Int)))) 0)≥(List.getD a0.2.2.2.2.2.2.2.2.2.2.1 (tN y1.1) 0))) (Eq (false,((),())) ((X82 a0),((),()))) (eS [(1,.box 2 0),(6,.val false [.lst (.int .i64) a0.2.2.2.2.2.2.2.2.2.2.1 none]),(7,.val false [.int .i64 (ln a0.2.2.2.2.2.2.2.2.2.2.1)])] [(1,.box 2 0),(6,.val false [.lst (.int .i64) a0.2.2.2.2.2.2.2.2.2.2.1 none]),(7,.val false [.int .i64 (ln a0.2.2.2.2.2.2.2.2.2.2.1)])]∧(skI a0 (wI (y1.1+(1:Int))) y1.2.1 y1.2.2.1 y1.2.2.2.1 y1.2.2.2.2.1 y1.2.2.2.2.2.1 y1.2.2.2.2.2.2.1 y1.2.2.2.2.2.2.2.1 y1.2.2.2.2.2.2.2.2.1 y1.2.2.2.2.2.2.2.2.2.1 y1.2.2.2.2.2.2.2.2.2.2.1 y1.2.2.2.2.2.2.2.2.2.2.2.1 y1.2.2.2.2.2.2.2.2.2.2.2.2.1 y1.2.2.2.2.2.2.2.2.2.2.2.2.2)∧(skM a0 (wI (y1.1+(1:Int))) y1.2.1 y1.2.2.1 y1.2.2.2.1 y1.2.2.2.2.1 y1.2.2.2.2.2.1 y1.2.2.2.2.2.2.1 y1.2.2.2.2.2.2.2.1 y1.2.2.2.2.2.2.2.2.1 y1.2.2.2.2.2.2.2.2.2.1 y1.2.2.2.2.2.2.2.2.2.2.1 y1.2.2.2.2.2.2.2.2.2.2.2.1 y1.2.2.2.2.2.2.2.2.2.2.2.2.1 y1.2.2.2.2.2.2.2.2.2.2.2.2.2)<(skM a0 y1.1 y1.2.1 y1.2.2.1 y1.2.2.2.1 y1.2.2.2.2.1 y1.2.2.2.2.2.1 y1.2.2.2.2.2.2.1 y1.2.2.2.2.2.2.2.1 y1.2.2.2.2.2.2.2.2.1 y1.2.2.2.2.2.2.2.2.2.1 y1.2.2.2.2.2.2.2.2.2.2.1 y1.2.2.2.2.2.2.2.2.2.2.2.1 y1.2.2.2.2.2.2.2.2.2.2.2.2.1 y1.2.2.2.2.2.2.2.2.2.2.2.2.2))))) (eS [(1,.box 2 0),(6,.val false [.lst (.int .i64) a0.2.2.2.2.2.2.2.2.2.2.1 none]),(7,.val false [.int .i64 (ln a0.2.2.2.2.2.2.2.2.2.2.1)])] [(1,.box 2 0),(6,.val false [.lst (.int .i64) a0.2.2.2.2.2.2.2.2.2.2.1 none]),(7,.val false [.int .i64 (ln a0.2.2.2.2.2.2.2.2.2.2.1)])]∧(skI a0 (wI (y1.1+(1:Int))) y1.2.1 y1.2.2.1 y1.2.2.2.1 y1.2.2.2.2.1 y1.2.2.2.2.2.1 y1.2.2.2.2.2.2.1 y1.2.2.2.2.2.2.2.1 y1.2.2.2.2.2.2.2.2.1 y1.2.2.2.2.2.2.2.2.2.1 y1.2.2.2.2.2.2.2.2.2.2.1 y1.2.2.2.2.2.2.2.2.2.2.2.1 y1.2.2.2.2.2.2.2.2.2.2.2.2.1 y1.2.2.2.2.2.2.2.2.2.2.2.2.2)∧(skM a0 (wI (y1.1+(1:Int))) y1.2.1 y1.2.2.1 y1.2.2.2.1 y1.2.2.2.2.1 y1.2.2.2.2.2.1 y1.2.2.2.2.2.2.1 y1.2.2.2.2.2.2.2.1 y1.2.2.2.2.2.2.2.2.1 y1.2.2.2.2.2.2.2.2.2.1 y1.2.2.2.2.2.2.2.2.2.2.1 y1.2.2.2.2.2.2.2.2.2.2.2.1 y1.2.2.2.2.2.2.2.2.2.2.2.2.1 y1.2.2.2.2.2.2.2.2.2.2.2.2.2)<(skM a0 y1.1 y1.2.1 y1.2.2.1 y1.2.2.2.1 y1.2.2.2.2.1 y1.2.2.2.2.2.1 y1.2.2.2.2.2.2.1 y1.2.2.2.2.2.2.2.1 y1.2.2.2.2.2.2.2.2.1 y1.2.2.2.2.2.2.2.2.2.1 y1.2.2.2.2.2.2.2.2.2.2.1 y1.2.2.2.2.2.2.2.2.2.2.2.1 y1.2.2.2.2.2.2.2.2.2.2.2.2.1 y1.2.2.2.2.2.2.2.2.2.2.2.2.2))))))) (True∧∀r3,(Eq r3 ((XcZ y1.2.2.2.2.2.2.2.2.2.2.2.1 y1.2.1),((),())))→(X03 r3.1 (True∧∀r4,(Eq r4 ((XgK (y1.2.1,(y1.2.2.1,(y1.2.2.2.1,(y1.2.2.2.2.1,(y1.2.2.2.2.2.1,(y1.2.2.2.2.2.2.1,(y1.2.2.2.2.2.2.2.1,(y1.2.2.2.2.2.2.2.2.1,(y1.2.2.2.2.2.2.2.2.2.1,(y1.2.2.2.2.2.2.2.2.2.2.1,(y1.2.2.2.2.2.2.2.2.2.2.2.1,(y1.2.2.2.2.2.2.2.2.2.2.2.2.1,y1.2.2.2.2.2.2.2.2.2.2.2.2.2)))))))))))) (ln y1.2.2.2.2.2.2.2.2.2.2.2.1)),((),())))→(Eq ((!r4.1),((),())) ((X82 a0),((),())))) (Eq (false,((),())) ((X82 a0),((),()))))))))
def X1a.L(a0:U1q):Nat→Option X0l:=fun p=>Go.Proofs.Ytegmokdppbagiaa.Bv.look p [(26,{kp:={hold:=[1,6,7],slots:=[8],boxes:=[2],rows:=[]},T:=(.pair (.int .i64) T0q),I:=fun st y=>skI a0 y.1 y.2.1 y.2.2.1 y.2.2.2.1 y.2.2.2.2.1 y.2.2.2.2.2.1 y.2.2.2.2.2.2.1 y.2.2.2.2.2.2.2.1 y.2.2.2.2.2.2.2.2.1 y.2.2.2.2.2.2.2.2.2.1 y.2.2.2.2.2.2.2.2.2.2.1 y.2.2.2.2.2.2.2.2.2.2.2.1 y.2.2.2.2.2.2.2.2.2.2.2.2.1 y.2.2.2.2.2.2.2.2.2.2.2.2.2,μ:=fun st y=>skM a0 y.1 y.2.1 y.2.2.1 y.2.2.2.1 y.2.2.2.2.1 y.2.2.2.2.2.1 y.2.2.2.2.2.2.1 y.2.2.2.2.2.2.2.1 y.2.2.2.2.2.2.2.2.1 y.2.2.2.2.2.2.2.2.2.1 y.2.2.2.2.2.2.2.2.2.2.1 y.2.2.2.2.2.2.2.2.2.2.2.1 y.2.2.2.2.2.2.2.2.2.2.2.2.1 y.2.2.2.2.2.2.2.2.2.2.2.2.2})]
theorem X1a.pure(a0:U1q)(h:(X21 a0))(hw:Wf X4g.A a0):X1a.F a0:=by
 delta X1a.F ln tN wI eS
 obtain⟨p0,p1,p2,p3⟩:=h
 simp only[Bs,B0,B1,Prod.mk.injEq,X04,skI,skM,Prod.eta,X3e,XgK,X21]
 repeat' (with_reducible (first | (refine And.intro ?_ ?_) | intro _))
 all_goals (try simp (disch:=omega) only[w64,wu8,tn0,tn1,tm1,tm2,List.length_append,List.length_cons,List.length_nil]at*)
 all_goals (try simp (disch:=omega) only[w64,wu8,tn0,tn1,tm1,tm2,List.length_append,List.length_cons,List.length_nil]at*)
 all_goals (try omega)
 all_goals (try grind[X82,Xgq,Xgn,XgO])
theorem X1a.eq:EqS X4g Try.f101 [4] [X0w.e,X1o.e,X0a.e] [] (fun i x=>X1a.L x) (fun i x=>X1a.F x):=by intro i x;kernel_rfl
theorem X1a.ok:X0I Try.prog 101 X4g:=X35 X1a.eq Try.func101 rfl (by kernel_rfl) fun i x h hi hw=>X1a.pure x h hw
def X1a.e:GE:=⟨101,X4g,⟨_,Try.func101,rfl,rfl⟩,X1a.ok⟩
def X4f:Con:={A:=T0q,shA:=[.agg 13],R:=.bool,shR:=[(false,1)],pre:=fun _ a=>(XeZ a),f:=some fun _ a=>((X6C a),((),()))}
def X19.F(a0:U1q):Prop:=(X03 ((ln a0.2.2.2.2.2.2.2.2.2.2.2.1)!=a0.2.1) (Eq (false,((),())) ((X6C a0),((),()))) (X03 ((ln a0.2.2.2.2.2.2.2.2.2.2.2.2)!=a0.2.1) (Eq (false,((),())) ((X6C a0),((),()))) (eS [(1,.box 2 0),(20,.val false [.lst (.int .i64) a0.2.2.2.2.2.2.2.2.2.2.2.1 none]),(21,.val false [.int .i64 (ln a0.2.2.2.2.2.2.2.2.2.2.2.1)])] [(1,.box 2 0),(20,.val false [.lst (.int .i64) a0.2.2.2.2.2.2.2.2.2.2.2.1 none]),(21,.val false [.int .i64 (ln a0.2.2.2.2.2.2.2.2.2.2.2.1)])]∧((ldI a0 0 a0.1 a0.2.1 a0.2.2.1 a0.2.2.2.1 a0.2.2.2.2.1 a0.2.2.2.2.2.1 a0.2.2.2.2.2.2.1 a0.2.2.2.2.2.2.2.1 a0.2.2.2.2.2.2.2.2.1 a0.2.2.2.2.2.2.2.2.2.1 a0.2.2.2.2.2.2.2.2.2.2.1 a0.2.2.2.2.2.2.2.2.2.2.2.1 a0.2.2.2.2.2.2.2.2.2.2.2.2)∧∀(y1:(Int×U1q)),(ldI a0 y1.1 y1.2.1 y1.2.2.1 y1.2.2.2.1 y1.2.2.2.2.1 y1.2.2.2.2.2.1 y1.2.2.2.2.2.2.1 y1.2.2.2.2.2.2.2.1 y1.2.2.2.2.2.2.2.2.1 y1.2.2.2.2.2.2.2.2.2.1 y1.2.2.2.2.2.2.2.2.2.2.1 y1.2.2.2.2.2.2.2.2.2.2.2.1 y1.2.2.2.2.2.2.2.2.2.2.2.2.1 y1.2.2.2.2.2.2.2.2.2.2.2.2.2)→(X03 (decide (y1.1<(ln a0.2.2.2.2.2.2.2.2.2.2.2.1))) (0≤y1.1∧(y1.1<(ln a0.2.2.2.2.2.2.2.2.2.2.2.1)∧(0≤y1.1∧(y1.1<(ln y1.2.2.2.2.2.2.2.2.2.2.2.2.2)∧(X03 (decide ((List.getD y1.2.2.2.2.2.2.2.2.2.2.2.2.2 (tN y1.1) 0)<(0:Int))) (Eq (false,((),())) ((X6C a0),((),()))) (0≤y1.1∧(y1.1<(ln y1.2.2.2.2.2.2.2.2.2.2.2.2.2)∧(X03 (decide ((List.getD a0.2.2.2.2.2.2.2.2.2.2.2.1 (tN y1.1) 0)≤(List.getD y1.2.2.2.2.2.2.2.2.2.2.2.2.2 (tN y1.1) 0))) (Eq (false,((),())) ((X6C a0),((),()))) (True∧∀r2,(Eq r2 ((X0t (y1.2.1,(y1.2.2.1,(y1.2.2.2.1,(y1.2.2.2.2.1,(y1.2.2.2.2.2.1,(y1.2.2.2.2.2.2.1,(y1.2.2.2.2.2.2.2.1,(y1.2.2.2.2.2.2.2.2.1,(y1.2.2.2.2.2.2.2.2.2.1,(y1.2.2.2.2.2.2.2.2.2.2.1,(y1.2.2.2.2.2.2.2.2.2.2.2.1,(y1.2.2.2.2.2.2.2.2.2.2.2.2.1,y1.2.2.2.2.2.2.2.2.2.2.2.2.2))))))))))))),((),())))→(X03 (decide ((List.getD a0.2.2.2.2.2.2.2.2.2.2.2.1 (tN y1.1) 0)>(wI (r2.1+(1:Int))))) (Eq (false,((),())) ((X6C a0),((),()))) (eS [(1,.box 2 0),(20,.val false [.lst (.int .i64) a0.2.2.2.2.2.2.2.2.2.2.2.1 none]),(21,.val false [.int .i64 (ln a0.2.2.2.2.2.2.2.2.2.2.2.1)])] [(1,.box 2 0),(20,.val false [.lst (.int .i64) a0.2.2.2.2.2.2.2.2.2.2.2.1 none]),(21,.val false [.int .i64 (ln a0.2.2.2.2.2.2.2.2.2.2.2.1)])]∧(ldI a0 (wI (y1.1+(1:Int))) y1.2.1 y1.2.2.1 y1.2.2.2.1 y1.2.2.2.2.1 y1.2.2.2.2.2.1 y1.2.2.2.2.2.2.1 y1.2.2.2.2.2.2.2.1 y1.2.2.2.2.2.2.2.2.1 y1.2.2.2.2.2.2.2.2.2.1 y1.2.2.2.2.2.2.2.2.2.2.1 y1.2.2.2.2.2.2.2.2.2.2.2.1 y1.2.2.2.2.2.2.2.2.2.2.2.2.1 y1.2.2.2.2.2.2.2.2.2.2.2.2.2)∧(ldM a0 (wI (y1.1+(1:Int))) y1.2.1 y1.2.2.1 y1.2.2.2.1 y1.2.2.2.2.1 y1.2.2.2.2.2.1 y1.2.2.2.2.2.2.1 y1.2.2.2.2.2.2.2.1 y1.2.2.2.2.2.2.2.2.1 y1.2.2.2.2.2.2.2.2.2.1 y1.2.2.2.2.2.2.2.2.2.2.1 y1.2.2.2.2.2.2.2.2.2.2.2.1 y1.2.2.2.2.2.2.2.2.2.2.2.2.1 y1.2.2.2.2.2.2.2.2.2.2.2.2.2)<(ldM a0 y1.1 y1.2.1 y1.2.2.1 y1.2.2.2.1 y1.2.2.2.2.1 y1.2.2.2.2.2.1 y1.2.2.2.2.2.2.1 y1.2.2.2.2.2.2.2.1 y1.2.2.2.2.2.2.2.2.1 y1.2.2.2.2.2.2.2.2.2.1 y1.2.2.2.2.2.2.2.2.2.2.1 y1.2.2.2.2.2.2.2.2.2.2.2.1 y1.2.2.2.2.2.2.2.2.2.2.2.2.1 y1.2.2.2.2.2.2.2.2.2.2.2.2.2)))))))))))) (0≤y1.2.1∧(y1.2.1<(ln y1.2.2.2.2.2.2.2.2.2.2.2.2.2)∧(True∧∀r3,(Eq r3 ((X0t (y1.2.1,(y1.2.2.1,(y1.2.2.2.1,(y1.2.2.2.2.1,(y1.2.2.2.2.2.1,(y1.2.2.2.2.2.2.1,(y1.2.2.2.2.2.2.2.1,(y1.2.2.2.2.2.2.2.2.1,(y1.2.2.2.2.2.2.2.2.2.1,(y1.2.2.2.2.2.2.2.2.2.2.1,(y1.2.2.2.2.2.2.2.2.2.2.2.1,(y1.2.2.2.2.2.2.2.2.2.2.2.2.1,y1.2.2.2.2.2.2.2.2.2.2.2.2.2))))))))))))),((),())))→(Eq (((List.getD y1.2.2.2.2.2.2.2.2.2.2.2.2.2 (tN y1.2.1) 0)==r3.1),((),())) ((X6C a0),((),())))))))))))
def X19.L(a0:U1q):Nat→Option X0l:=fun p=>Go.Proofs.Ytegmokdppbagiaa.Bv.look p [(58,{kp:={hold:=[1,20,21],slots:=[22],boxes:=[2],rows:=[]},T:=(.pair (.int .i64) T0q),I:=fun st y=>ldI a0 y.1 y.2.1 y.2.2.1 y.2.2.2.1 y.2.2.2.2.1 y.2.2.2.2.2.1 y.2.2.2.2.2.2.1 y.2.2.2.2.2.2.2.1 y.2.2.2.2.2.2.2.2.1 y.2.2.2.2.2.2.2.2.2.1 y.2.2.2.2.2.2.2.2.2.2.1 y.2.2.2.2.2.2.2.2.2.2.2.1 y.2.2.2.2.2.2.2.2.2.2.2.2.1 y.2.2.2.2.2.2.2.2.2.2.2.2.2,μ:=fun st y=>ldM a0 y.1 y.2.1 y.2.2.1 y.2.2.2.1 y.2.2.2.2.1 y.2.2.2.2.2.1 y.2.2.2.2.2.2.1 y.2.2.2.2.2.2.2.1 y.2.2.2.2.2.2.2.2.1 y.2.2.2.2.2.2.2.2.2.1 y.2.2.2.2.2.2.2.2.2.2.1 y.2.2.2.2.2.2.2.2.2.2.2.1 y.2.2.2.2.2.2.2.2.2.2.2.2.1 y.2.2.2.2.2.2.2.2.2.2.2.2.2})]
theorem X19.pure(a0:U1q)(h:(XeZ a0))(hw:Wf X4f.A a0):X19.F a0:=by
 delta X19.F ln tN wI eS
 obtain⟨⟨p0,p1,p2,p3⟩,p4,p5⟩:=h
 simp only[Bs,B0,B1,Prod.mk.injEq,X04,ldI,ldM,Prod.eta,X0t,X21]
 repeat' (with_reducible (first | (refine And.intro ?_ ?_) | intro _))
 all_goals (try simp (disch:=omega) only[w64,wu8,tn0,tn1,tm1,tm2,List.length_append,List.length_cons,List.length_nil]at*)
 all_goals (try simp (disch:=omega) only[w64,wu8,tn0,tn1,tm1,tm2,List.length_append,List.length_cons,List.length_nil]at*)
 all_goals (try omega)
 all_goals (try grind[X6C,Xgq,Xgn,Xg2,X0t])
theorem X19.eq:EqS X4f Try.f102 [4] [X14.e] [] (fun i x=>X19.L x) (fun i x=>X19.F x):=by intro i x;kernel_rfl
theorem X19.ok:X0I Try.prog 102 X4f:=X35 X19.eq Try.func102 rfl (by kernel_rfl) fun i x h hi hw=>X19.pure x h hw
def X19.e:GE:=⟨102,X4f,⟨_,Try.func102,rfl,rfl⟩,X19.ok⟩
end Go.Proofs.Ytegmokdppbagiaa.B
