/- Wals and cores:right or not. -/
import Derived.Test.YtakllifahpfmpaaCSum
set_option maxRecDepth 100000
set_option linter.unusedVariables false
set_option linter.unusedSimpArgs false
namespace Go.Proofs.Ytakllifahpfmpaa.B
open Go Go.Proofs.Ytakllifahpfmpaa.Bv
abbrev Ent:=Int×List UInt8
abbrev Wal:=Int×(Int×(Int×(Int×List Ent)))
abbrev X14:=Int×(Int×(Int×(Int×(Int×(Int×(Int×(Int×(List Ent×(Int×(List Int×(List Int×List Int)))))))))))
def X82(n:Int):Bool:=fIn n 1 100000
def X9I(n:Int):Bool:=fIn n (-1) 4
def X30(i t:Int):Bool:=(decide (i=0)&&decide (t=0))||(fIn i 1 100000&&fIn t 1 100000)
def tmOf(l:List Ent)(low:Int)(i:Nat):Int:=if i=0 then low else(l.getD (i - 1) (0,[])).1
def XhW(l:List Ent)(low high:Int)(i:Nat):Bool:=decide (1≤(l.getD i (0,[])).1)&&(fIn (l.getD i (0,[])).1 (tmOf l low i) high&&decide ((l.getD i (0,[])).2.length≤900))
def X3F(l:List Ent)(low high:Int):Bool:=(List.range l.length).all (XhW l low high)
theorem Xdm{l:List Ent}{low high:Int}(h:∀j,j<l.length→XhW l low high j=true):X3F l low high=true:=by
 simp only[X3F,List.all_eq_true,List.mem_range];exact h
theorem Xfs{l:List Ent}{low high:Int}{j:Nat}(hj:j<l.length)(h:XhW l low high j=false):X3F l low high=false:=by
 rw[Bool.eq_false_iff];intro hh
 simp only[X3F,List.all_eq_true,List.mem_range]at hh
 rw[hh j hj]at h;cases h
def X2k(w:Wal):Bool:=fIn w.1 0 100000&&(fIn w.2.1 (-1) 4&&(X30 w.2.2.1 w.2.2.2.1&&(decide (w.2.2.2.1≤w.1)&&(decide (w.2.2.2.2.length≤60)&&(X3F w.2.2.2.2 w.2.2.2.1 w.1&&decide (w.2.2.1+w.2.2.2.2.length≤100000))))))
def tkI(l:List Ent)(low0 high low i:Int):Prop:=0≤i∧i≤l.length∧low=tmOf l low0 i.toNat∧∀j,j<i.toNat→XhW l low0 high j=true
def tkM(l:List Ent)(low0 high low i:Int):Nat:=(l.length - i).toNat
def tsI(w:Wal)(last i:Int)(a0 a1 a2 a3:Int)(a4:List Ent):Prop:=((a0,(a1,(a2,(a3,a4)))):Wal)=w∧tkI w.2.2.2.2 w.2.2.2.1 w.1 last i
def tsM(w:Wal)(last i:Int)(a0 a1 a2 a3:Int)(a4:List Ent):Nat:=(w.2.2.2.2.length - i).toNat
def X6o(c:X14):Wal:=(c.2.2.1,(c.2.2.2.1,(c.2.2.2.2.2.2.1,(c.2.2.2.2.2.2.2.1,c.2.2.2.2.2.2.2.2.1))))
def X05(c:X14):Int:=IntKind.wrap .i64 (c.2.2.2.2.2.2.1+(c.2.2.2.2.2.2.2.2.1.length:Int))
def XeE(c:X14)(n:Int):Bool:=decide (IntKind.wrap .i64 (2*n)>c.2.1)
def X3j(c:X14)(n:Int):Bool:=fIn n 0 (IntKind.wrap .i64 (c.2.1 - 1))
theorem X9m{i t:Int}(h:X30 i t=true):0≤i∧i≤100000:=by
 simp[X30,fIn]at h;omega
def X4J:Con:={A:=(.int .i64),shA:=[.one],R:=.bool,shR:=[(false,1)],pre:=fun _ _=>True,f:=some fun _ a=>((X82 a),((),()))}
def X1U.F(a0:Int):Prop:=(True∧∀r1,(Eq r1 ((fIn a0 1 100000),((),())))→(Eq (r1.1,((),())) ((X82 a0),((),()))))
theorem X1U.pure(a0:Int)(h:True)(hw:Wf X4J.A a0):X1U.F a0:=by
 unfold X1U.F
 simp only[Bs,B0,B1,Prod.mk.injEq,X04]
 repeat' (with_reducible (first | (refine And.intro ?_ ?_) | intro _))
 all_goals (try simp (disch:=omega) only[w64,wu8,tn0,tn1,tm1,tm2,List.length_append,List.length_cons,List.length_nil]at*)
 all_goals (try simp (disch:=omega) only[w64,wu8,tn0,tn1,tm1,tm2,List.length_append,List.length_cons,List.length_nil]at*)
 all_goals (try omega)
 all_goals (try grind[X82])
theorem X1U.eq:EqS X4J Try.f70 [4] [X1v.e] [] noL (fun i x=>X1U.F x):=by intro i x;kernel_rfl
theorem X1U.ok:X0z Try.prog 70 X4J:=X2I X1U.eq Try.func70 rfl (by kernel_rfl) fun i x h hi hw=>X1U.pure x h hw
def X1U.e:GE:=⟨70,X4J,⟨_,Try.func70,rfl,rfl⟩,X1U.ok⟩
def X4y:Con:={A:=(.int .i64),shA:=[.one],R:=.bool,shR:=[(false,1)],pre:=fun _ _=>True,f:=some fun _ a=>((X9I a),((),()))}
def X1N.F(a0:Int):Prop:=(True∧∀r1,(Eq r1 ((fIn a0 (-1) 4),((),())))→(Eq (r1.1,((),())) ((X9I a0),((),()))))
theorem X1N.pure(a0:Int)(h:True)(hw:Wf X4y.A a0):X1N.F a0:=by
 unfold X1N.F
 simp only[Bs,B0,B1,Prod.mk.injEq,X04]
 repeat' (with_reducible (first | (refine And.intro ?_ ?_) | intro _))
 all_goals (try simp (disch:=omega) only[w64,wu8,tn0,tn1,tm1,tm2,List.length_append,List.length_cons,List.length_nil]at*)
 all_goals (try simp (disch:=omega) only[w64,wu8,tn0,tn1,tm1,tm2,List.length_append,List.length_cons,List.length_nil]at*)
 all_goals (try omega)
 all_goals (try grind[X9I])
theorem X1N.eq:EqS X4y Try.f63 [4] [X1v.e] [] noL (fun i x=>X1N.F x):=by intro i x;kernel_rfl
theorem X1N.ok:X0z Try.prog 63 X4y:=X2I X1N.eq Try.func63 rfl (by kernel_rfl) fun i x h hi hw=>X1N.pure x h hw
def X1N.e:GE:=⟨63,X4y,⟨_,Try.func63,rfl,rfl⟩,X1N.ok⟩
def X46:Con:={A:=XfX,shA:=[.one,.one],R:=.bool,shR:=[(false,1)],pre:=fun _ _=>True,f:=some fun _ a=>((X30 a.1 a.2),((),()))}
def X1w.F(a0:Int)(a1:Int):Prop:=(X02 (a0==(0:Int)) (X02 (a1==(0:Int)) (Eq (true,((),())) ((X30 a0 a1),((),()))) (True∧∀r1,(Eq r1 ((fIn a0 1 100000),((),())))→(X02 r1.1 (True∧∀r2,(Eq r2 ((X82 a1),((),())))→(Eq (r2.1,((),())) ((X30 a0 a1),((),())))) (Eq (false,((),())) ((X30 a0 a1),((),())))))) (True∧∀r3,(Eq r3 ((fIn a0 1 100000),((),())))→(X02 r3.1 (True∧∀r4,(Eq r4 ((X82 a1),((),())))→(Eq (r4.1,((),())) ((X30 a0 a1),((),())))) (Eq (false,((),())) ((X30 a0 a1),((),()))))))
theorem X1w.pure(a0:Int)(a1:Int)(h:True)(hw:Wf X46.A (a0,a1)):X1w.F a0 a1:=by
 unfold X1w.F
 simp only[Bs,B0,B1,Prod.mk.injEq,X04,X82]
 repeat' (with_reducible (first | (refine And.intro ?_ ?_) | intro _))
 all_goals (try simp (disch:=omega) only[w64,wu8,tn0,tn1,tm1,tm2,List.length_append,List.length_cons,List.length_nil]at*)
 all_goals (try simp (disch:=omega) only[w64,wu8,tn0,tn1,tm1,tm2,List.length_append,List.length_cons,List.length_nil]at*)
 all_goals (try omega)
 all_goals (try grind[X30])
theorem X1w.eq:EqS X46 Try.f64 [4] [X1v.e,X1U.e] [] noL (fun i x=>X1w.F x.1 x.2):=by intro i x;kernel_rfl
theorem X1w.ok:X0z Try.prog 64 X46:=X2I X1w.eq Try.func64 rfl (by kernel_rfl) fun i x h hi hw=>X1w.pure x.1 x.2 h hw
def X1w.e:GE:=⟨64,X46,⟨_,Try.func64,rfl,rfl⟩,X1w.ok⟩
def X4e:Con:={A:=XfX,shA:=[.one,.one],R:=.bool,shR:=[(false,1)],pre:=fun _ _=>True,f:=some fun _ a=>((X30 a.1 a.2),((),()))}
def X1p.F(a0:Int)(a1:Int):Prop:=(X02 (a0==(0:Int)) (Eq ((a1==(0:Int)),((),())) ((X30 a0 a1),((),()))) (True∧∀r1,(Eq r1 ((fIn a0 1 100000),((),())))→(X02 r1.1 (True∧∀r2,(Eq r2 ((fIn a1 1 100000),((),())))→(Eq (r2.1,((),())) ((X30 a0 a1),((),())))) (Eq (false,((),())) ((X30 a0 a1),((),()))))))
theorem X1p.pure(a0:Int)(a1:Int)(h:True)(hw:Wf X4e.A (a0,a1)):X1p.F a0 a1:=by
 unfold X1p.F
 simp only[Bs,B0,B1,Prod.mk.injEq,X04]
 repeat' (with_reducible (first | (refine And.intro ?_ ?_) | intro _))
 all_goals (try simp (disch:=omega) only[w64,wu8,tn0,tn1,tm1,tm2,List.length_append,List.length_cons,List.length_nil]at*)
 all_goals (try simp (disch:=omega) only[w64,wu8,tn0,tn1,tm1,tm2,List.length_append,List.length_cons,List.length_nil]at*)
 all_goals (try omega)
 all_goals (try grind[X30,X2W])
theorem X1p.eq:EqS X4e Try.f60 [4] [X2m.e] [] noL (fun i x=>X1p.F x.1 x.2):=by intro i x;kernel_rfl
theorem X1p.ok:X0z Try.prog 60 X4e:=X2I X1p.eq Try.func60 rfl (by kernel_rfl) fun i x h hi hw=>X1p.pure x.1 x.2 h hw
def X1p.e:GE:=⟨60,X4e,⟨_,Try.func60,rfl,rfl⟩,X1p.ok⟩
def X4j:Con:={A:=(.pair (.list T5q) XfX),shA:=[.one,.one,.one],R:=.bool,shR:=[(false,1)],pre:=fun _ _=>True,f:=some fun _ a=>((X3F a.1 a.2.1 a.2.2),((),()))}
def X0W.F(a0:(List U4q))(a1:Int)(a2:Int):Prop:=(eS [(2,.val false [.int .i64 a2]),(9,.val false [.lst T5q a0 none]),(10,.val false [.int .i64 (ln a0)])] [(2,.val false [.int .i64 a2]),(9,.val false [.lst T5q a0 none]),(10,.val false [.int .i64 (ln a0)])]∧((tkI a0 a1 a2 a1 0)∧∀(y1:(Int×Int)),(tkI a0 a1 a2 y1.1 y1.2)→(X02 (decide (y1.2<(ln a0))) (0≤y1.2∧(y1.2<(ln a0)∧(X02 (decide (((List.getD a0 (tN y1.2) (0,[])).1)<(1:Int))) (Eq (false,((),())) ((X3F a0 a1 a2),((),()))) (True∧∀r2,(Eq r2 ((fIn ((List.getD a0 (tN y1.2) (0,[])).1) y1.1 a2),((),())))→(X02 (!r2.1) (Eq (false,((),())) ((X3F a0 a1 a2),((),()))) (X02 (decide ((ln ((List.getD a0 (tN y1.2) (0,[])).2))>(900:Int))) (Eq (false,((),())) ((X3F a0 a1 a2),((),()))) (eS [(2,.val false [.int .i64 a2]),(9,.val false [.lst T5q a0 none]),(10,.val false [.int .i64 (ln a0)])] [(2,.val false [.int .i64 a2]),(9,.val false [.lst T5q a0 none]),(10,.val false [.int .i64 (ln a0)])]∧(tkI a0 a1 a2 ((List.getD a0 (tN y1.2) (0,[])).1) (wI (y1.2+(1:Int))))∧(tkM a0 a1 a2 ((List.getD a0 (tN y1.2) (0,[])).1) (wI (y1.2+(1:Int))))<(tkM a0 a1 a2 y1.1 y1.2)))))))) (Eq (true,((),())) ((X3F a0 a1 a2),((),()))))))
def X0W.L(a0:(List U4q))(a1:Int)(a2:Int):Nat→Option X0w:=fun p=>Go.Proofs.Ytakllifahpfmpaa.Bv.look p [(26,{kp:={hold:=[2,9,10],slots:=[1,11],boxes:=[],rows:=[]},T:=XfX,I:=fun st y=>tkI a0 a1 a2 y.1 y.2,μ:=fun st y=>tkM a0 a1 a2 y.1 y.2})]
theorem X0W.pure(a0:(List U4q))(a1:Int)(a2:Int)(h:True)(hw:Wf X4j.A (a0,a1,a2)):X0W.F a0 a1 a2:=by
 delta X0W.F ln tN wI eS
 have hw1:a0.length≤9223372036854775807:=hw.1.1
 simp only[Bs,B0,B1,Prod.mk.injEq,X04,tkI,tkM,X2W,Xit]
 repeat' (with_reducible (first | (refine And.intro ?_ ?_) | intro _))
 all_goals (try simp (disch:=omega) only[w64,wu8,tn0,tn1,tm1,tm2,List.length_append,List.length_cons,List.length_nil]at*)
 all_goals (try simp (disch:=omega) only[w64,wu8,tn0,tn1,tm1,tm2,List.length_append,List.length_cons,List.length_nil]at*)
 all_goals (try omega)
 all_goals (try grind[Xdm,Xfs,XhW,tmOf,X2W])
theorem X0W.eq:EqS X4j Try.f65 [4] [X1v.e] [] (fun i x=>X0W.L x.1 x.2.1 x.2.2) (fun i x=>X0W.F x.1 x.2.1 x.2.2):=by intro i x;kernel_rfl
theorem X0W.ok:X0z Try.prog 65 X4j:=X2I X0W.eq Try.func65 rfl (by kernel_rfl) fun i x h hi hw=>X0W.pure x.1 x.2.1 x.2.2 h hw
def X0W.e:GE:=⟨65,X4j,⟨_,Try.func65,rfl,rfl⟩,X0W.ok⟩
def X5f:Con:={A:=Xid,shA:=[.agg 5],R:=.bool,shR:=[(false,1)],pre:=fun _ _=>True,f:=some fun _ a=>((X2k a),((),()))}
def X2c.F(a0:(Int×(Int×(Int×(Int×(List U4q)))))):Prop:=(True∧∀r1,(Eq r1 ((fIn a0.1 0 100000),((),())))→(X02 r1.1 (True∧∀r2,(Eq r2 ((X9I a0.2.1),((),())))→(X02 r2.1 (True∧∀r3,(Eq r3 ((X30 a0.2.2.1 a0.2.2.2.1),((),())))→(X02 r3.1 (X02 (decide (a0.2.2.2.1≤a0.1)) (X02 (decide ((ln a0.2.2.2.2)≤(60:Int))) (True∧∀r4,(Eq r4 ((X3F a0.2.2.2.2 a0.2.2.2.1 a0.1),((),())))→(X02 r4.1 (Eq ((decide ((wI (a0.2.2.1+(ln a0.2.2.2.2)))≤(100000:Int))),((),())) ((X2k a0),((),()))) (Eq (false,((),())) ((X2k a0),((),()))))) (Eq (false,((),())) ((X2k a0),((),())))) (Eq (false,((),())) ((X2k a0),((),())))) (Eq (false,((),())) ((X2k a0),((),()))))) (Eq (false,((),())) ((X2k a0),((),()))))) (Eq (false,((),())) ((X2k a0),((),())))))
theorem X2c.pure(a0:(Int×(Int×(Int×(Int×(List U4q))))))(h:True)(hw:Wf X5f.A a0):X2c.F a0:=by
 delta X2c.F ln wI
 have hB:X30 a0.2.2.1 a0.2.2.2.1=true→(a0.2.2.2.2.length:Int)≤60→IntKind.wrap .i64 (a0.2.2.1+(a0.2.2.2.2.length:Int))=a0.2.2.1+(a0.2.2.2.2.length:Int):=fun h1 h2=>by
  have:=X9m h1
  exact w64 (by omega) (by omega)
 simp only[Bs,B0,B1,Prod.mk.injEq,X04,X9I]
 repeat' (with_reducible (first | (refine And.intro ?_ ?_) | intro _))
 all_goals (try simp (disch:=omega) only[w64,wu8,tn0,tn1,tm1,tm2,List.length_append,List.length_cons,List.length_nil]at*)
 all_goals (try simp (disch:=omega) only[w64,wu8,tn0,tn1,tm1,tm2,List.length_append,List.length_cons,List.length_nil]at*)
 all_goals (try omega)
 all_goals (try grind[X2k,X30,X2W])
theorem X2c.eq:EqS X5f Try.f50 [4] [X1v.e,X1N.e,X1w.e,X0W.e] [] noL (fun i x=>X2c.F x):=by intro i x;kernel_rfl
theorem X2c.ok:X0z Try.prog 50 X5f:=X2I X2c.eq Try.func50 rfl (by kernel_rfl) fun i x h hi hw=>X2c.pure x h hw
def X2c.e:GE:=⟨50,X5f,⟨_,Try.func50,rfl,rfl⟩,X2c.ok⟩
def X5g:Con:={A:=Xid,shA:=[.agg 5],R:=.bool,shR:=[(false,1)],pre:=fun _ _=>True,f:=some fun _ a=>((X2k a),((),()))}
def X1I.F(a0:(Int×(Int×(Int×(Int×(List U4q)))))):Prop:=(True∧∀r1,(Eq r1 ((fIn a0.1 0 100000),((),())))→(X02 (!r1.1) (Eq (false,((),())) ((X2k a0),((),()))) (True∧∀r2,(Eq r2 ((fIn a0.2.1 (-1) 4),((),())))→(X02 (!r2.1) (Eq (false,((),())) ((X2k a0),((),()))) (True∧∀r3,(Eq r3 ((X30 a0.2.2.1 a0.2.2.2.1),((),())))→(X02 (!r3.1) (Eq (false,((),())) ((X2k a0),((),()))) (X02 (decide (a0.2.2.2.1>a0.1)) (Eq (false,((),())) ((X2k a0),((),()))) (X02 (decide ((ln a0.2.2.2.2)>(60:Int))) (Eq (false,((),())) ((X2k a0),((),()))) (X02 (decide ((wI (a0.2.2.1+(ln a0.2.2.2.2)))>(100000:Int))) (Eq (false,((),())) ((X2k a0),((),()))) (eS [(1,.box 2 0)] [(1,.box 2 0)]∧((tsI a0 a0.2.2.2.1 0 a0.1 a0.2.1 a0.2.2.1 a0.2.2.2.1 a0.2.2.2.2)∧∀(y4:(Int×(Int×(Int×(Int×(Int×(Int×(List U4q)))))))),(tsI a0 y4.1 y4.2.1 y4.2.2.1 y4.2.2.2.1 y4.2.2.2.2.1 y4.2.2.2.2.2.1 y4.2.2.2.2.2.2)→(X02 (decide (y4.2.1<(ln y4.2.2.2.2.2.2))) (0≤y4.2.1∧(y4.2.1<(ln y4.2.2.2.2.2.2)∧(X02 (decide (((List.getD y4.2.2.2.2.2.2 (tN y4.2.1) (0,[])).1)<(1:Int))) (Eq (false,((),())) ((X2k a0),((),()))) (X02 (decide (((List.getD y4.2.2.2.2.2.2 (tN y4.2.1) (0,[])).1)<y4.1)) (Eq (false,((),())) ((X2k a0),((),()))) (X02 (decide (((List.getD y4.2.2.2.2.2.2 (tN y4.2.1) (0,[])).1)>y4.2.2.1)) (Eq (false,((),())) ((X2k a0),((),()))) (X02 (decide ((ln ((List.getD y4.2.2.2.2.2.2 (tN y4.2.1) (0,[])).2))>(900:Int))) (Eq (false,((),())) ((X2k a0),((),()))) (eS [(1,.box 2 0)] [(1,.box 2 0)]∧(tsI a0 ((List.getD y4.2.2.2.2.2.2 (tN y4.2.1) (0,[])).1) (wI (y4.2.1+(1:Int))) y4.2.2.1 y4.2.2.2.1 y4.2.2.2.2.1 y4.2.2.2.2.2.1 y4.2.2.2.2.2.2)∧(tsM a0 ((List.getD y4.2.2.2.2.2.2 (tN y4.2.1) (0,[])).1) (wI (y4.2.1+(1:Int))) y4.2.2.1 y4.2.2.2.1 y4.2.2.2.2.1 y4.2.2.2.2.2.1 y4.2.2.2.2.2.2)<(tsM a0 y4.1 y4.2.1 y4.2.2.1 y4.2.2.2.1 y4.2.2.2.2.1 y4.2.2.2.2.2.1 y4.2.2.2.2.2.2)))))))) (Eq (true,((),())) ((X2k a0),((),())))))))))))))))
def X1I.L(a0:(Int×(Int×(Int×(Int×(List U4q)))))):Nat→Option X0w:=fun p=>Go.Proofs.Ytakllifahpfmpaa.Bv.look p [(122,{kp:={hold:=[1],slots:=[3,4],boxes:=[2],rows:=[]},T:=(.pair (.int .i64) (.pair (.int .i64) Xid)),I:=fun st y=>tsI a0 y.1 y.2.1 y.2.2.1 y.2.2.2.1 y.2.2.2.2.1 y.2.2.2.2.2.1 y.2.2.2.2.2.2,μ:=fun st y=>tsM a0 y.1 y.2.1 y.2.2.1 y.2.2.2.1 y.2.2.2.2.1 y.2.2.2.2.2.1 y.2.2.2.2.2.2})]
theorem X1I.pure(a0:(Int×(Int×(Int×(Int×(List U4q))))))(h:True)(hw:Wf X5g.A a0):X1I.F a0:=by
 delta X1I.F ln tN wI eS
 have hB:X30 a0.2.2.1 a0.2.2.2.1=true→(a0.2.2.2.2.length:Int)≤60→IntKind.wrap .i64 (a0.2.2.1+(a0.2.2.2.2.length:Int))=a0.2.2.1+(a0.2.2.2.2.length:Int):=fun h1 h2=>by
  have:=X9m h1
  exact w64 (by omega) (by omega)
 simp only[Bs,B0,B1,Prod.mk.injEq,X04,tsI,tsM,tkI,Prod.eta]
 repeat' (with_reducible (first | (refine And.intro ?_ ?_) | intro _))
 all_goals (try simp (disch:=omega) only[w64,wu8,tn0,tn1,tm1,tm2,List.length_append,List.length_cons,List.length_nil]at*)
 all_goals (try simp (disch:=omega) only[w64,wu8,tn0,tn1,tm1,tm2,List.length_append,List.length_cons,List.length_nil]at*)
 all_goals (try omega)
 all_goals (try grind[X2k,Xdm,Xfs,XhW,tmOf,X30,X2W])
theorem X1I.eq:EqS X5g Try.f42 [4] [X2m.e,X1p.e] [] (fun i x=>X1I.L x) (fun i x=>X1I.F x):=by intro i x;kernel_rfl
theorem X1I.ok:X0z Try.prog 42 X5g:=X2I X1I.eq Try.func42 rfl (by kernel_rfl) fun i x h hi hw=>X1I.pure x h hw
def X1I.e:GE:=⟨42,X5g,⟨_,Try.func42,rfl,rfl⟩,X1I.ok⟩
def Xgu(l:List Int)(x:Int):Int:=match (List.range l.length).find? (fun j=>l.getD j 0==x) with
 | some j=>(j:Int)
 | none=>-1
theorem XdH{l:List Int}{x:Int}{j:Nat}(hj:j<l.length)(h:x=l.getD j 0)(hn:∀i,i<j→l.getD i 0≠x):Xgu l x=(j:Int):=by
 unfold Xgu
 have e:(List.range l.length).find? (fun j=>l.getD j 0==x)=some j:=(List.find?_range_eq_some (p:=fun j=>l.getD j 0==x)).2 ⟨by rw[h];exact beq_self_eq_true _,by simpa using hj,fun i hi=>by simpa using hn i hi⟩
 rw[e]
theorem Xdo{l:List Int}{x:Int}(hn:∀i,i<l.length→l.getD i 0≠x):Xgu l x= -1:=by
 unfold Xgu
 rw[List.find?_eq_none.2 fun i hi=>by simpa using hn i (by simpa using hi)]
def Xdy(l:List Int)(x:Int):Bool:=decide (Xgu l x≥0)
theorem Xil{l:List Int}{x:Int}{j:Nat}(hj:j<l.length)(h:l.getD j 0=x)(hn:∀i,i<j→l.getD i 0≠x):Xdy l x=true:=by
 unfold Xdy;rw[XdH hj h.symm hn,decide_eq_true (by omega)]
theorem Xio{l:List Int}{x:Int}(hn:∀i,i<l.length→l.getD i 0≠x):Xdy l x=false:=by
 unfold Xdy;rw[Xdo hn];rfl
def Xg0(l:List Int)(x i:Int):Prop:=0≤i∧i≤l.length∧∀j,j<i.toNat→l.getD j 0≠x
def Xh6(l:List Int)(x i:Int):Nat:=(l.length - i).toNat
def Xib(c:X14)(j:Nat):Bool:=fIn (c.2.2.2.2.2.2.2.2.2.2.1.getD j 0) 0 (IntKind.wrap .i64 (c.2.1 - 1))&&(decide (j=0)||decide (c.2.2.2.2.2.2.2.2.2.2.1.getD (j - 1) 0<c.2.2.2.2.2.2.2.2.2.2.1.getD j 0))
def X8Q(c:X14):Bool:=(List.range c.2.2.2.2.2.2.2.2.2.2.1.length).all (Xib c)&&(Xdy c.2.2.2.2.2.2.2.2.2.2.1 c.1&&!decide (IntKind.wrap .i64 (2*(c.2.2.2.2.2.2.2.2.2.2.1.length:Int))>c.2.1))
def skI(c:X14)(i:Int)(a0 a1 a2 a3 a4 a5 a6 a7:Int)(a8:List Ent)(a9:Int)(a10 a11 a12:List Int):Prop:=(((a0,(a1,(a2,(a3,(a4,(a5,(a6,(a7,(a8,(a9,(a10,(a11,a12)))))))))))):X14)=c)∧0≤i∧i≤c.2.2.2.2.2.2.2.2.2.2.1.length∧∀j,j<i.toNat→Xib c j=true
def skM(c:X14)(i:Int)(a0 a1 a2 a3 a4 a5 a6 a7:Int)(a8:List Ent)(a9:Int)(a10 a11 a12:List Int):Nat:=(c.2.2.2.2.2.2.2.2.2.2.1.length - i).toNat
def XhS(c:X14)(j:Nat):Bool:=decide (0≤c.2.2.2.2.2.2.2.2.2.2.2.2.getD j 0)&&(decide (c.2.2.2.2.2.2.2.2.2.2.2.2.getD j 0<c.2.2.2.2.2.2.2.2.2.2.2.1.getD j 0)&&decide (c.2.2.2.2.2.2.2.2.2.2.2.1.getD j 0≤IntKind.wrap .i64 (X05 c+1)))
def X7d(c:X14):Bool:=decide ((c.2.2.2.2.2.2.2.2.2.2.2.1.length:Int)=c.2.1)&&(decide ((c.2.2.2.2.2.2.2.2.2.2.2.2.length:Int)=c.2.1)&&((List.range c.2.2.2.2.2.2.2.2.2.2.2.1.length).all (XhS c)&&decide (c.2.2.2.2.2.2.2.2.2.2.2.2.getD c.1.toNat 0=X05 c)))
def X2P(c:X14):Prop:=c.2.2.2.2.2.2.2.2.1.length≤1099511627776∧c.2.2.2.2.2.2.2.2.2.2.1.length≤1099511627776∧c.2.2.2.2.2.2.2.2.2.2.2.1.length≤1099511627776∧c.2.2.2.2.2.2.2.2.2.2.2.2.length≤1099511627776
def Xge(c:X14):Prop:=X2P c∧0≤c.1∧c.1<c.2.1
def ldI(c:X14)(i:Int)(a0 a1 a2 a3 a4 a5 a6 a7:Int)(a8:List Ent)(a9:Int)(a10 a11 a12:List Int):Prop:=(((a0,(a1,(a2,(a3,(a4,(a5,(a6,(a7,(a8,(a9,(a10,(a11,a12)))))))))))):X14)=c)∧0≤i∧i≤c.2.2.2.2.2.2.2.2.2.2.2.1.length∧∀j,j<i.toNat→XhS c j=true
def ldM(c:X14)(i:Int)(a0 a1 a2 a3 a4 a5 a6 a7:Int)(a8:List Ent)(a9:Int)(a10 a11 a12:List Int):Nat:=(c.2.2.2.2.2.2.2.2.2.2.2.1.length - i).toNat
theorem XhA{p:Nat→Bool}{n:Nat}(h:∀j,j<n→p j=true):(List.range n).all p=true:=by
 simp only[List.all_eq_true,List.mem_range];exact h
theorem Xhj{p:Nat→Bool}{n j:Nat}(hj:j<n)(h:p j=false):(List.range n).all p=false:=by
 rw[Bool.eq_false_iff];intro hh
 simp only[List.all_eq_true,List.mem_range]at hh
 rw[hh j hj]at h;cases h
def X1Z:Con:={A:=(.pair T8q (.int .i64)),shA:=[.one,.one],R:=(.int .i64),shR:=[(false,1)],pre:=fun _ _=>True,f:=some fun _ a=>((Xgu a.1 a.2),((),()))}
def X0d.F(a0:(List Int))(a1:Int):Prop:=(eS [(0,.val false [.lst (.int .i64) a0 none]),(1,.val false [.int .i64 a1]),(7,.val false [.int .i64 (ln a0)])] [(0,.val false [.lst (.int .i64) a0 none]),(1,.val false [.int .i64 a1]),(7,.val false [.int .i64 (ln a0)])]∧((Xg0 a0 a1 0)∧∀(y1:Int),(Xg0 a0 a1 y1)→(X02 (decide (y1<(ln a0))) (0≤y1∧(y1<(ln a0)∧(X02 (a1==(List.getD a0 (tN y1) 0)) (Eq (y1,((),())) ((Xgu a0 a1),((),()))) (eS [(0,.val false [.lst (.int .i64) a0 none]),(1,.val false [.int .i64 a1]),(7,.val false [.int .i64 (ln a0)])] [(0,.val false [.lst (.int .i64) a0 none]),(1,.val false [.int .i64 a1]),(7,.val false [.int .i64 (ln a0)])]∧(Xg0 a0 a1 (wI (y1+(1:Int))))∧(Xh6 a0 a1 (wI (y1+(1:Int))))<(Xh6 a0 a1 y1))))) (Eq ((-1),((),())) ((Xgu a0 a1),((),()))))))
def X0d.L(a0:(List Int))(a1:Int):Nat→Option X0w:=fun p=>Go.Proofs.Ytakllifahpfmpaa.Bv.look p [(26,{kp:={hold:=[0,1,7],slots:=[8],boxes:=[],rows:=[]},T:=(.int .i64),I:=fun st y=>Xg0 a0 a1 y,μ:=fun st y=>Xh6 a0 a1 y})]
theorem X0d.pure(a0:(List Int))(a1:Int)(h:True)(hw:Wf X1Z.A (a0,a1)):X0d.F a0 a1:=by
 delta X0d.F ln tN wI eS
 have hw1:a0.length≤9223372036854775807:=hw.1.1
 simp only[Bs,B0,B1,Prod.mk.injEq,X04,Xg0,Xh6]
 repeat' (with_reducible (first | (refine And.intro ?_ ?_) | intro _))
 all_goals (try simp (disch:=omega) only[w64,wu8,tn0,tn1,tm1,tm2,List.length_append,List.length_cons,List.length_nil]at*)
 all_goals (try simp (disch:=omega) only[w64,wu8,tn0,tn1,tm1,tm2,List.length_append,List.length_cons,List.length_nil]at*)
 all_goals (try omega)
 all_goals (try grind[XdH,Xdo])
theorem X0d.eq:EqS X1Z Try.f71 [3] [] [] (fun i x=>X0d.L x.1 x.2) (fun i x=>X0d.F x.1 x.2):=by intro i x;kernel_rfl
theorem X0d.ok:X0z Try.prog 71 X1Z:=X2I X0d.eq Try.func71 rfl (by kernel_rfl) fun i x h hi hw=>X0d.pure x.1 x.2 h hw
def X0d.e:GE:=⟨71,X1Z,⟨_,Try.func71,rfl,rfl⟩,X0d.ok⟩
def X1o:Con:={A:=(.pair T8q (.int .i64)),shA:=[.one,.one],R:=.bool,shR:=[(false,1)],pre:=fun _ _=>True,f:=some fun _ a=>((Xdy a.1 a.2),((),()))}
def X0c.F(a0:(List Int))(a1:Int):Prop:=(True∧∀r1,(Eq r1 ((Xgu a0 a1),((),())))→(Eq ((decide (r1.1≥(0:Int))),((),())) ((Xdy a0 a1),((),()))))
theorem X0c.pure(a0:(List Int))(a1:Int)(h:True)(hw:Wf X1o.A (a0,a1)):X0c.F a0 a1:=by
 unfold X0c.F
 simp only[Bs,B0,B1,Prod.mk.injEq,X04]
 repeat' (with_reducible (first | (refine And.intro ?_ ?_) | intro _))
 all_goals (try simp (disch:=omega) only[w64,wu8,tn0,tn1,tm1,tm2,List.length_append,List.length_cons,List.length_nil]at*)
 all_goals (try simp (disch:=omega) only[w64,wu8,tn0,tn1,tm1,tm2,List.length_append,List.length_cons,List.length_nil]at*)
 all_goals (try omega)
 all_goals (try grind[Xdy])
theorem X0c.eq:EqS X1o Try.f66 [4] [X0d.e] [] noL (fun i x=>X0c.F x.1 x.2):=by intro i x;kernel_rfl
theorem X0c.ok:X0z Try.prog 66 X1o:=X2I X0c.eq Try.func66 rfl (by kernel_rfl) fun i x h hi hw=>X0c.pure x.1 x.2 h hw
def X0c.e:GE:=⟨66,X1o,⟨_,Try.func66,rfl,rfl⟩,X0c.ok⟩
def X5m:Con:={A:=(.pair T8q (.int .i64)),shA:=[.one,.one],R:=.bool,shR:=[(false,1)],pre:=fun _ _=>True,f:=some fun _ a=>((Xdy a.1 a.2),((),()))}
def X1K.F(a0:(List Int))(a1:Int):Prop:=(eS [(0,.val false [.lst (.int .i64) a0 none]),(1,.val false [.int .i64 a1])] [(0,.val false [.lst (.int .i64) a0 none]),(1,.val false [.int .i64 a1])]∧((Xg0 a0 a1 0)∧∀(y1:Int),(Xg0 a0 a1 y1)→(X02 (decide (y1<(ln a0))) (0≤y1∧(y1<(ln a0)∧(X02 ((List.getD a0 (tN y1) 0)==a1) (Eq (true,((),())) ((Xdy a0 a1),((),()))) (eS [(0,.val false [.lst (.int .i64) a0 none]),(1,.val false [.int .i64 a1])] [(0,.val false [.lst (.int .i64) a0 none]),(1,.val false [.int .i64 a1])]∧(Xg0 a0 a1 (wI (y1+(1:Int))))∧(Xh6 a0 a1 (wI (y1+(1:Int))))<(Xh6 a0 a1 y1))))) (Eq (false,((),())) ((Xdy a0 a1),((),()))))))
def X1K.L(a0:(List Int))(a1:Int):Nat→Option X0w:=fun p=>Go.Proofs.Ytakllifahpfmpaa.Bv.look p [(26,{kp:={hold:=[0,1],slots:=[5],boxes:=[],rows:=[]},T:=(.int .i64),I:=fun st y=>Xg0 a0 a1 y,μ:=fun st y=>Xh6 a0 a1 y})]
theorem X1K.pure(a0:(List Int))(a1:Int)(h:True)(hw:Wf X5m.A (a0,a1)):X1K.F a0 a1:=by
 delta X1K.F ln tN wI eS
 have hw1:a0.length≤9223372036854775807:=hw.1.1
 simp only[Bs,B0,B1,Prod.mk.injEq,X04,Xg0,Xh6]
 repeat' (with_reducible (first | (refine And.intro ?_ ?_) | intro _))
 all_goals (try simp (disch:=omega) only[w64,wu8,tn0,tn1,tm1,tm2,List.length_append,List.length_cons,List.length_nil]at*)
 all_goals (try simp (disch:=omega) only[w64,wu8,tn0,tn1,tm1,tm2,List.length_append,List.length_cons,List.length_nil]at*)
 all_goals (try omega)
 all_goals (try grind[Xil,Xio])
theorem X1K.eq:EqS X5m Try.f44 [4] [] [] (fun i x=>X1K.L x.1 x.2) (fun i x=>X1K.F x.1 x.2):=by intro i x;kernel_rfl
theorem X1K.ok:X0z Try.prog 44 X5m:=X2I X1K.eq Try.func44 rfl (by kernel_rfl) fun i x h hi hw=>X1K.pure x.1 x.2 h hw
def X1K.e:GE:=⟨44,X5m,⟨_,Try.func44,rfl,rfl⟩,X1K.ok⟩
def X4g:Con:={A:=T0q,shA:=[.ptr 13],R:=(.int .i64),shR:=[(false,1)],pre:=fun _ _=>True,f:=some fun _ a=>((X05 a),((),()))}
def X0x.F(a0:U1q):Prop:=(Eq ((wI (a0.2.2.2.2.2.2.1+(ln a0.2.2.2.2.2.2.2.2.1))),((),())) ((X05 a0),((),())))
theorem X0x.pure(a0:U1q)(h:True)(hw:Wf X4g.A a0):X0x.F a0:=by
 delta X0x.F ln wI
 simp only[Bs,B0,B1,Prod.mk.injEq,X04,Prod.eta,X05]
 repeat' (with_reducible (first | (refine And.intro ?_ ?_) | intro _))
 all_goals (try simp (disch:=omega) only[w64,wu8,tn0,tn1,tm1,tm2,List.length_append,List.length_cons,List.length_nil]at*)
 all_goals (try simp (disch:=omega) only[w64,wu8,tn0,tn1,tm1,tm2,List.length_append,List.length_cons,List.length_nil]at*)
 all_goals (try omega)
 all_goals (try grind[])
theorem X0x.eq:EqS X4g Try.f30 [3] [] [] noL (fun i x=>X0x.F x):=by intro i x;kernel_rfl
theorem X0x.ok:X0z Try.prog 30 X4g:=X2I X0x.eq Try.func30 rfl (by kernel_rfl) fun i x h hi hw=>X0x.pure x h hw
def X0x.e:GE:=⟨30,X4g,⟨_,Try.func30,rfl,rfl⟩,X0x.ok⟩
def X2H:Con:={A:=(.pair T0q (.int .i64)),shA:=[.ptr 13,.one],R:=.bool,shR:=[(false,1)],pre:=fun _ _=>True,f:=some fun _ a=>((XeE a.1 a.2),((),()))}
def X0j.F(a0:U1q)(a1:Int):Prop:=(Eq ((decide ((wI ((2:Int)*a1))>a0.2.1)),((),())) ((XeE a0 a1),((),())))
theorem X0j.pure(a0:U1q)(a1:Int)(h:True)(hw:Wf X2H.A (a0,a1)):X0j.F a0 a1:=by
 delta X0j.F wI
 simp only[Bs,B0,B1,Prod.mk.injEq,X04,Prod.eta,XeE]
 repeat' (with_reducible (first | (refine And.intro ?_ ?_) | intro _))
 all_goals (try simp (disch:=omega) only[w64,wu8,tn0,tn1,tm1,tm2,List.length_append,List.length_cons,List.length_nil]at*)
 all_goals (try simp (disch:=omega) only[w64,wu8,tn0,tn1,tm1,tm2,List.length_append,List.length_cons,List.length_nil]at*)
 all_goals (try omega)
 all_goals (try grind[])
theorem X0j.eq:EqS X2H Try.f25 [4] [] [] noL (fun i x=>X0j.F x.1 x.2):=by intro i x;kernel_rfl
theorem X0j.ok:X0z Try.prog 25 X2H:=X2I X0j.eq Try.func25 rfl (by kernel_rfl) fun i x h hi hw=>X0j.pure x.1 x.2 h hw
def X0j.e:GE:=⟨25,X2H,⟨_,Try.func25,rfl,rfl⟩,X0j.ok⟩
def X4f:Con:={A:=T0q,shA:=[.agg 13],R:=(.int .i64),shR:=[(false,1)],pre:=fun _ _=>True,f:=some fun _ a=>((X05 a),((),()))}
def X0E.F(a0:U1q):Prop:=(Eq ((wI (a0.2.2.2.2.2.2.1+(ln a0.2.2.2.2.2.2.2.2.1))),((),())) ((X05 a0),((),())))
theorem X0E.pure(a0:U1q)(h:True)(hw:Wf X4f.A a0):X0E.F a0:=by
 delta X0E.F ln wI
 simp only[Bs,B0,B1,Prod.mk.injEq,X04,Prod.eta,X05]
 repeat' (with_reducible (first | (refine And.intro ?_ ?_) | intro _))
 all_goals (try simp (disch:=omega) only[w64,wu8,tn0,tn1,tm1,tm2,List.length_append,List.length_cons,List.length_nil]at*)
 all_goals (try simp (disch:=omega) only[w64,wu8,tn0,tn1,tm1,tm2,List.length_append,List.length_cons,List.length_nil]at*)
 all_goals (try omega)
 all_goals (try grind[])
theorem X0E.eq:EqS X4f Try.f19 [3] [] [] noL (fun i x=>X0E.F x):=by intro i x;kernel_rfl
theorem X0E.ok:X0z Try.prog 19 X4f:=X2I X0E.eq Try.func19 rfl (by kernel_rfl) fun i x h hi hw=>X0E.pure x h hw
def X0E.e:GE:=⟨19,X4f,⟨_,Try.func19,rfl,rfl⟩,X0E.ok⟩
def X4C:Con:={A:=(.pair T0q (.int .i64)),shA:=[.agg 13,.one],R:=.bool,shR:=[(false,1)],pre:=fun _ _=>True,f:=some fun _ a=>((X3j a.1 a.2),((),()))}
def X1B.F(a0:U1q)(a1:Int):Prop:=(True∧∀r1,(Eq r1 ((fIn a1 0 (wI (a0.2.1 - (1:Int)))),((),())))→(Eq (r1.1,((),())) ((X3j a0 a1),((),()))))
theorem X1B.pure(a0:U1q)(a1:Int)(h:True)(hw:Wf X4C.A (a0,a1)):X1B.F a0 a1:=by
 delta X1B.F wI
 simp only[Bs,B0,B1,Prod.mk.injEq,X04,Prod.eta,X3j]
 repeat' (with_reducible (first | (refine And.intro ?_ ?_) | intro _))
 all_goals (try simp (disch:=omega) only[w64,wu8,tn0,tn1,tm1,tm2,List.length_append,List.length_cons,List.length_nil]at*)
 all_goals (try simp (disch:=omega) only[w64,wu8,tn0,tn1,tm1,tm2,List.length_append,List.length_cons,List.length_nil]at*)
 all_goals (try omega)
 all_goals (try grind[])
theorem X1B.eq:EqS X4C Try.f49 [4] [X1v.e] [] noL (fun i x=>X1B.F x.1 x.2):=by intro i x;kernel_rfl
theorem X1B.ok:X0z Try.prog 49 X4C:=X2I X1B.eq Try.func49 rfl (by kernel_rfl) fun i x h hi hw=>X1B.pure x.1 x.2 h hw
def X1B.e:GE:=⟨49,X4C,⟨_,Try.func49,rfl,rfl⟩,X1B.ok⟩
def X4M:Con:={A:=T0q,shA:=[.agg 13],R:=.bool,shR:=[(false,1)],pre:=fun _ a=>(X2P a),f:=some fun _ a=>((X8Q a),((),()))}
def X1j.F(a0:U1q):Prop:=(eS [(1,.box 2 0),(6,.val false [.lst (.int .i64) a0.2.2.2.2.2.2.2.2.2.2.1 none]),(7,.val false [.int .i64 (ln a0.2.2.2.2.2.2.2.2.2.2.1)])] [(1,.box 2 0),(6,.val false [.lst (.int .i64) a0.2.2.2.2.2.2.2.2.2.2.1 none]),(7,.val false [.int .i64 (ln a0.2.2.2.2.2.2.2.2.2.2.1)])]∧((skI a0 0 a0.1 a0.2.1 a0.2.2.1 a0.2.2.2.1 a0.2.2.2.2.1 a0.2.2.2.2.2.1 a0.2.2.2.2.2.2.1 a0.2.2.2.2.2.2.2.1 a0.2.2.2.2.2.2.2.2.1 a0.2.2.2.2.2.2.2.2.2.1 a0.2.2.2.2.2.2.2.2.2.2.1 a0.2.2.2.2.2.2.2.2.2.2.2.1 a0.2.2.2.2.2.2.2.2.2.2.2.2)∧∀(y1:(Int×U1q)),(skI a0 y1.1 y1.2.1 y1.2.2.1 y1.2.2.2.1 y1.2.2.2.2.1 y1.2.2.2.2.2.1 y1.2.2.2.2.2.2.1 y1.2.2.2.2.2.2.2.1 y1.2.2.2.2.2.2.2.2.1 y1.2.2.2.2.2.2.2.2.2.1 y1.2.2.2.2.2.2.2.2.2.2.1 y1.2.2.2.2.2.2.2.2.2.2.2.1 y1.2.2.2.2.2.2.2.2.2.2.2.2.1 y1.2.2.2.2.2.2.2.2.2.2.2.2.2)→(X02 (decide (y1.1<(ln a0.2.2.2.2.2.2.2.2.2.2.1))) (0≤y1.1∧(y1.1<(ln a0.2.2.2.2.2.2.2.2.2.2.1)∧(True∧∀r2,(Eq r2 ((X3j (y1.2.1,(y1.2.2.1,(y1.2.2.2.1,(y1.2.2.2.2.1,(y1.2.2.2.2.2.1,(y1.2.2.2.2.2.2.1,(y1.2.2.2.2.2.2.2.1,(y1.2.2.2.2.2.2.2.2.1,(y1.2.2.2.2.2.2.2.2.2.1,(y1.2.2.2.2.2.2.2.2.2.2.1,(y1.2.2.2.2.2.2.2.2.2.2.2.1,(y1.2.2.2.2.2.2.2.2.2.2.2.2.1,y1.2.2.2.2.2.2.2.2.2.2.2.2.2)))))))))))) (List.getD a0.2.2.2.2.2.2.2.2.2.2.1 (tN y1.1) 0)),((),())))→(X02 (!r2.1) (Eq (false,((),())) ((X8Q a0),((),()))) (X02 (decide (y1.1>(0:Int))) (0≤(wI (y1.1 - (1:Int)))∧((wI (y1.1 - (1:Int)))<(ln y1.2.2.2.2.2.2.2.2.2.2.2.1)∧(X02 (decide ((List.getD y1.2.2.2.2.2.2.2.2.2.2.2.1 (tN (wI (y1.1 - (1:Int)))) 0)≥(List.getD a0.2.2.2.2.2.2.2.2.2.2.1 (tN y1.1) 0))) (Eq (false,((),())) ((X8Q a0),((),()))) (eS [(1,.box 2 0),(6,.val false [.lst (.int .i64) a0.2.2.2.2.2.2.2.2.2.2.1 none]),(7,.val false [.int .i64 (ln a0.2.2.2.2.2.2.2.2.2.2.1)])] [(1,.box 2 0),(6,.val false [.lst (.int .i64) a0.2.2.2.2.2.2.2.2.2.2.1 none]),(7,.val false [.int .i64 (ln a0.2.2.2.2.2.2.2.2.2.2.1)])]∧(skI a0 (wI (y1.1+(1:Int))) y1.2.1 y1.2.2.1 y1.2.2.2.1 y1.2.2.2.2.1 y1.2.2.2.2.2.1 y1.2.2.2.2.2.2.1 y1.2.2.2.2.2.2.2.1 y1.2.2.2.2.2.2.2.2.1 y1.2.2.2.2.2.2.2.2.2.1 y1.2.2.2.2.2.2.2.2.2.2.1 y1.2.2.2.2.2.2.2.2.2.2.2.1 y1.2.2.2.2.2.2.2.2.2.2.2.2.1 y1.2.2.2.2.2.2.2.2.2.2.2.2.2)∧(skM a0 (wI (y1.1+(1:Int))) y1.2.1 y1.2.2.1 y1.2.2.2.1 y1.2.2.2.2.1 y1.2.2.2.2.2.1 y1.2.2.2.2.2.2.1 y1.2.2.2.2.2.2.2.1 y1.2.2.2.2.2.2.2.2.1 y1.2.2.2.2.2.2.2.2.2.1 y1.2.2.2.2.2.2.2.2.2.2.1 y1.2.2.2.2.2.2.2.2.2.2.2.1 y1.2.2.2.2.2.2.2.2.2.2.2.2.1 y1.2.2.2.2.2.2.2.2.2.2.2.2.2)<(skM a0 y1.1 y1.2.1 y1.2.2.1 y1.2.2.2.1 y1.2.2.2.2.1 y1.2.2.2.2.2.1 y1.2.2.2.2.2.2.1 y1.2.2.2.2.2.2.2.1 y1.2.2.2.2.2.2.2.2.1 y1.2.2.2.2.2.2.2.2.2.1 y1.2.2.2.2.2.2.2.2.2.2.1 y1.2.2.2.2.2.2.2.2.2.2.2.1 y1.2.2.2.2.2.2.2.2.2.2.2.2.1 y1.2.2.2.2.2.2.2.2.2.2.2.2.2))))) (eS [(1,.box 2 0),(6,.val false [.lst (.int .i64) a0.2.2.2.2.2.2.2.2.2.2.1 none]),(7,.val false [.int .i64 (ln a0.2.2.2.2.2.2.2.2.2.2.1)])] [(1,.box 2 0),(6,.val false [.lst (.int .i64) a0.2.2.2.2.2.2.2.2.2.2.1 none]),(7,.val false [.int .i64 (ln a0.2.2.2.2.2.2.2.2.2.2.1)])]∧(skI a0 (wI (y1.1+(1:Int))) y1.2.1 y1.2.2.1 y1.2.2.2.1 y1.2.2.2.2.1 y1.2.2.2.2.2.1 y1.2.2.2.2.2.2.1 y1.2.2.2.2.2.2.2.1 y1.2.2.2.2.2.2.2.2.1 y1.2.2.2.2.2.2.2.2.2.1 y1.2.2.2.2.2.2.2.2.2.2.1 y1.2.2.2.2.2.2.2.2.2.2.2.1 y1.2.2.2.2.2.2.2.2.2.2.2.2.1 y1.2.2.2.2.2.2.2.2.2.2.2.2.2)∧(skM a0 (wI (y1.1+(1:Int))) y1.2.1 y1.2.2.1 y1.2.2.2.1 y1.2.2.2.2.1 y1.2.2.2.2.2.1 y1.2.2.2.2.2.2.1 y1.2.2.2.2.2.2.2.1 y1.2.2.2.2.2.2.2.2.1 y1.2.2.2.2.2.2.2.2.2.1 y1.2.2.2.2.2.2.2.2.2.2.1 y1.2.2.2.2.2.2.2.2.2.2.2.1 y1.2.2.2.2.2.2.2.2.2.2.2.2.1 y1.2.2.2.2.2.2.2.2.2.2.2.2.2)<(skM a0 y1.1 y1.2.1 y1.2.2.1 y1.2.2.2.1 y1.2.2.2.2.1 y1.2.2.2.2.2.1 y1.2.2.2.2.2.2.1 y1.2.2.2.2.2.2.2.1 y1.2.2.2.2.2.2.2.2.1 y1.2.2.2.2.2.2.2.2.2.1 y1.2.2.2.2.2.2.2.2.2.2.1 y1.2.2.2.2.2.2.2.2.2.2.2.1 y1.2.2.2.2.2.2.2.2.2.2.2.2.1 y1.2.2.2.2.2.2.2.2.2.2.2.2.2))))))) (True∧∀r3,(Eq r3 ((Xdy y1.2.2.2.2.2.2.2.2.2.2.2.1 y1.2.1),((),())))→(X02 r3.1 (True∧∀r4,(Eq r4 ((XeE (y1.2.1,(y1.2.2.1,(y1.2.2.2.1,(y1.2.2.2.2.1,(y1.2.2.2.2.2.1,(y1.2.2.2.2.2.2.1,(y1.2.2.2.2.2.2.2.1,(y1.2.2.2.2.2.2.2.2.1,(y1.2.2.2.2.2.2.2.2.2.1,(y1.2.2.2.2.2.2.2.2.2.2.1,(y1.2.2.2.2.2.2.2.2.2.2.2.1,(y1.2.2.2.2.2.2.2.2.2.2.2.2.1,y1.2.2.2.2.2.2.2.2.2.2.2.2.2)))))))))))) (ln y1.2.2.2.2.2.2.2.2.2.2.2.1)),((),())))→(Eq ((!r4.1),((),())) ((X8Q a0),((),())))) (Eq (false,((),())) ((X8Q a0),((),()))))))))
def X1j.L(a0:U1q):Nat→Option X0w:=fun p=>Go.Proofs.Ytakllifahpfmpaa.Bv.look p [(26,{kp:={hold:=[1,6,7],slots:=[8],boxes:=[2],rows:=[]},T:=(.pair (.int .i64) T0q),I:=fun st y=>skI a0 y.1 y.2.1 y.2.2.1 y.2.2.2.1 y.2.2.2.2.1 y.2.2.2.2.2.1 y.2.2.2.2.2.2.1 y.2.2.2.2.2.2.2.1 y.2.2.2.2.2.2.2.2.1 y.2.2.2.2.2.2.2.2.2.1 y.2.2.2.2.2.2.2.2.2.2.1 y.2.2.2.2.2.2.2.2.2.2.2.1 y.2.2.2.2.2.2.2.2.2.2.2.2.1 y.2.2.2.2.2.2.2.2.2.2.2.2.2,μ:=fun st y=>skM a0 y.1 y.2.1 y.2.2.1 y.2.2.2.1 y.2.2.2.2.1 y.2.2.2.2.2.1 y.2.2.2.2.2.2.1 y.2.2.2.2.2.2.2.1 y.2.2.2.2.2.2.2.2.1 y.2.2.2.2.2.2.2.2.2.1 y.2.2.2.2.2.2.2.2.2.2.1 y.2.2.2.2.2.2.2.2.2.2.2.1 y.2.2.2.2.2.2.2.2.2.2.2.2.1 y.2.2.2.2.2.2.2.2.2.2.2.2.2})]
theorem X1j.pure(a0:U1q)(h:(X2P a0))(hw:Wf X4M.A a0):X1j.F a0:=by
 delta X1j.F ln tN wI eS
 obtain⟨p0,p1,p2,p3⟩:=h
 simp only[Bs,B0,B1,Prod.mk.injEq,X04,skI,skM,Prod.eta,X3j,XeE,X2P]
 repeat' (with_reducible (first | (refine And.intro ?_ ?_) | intro _))
 all_goals (try simp (disch:=omega) only[w64,wu8,tn0,tn1,tm1,tm2,List.length_append,List.length_cons,List.length_nil]at*)
 all_goals (try simp (disch:=omega) only[w64,wu8,tn0,tn1,tm1,tm2,List.length_append,List.length_cons,List.length_nil]at*)
 all_goals (try omega)
 all_goals (try grind[X8Q,XhA,Xhj,Xib])
theorem X1j.eq:EqS X4M Try.f52 [4] [X0j.e,X1B.e,X0c.e] [] (fun i x=>X1j.L x) (fun i x=>X1j.F x):=by intro i x;kernel_rfl
theorem X1j.ok:X0z Try.prog 52 X4M:=X2I X1j.eq Try.func52 rfl (by kernel_rfl) fun i x h hi hw=>X1j.pure x h hw
def X1j.e:GE:=⟨52,X4M,⟨_,Try.func52,rfl,rfl⟩,X1j.ok⟩
def X4A:Con:={A:=T0q,shA:=[.agg 13],R:=.bool,shR:=[(false,1)],pre:=fun _ a=>(Xge a),f:=some fun _ a=>((X7d a),((),()))}
def X1m.F(a0:U1q):Prop:=(X02 ((ln a0.2.2.2.2.2.2.2.2.2.2.2.1)!=a0.2.1) (Eq (false,((),())) ((X7d a0),((),()))) (X02 ((ln a0.2.2.2.2.2.2.2.2.2.2.2.2)!=a0.2.1) (Eq (false,((),())) ((X7d a0),((),()))) (eS [(1,.box 2 0),(20,.val false [.lst (.int .i64) a0.2.2.2.2.2.2.2.2.2.2.2.1 none]),(21,.val false [.int .i64 (ln a0.2.2.2.2.2.2.2.2.2.2.2.1)])] [(1,.box 2 0),(20,.val false [.lst (.int .i64) a0.2.2.2.2.2.2.2.2.2.2.2.1 none]),(21,.val false [.int .i64 (ln a0.2.2.2.2.2.2.2.2.2.2.2.1)])]∧((ldI a0 0 a0.1 a0.2.1 a0.2.2.1 a0.2.2.2.1 a0.2.2.2.2.1 a0.2.2.2.2.2.1 a0.2.2.2.2.2.2.1 a0.2.2.2.2.2.2.2.1 a0.2.2.2.2.2.2.2.2.1 a0.2.2.2.2.2.2.2.2.2.1 a0.2.2.2.2.2.2.2.2.2.2.1 a0.2.2.2.2.2.2.2.2.2.2.2.1 a0.2.2.2.2.2.2.2.2.2.2.2.2)∧∀(y1:(Int×U1q)),(ldI a0 y1.1 y1.2.1 y1.2.2.1 y1.2.2.2.1 y1.2.2.2.2.1 y1.2.2.2.2.2.1 y1.2.2.2.2.2.2.1 y1.2.2.2.2.2.2.2.1 y1.2.2.2.2.2.2.2.2.1 y1.2.2.2.2.2.2.2.2.2.1 y1.2.2.2.2.2.2.2.2.2.2.1 y1.2.2.2.2.2.2.2.2.2.2.2.1 y1.2.2.2.2.2.2.2.2.2.2.2.2.1 y1.2.2.2.2.2.2.2.2.2.2.2.2.2)→(X02 (decide (y1.1<(ln a0.2.2.2.2.2.2.2.2.2.2.2.1))) (0≤y1.1∧(y1.1<(ln a0.2.2.2.2.2.2.2.2.2.2.2.1)∧(0≤y1.1∧(y1.1<(ln y1.2.2.2.2.2.2.2.2.2.2.2.2.2)∧(X02 (decide ((List.getD y1.2.2.2.2.2.2.2.2.2.2.2.2.2 (tN y1.1) 0)<(0:Int))) (Eq (false,((),())) ((X7d a0),((),()))) (0≤y1.1∧(y1.1<(ln y1.2.2.2.2.2.2.2.2.2.2.2.2.2)∧(X02 (decide ((List.getD a0.2.2.2.2.2.2.2.2.2.2.2.1 (tN y1.1) 0)≤(List.getD y1.2.2.2.2.2.2.2.2.2.2.2.2.2 (tN y1.1) 0))) (Eq (false,((),())) ((X7d a0),((),()))) (True∧∀r2,(Eq r2 ((X05 (y1.2.1,(y1.2.2.1,(y1.2.2.2.1,(y1.2.2.2.2.1,(y1.2.2.2.2.2.1,(y1.2.2.2.2.2.2.1,(y1.2.2.2.2.2.2.2.1,(y1.2.2.2.2.2.2.2.2.1,(y1.2.2.2.2.2.2.2.2.2.1,(y1.2.2.2.2.2.2.2.2.2.2.1,(y1.2.2.2.2.2.2.2.2.2.2.2.1,(y1.2.2.2.2.2.2.2.2.2.2.2.2.1,y1.2.2.2.2.2.2.2.2.2.2.2.2.2))))))))))))),((),())))→(X02 (decide ((List.getD a0.2.2.2.2.2.2.2.2.2.2.2.1 (tN y1.1) 0)>(wI (r2.1+(1:Int))))) (Eq (false,((),())) ((X7d a0),((),()))) (eS [(1,.box 2 0),(20,.val false [.lst (.int .i64) a0.2.2.2.2.2.2.2.2.2.2.2.1 none]),(21,.val false [.int .i64 (ln a0.2.2.2.2.2.2.2.2.2.2.2.1)])] [(1,.box 2 0),(20,.val false [.lst (.int .i64) a0.2.2.2.2.2.2.2.2.2.2.2.1 none]),(21,.val false [.int .i64 (ln a0.2.2.2.2.2.2.2.2.2.2.2.1)])]∧(ldI a0 (wI (y1.1+(1:Int))) y1.2.1 y1.2.2.1 y1.2.2.2.1 y1.2.2.2.2.1 y1.2.2.2.2.2.1 y1.2.2.2.2.2.2.1 y1.2.2.2.2.2.2.2.1 y1.2.2.2.2.2.2.2.2.1 y1.2.2.2.2.2.2.2.2.2.1 y1.2.2.2.2.2.2.2.2.2.2.1 y1.2.2.2.2.2.2.2.2.2.2.2.1 y1.2.2.2.2.2.2.2.2.2.2.2.2.1 y1.2.2.2.2.2.2.2.2.2.2.2.2.2)∧(ldM a0 (wI (y1.1+(1:Int))) y1.2.1 y1.2.2.1 y1.2.2.2.1 y1.2.2.2.2.1 y1.2.2.2.2.2.1 y1.2.2.2.2.2.2.1 y1.2.2.2.2.2.2.2.1 y1.2.2.2.2.2.2.2.2.1 y1.2.2.2.2.2.2.2.2.2.1 y1.2.2.2.2.2.2.2.2.2.2.1 y1.2.2.2.2.2.2.2.2.2.2.2.1 y1.2.2.2.2.2.2.2.2.2.2.2.2.1 y1.2.2.2.2.2.2.2.2.2.2.2.2.2)<(ldM a0 y1.1 y1.2.1 y1.2.2.1 y1.2.2.2.1 y1.2.2.2.2.1 y1.2.2.2.2.2.1 y1.2.2.2.2.2.2.1 y1.2.2.2.2.2.2.2.1 y1.2.2.2.2.2.2.2.2.1 y1.2.2.2.2.2.2.2.2.2.1 y1.2.2.2.2.2.2.2.2.2.2.1 y1.2.2.2.2.2.2.2.2.2.2.2.1 y1.2.2.2.2.2.2.2.2.2.2.2.2.1 y1.2.2.2.2.2.2.2.2.2.2.2.2.2)))))))))))) (0≤y1.2.1∧(y1.2.1<(ln y1.2.2.2.2.2.2.2.2.2.2.2.2.2)∧(True∧∀r3,(Eq r3 ((X05 (y1.2.1,(y1.2.2.1,(y1.2.2.2.1,(y1.2.2.2.2.1,(y1.2.2.2.2.2.1,(y1.2.2.2.2.2.2.1,(y1.2.2.2.2.2.2.2.1,(y1.2.2.2.2.2.2.2.2.1,(y1.2.2.2.2.2.2.2.2.2.1,(y1.2.2.2.2.2.2.2.2.2.2.1,(y1.2.2.2.2.2.2.2.2.2.2.2.1,(y1.2.2.2.2.2.2.2.2.2.2.2.2.1,y1.2.2.2.2.2.2.2.2.2.2.2.2.2))))))))))))),((),())))→(Eq (((List.getD y1.2.2.2.2.2.2.2.2.2.2.2.2.2 (tN y1.2.1) 0)==r3.1),((),())) ((X7d a0),((),())))))))))))
def X1m.L(a0:U1q):Nat→Option X0w:=fun p=>Go.Proofs.Ytakllifahpfmpaa.Bv.look p [(58,{kp:={hold:=[1,20,21],slots:=[22],boxes:=[2],rows:=[]},T:=(.pair (.int .i64) T0q),I:=fun st y=>ldI a0 y.1 y.2.1 y.2.2.1 y.2.2.2.1 y.2.2.2.2.1 y.2.2.2.2.2.1 y.2.2.2.2.2.2.1 y.2.2.2.2.2.2.2.1 y.2.2.2.2.2.2.2.2.1 y.2.2.2.2.2.2.2.2.2.1 y.2.2.2.2.2.2.2.2.2.2.1 y.2.2.2.2.2.2.2.2.2.2.2.1 y.2.2.2.2.2.2.2.2.2.2.2.2.1 y.2.2.2.2.2.2.2.2.2.2.2.2.2,μ:=fun st y=>ldM a0 y.1 y.2.1 y.2.2.1 y.2.2.2.1 y.2.2.2.2.1 y.2.2.2.2.2.1 y.2.2.2.2.2.2.1 y.2.2.2.2.2.2.2.1 y.2.2.2.2.2.2.2.2.1 y.2.2.2.2.2.2.2.2.2.1 y.2.2.2.2.2.2.2.2.2.2.1 y.2.2.2.2.2.2.2.2.2.2.2.1 y.2.2.2.2.2.2.2.2.2.2.2.2.1 y.2.2.2.2.2.2.2.2.2.2.2.2.2})]
theorem X1m.pure(a0:U1q)(h:(Xge a0))(hw:Wf X4A.A a0):X1m.F a0:=by
 delta X1m.F ln tN wI eS
 obtain⟨⟨p0,p1,p2,p3⟩,p4,p5⟩:=h
 simp only[Bs,B0,B1,Prod.mk.injEq,X04,ldI,ldM,Prod.eta,X05,X2P]
 repeat' (with_reducible (first | (refine And.intro ?_ ?_) | intro _))
 all_goals (try simp (disch:=omega) only[w64,wu8,tn0,tn1,tm1,tm2,List.length_append,List.length_cons,List.length_nil]at*)
 all_goals (try simp (disch:=omega) only[w64,wu8,tn0,tn1,tm1,tm2,List.length_append,List.length_cons,List.length_nil]at*)
 all_goals (try omega)
 all_goals (try grind[X7d,XhA,Xhj,XhS,X05])
theorem X1m.eq:EqS X4A Try.f53 [4] [X0x.e] [] (fun i x=>X1m.L x) (fun i x=>X1m.F x):=by intro i x;kernel_rfl
theorem X1m.ok:X0z Try.prog 53 X4A:=X2I X1m.eq Try.func53 rfl (by kernel_rfl) fun i x h hi hw=>X1m.pure x h hw
def X1m.e:GE:=⟨53,X4A,⟨_,Try.func53,rfl,rfl⟩,X1m.ok⟩
end Go.Proofs.Ytakllifahpfmpaa.B
