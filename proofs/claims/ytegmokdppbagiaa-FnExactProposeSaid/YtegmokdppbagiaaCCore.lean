/- Wals and cores:right or not. -/
import Derived.Test.YtegmokdppbagiaaCSum
set_option maxRecDepth 100000
set_option linter.unusedVariables false
set_option linter.unusedSimpArgs false
namespace Go.Proofs.Ytegmokdppbagiaa.B
open Go Go.Proofs.Ytegmokdppbagiaa.Bv
abbrev Ent:=Int×List UInt8
abbrev Wal:=Int×(Int×(Int×(Int×List Ent)))
abbrev X1Q:=Int×(Int×(Int×(Int×(Int×(Int×(Int×(Int×(List Ent×(Int×(List Int×(List Int×List Int)))))))))))
def X7K(n:Int):Bool:=fIn n 1 100000
def X8M(n:Int):Bool:=fIn n (-1) 4
def X2R(i t:Int):Bool:=(decide (i=0)&&decide (t=0))||(fIn i 1 100000&&fIn t 1 100000)
def tmOf(l:List Ent)(low:Int)(i:Nat):Int:=if i=0 then low else(l.getD (i - 1) (0,[])).1
def Xhc(l:List Ent)(low high:Int)(i:Nat):Bool:=decide (1≤(l.getD i (0,[])).1)&&(fIn (l.getD i (0,[])).1 (tmOf l low i) high&&decide ((l.getD i (0,[])).2.length≤900))
def X3t(l:List Ent)(low high:Int):Bool:=(List.range l.length).all (Xhc l low high)
theorem Xdb{l:List Ent}{low high:Int}(h:∀j,j<l.length→Xhc l low high j=true):X3t l low high=true:=by
 simp only[X3t,List.all_eq_true,List.mem_range];exact h
theorem Xfd{l:List Ent}{low high:Int}{j:Nat}(hj:j<l.length)(h:Xhc l low high j=false):X3t l low high=false:=by
 rw[Bool.eq_false_iff];intro hh
 simp only[X3t,List.all_eq_true,List.mem_range]at hh
 rw[hh j hj]at h;cases h
def X2g(w:Wal):Bool:=fIn w.1 0 100000&&(fIn w.2.1 (-1) 4&&(X2R w.2.2.1 w.2.2.2.1&&(decide (w.2.2.2.1≤w.1)&&(decide (w.2.2.2.2.length≤60)&&(X3t w.2.2.2.2 w.2.2.2.1 w.1&&decide (w.2.2.1+w.2.2.2.2.length≤100000))))))
def tkI(l:List Ent)(low0 high low i:Int):Prop:=0≤i∧i≤l.length∧low=tmOf l low0 i.toNat∧∀j,j<i.toNat→Xhc l low0 high j=true
def tkM(l:List Ent)(low0 high low i:Int):Nat:=(l.length - i).toNat
def tsI(w:Wal)(last i:Int)(a0 a1 a2 a3:Int)(a4:List Ent):Prop:=((a0,(a1,(a2,(a3,a4)))):Wal)=w∧tkI w.2.2.2.2 w.2.2.2.1 w.1 last i
def tsM(w:Wal)(last i:Int)(a0 a1 a2 a3:Int)(a4:List Ent):Nat:=(w.2.2.2.2.length - i).toNat
def X6O(c:X1Q):Wal:=(c.2.2.1,(c.2.2.2.1,(c.2.2.2.2.2.2.1,(c.2.2.2.2.2.2.2.1,c.2.2.2.2.2.2.2.2.1))))
def X05(c:X1Q):Int:=IntKind.wrap .i64 (c.2.2.2.2.2.2.1+(c.2.2.2.2.2.2.2.2.1.length:Int))
def Xgl(c:X1Q)(n:Int):Bool:=decide (IntKind.wrap .i64 (2*n)>c.2.1)
def X2M(c:X1Q)(n:Int):Bool:=fIn n 0 (IntKind.wrap .i64 (c.2.1 - 1))
theorem X9x{i t:Int}(h:X2R i t=true):0≤i∧i≤100000:=by
 simp[X2R,fIn]at h;omega
def X4z:Con:={A:=(.int .i64),shA:=[.one],R:=.bool,shR:=[(false,1)],pre:=fun _ _=>True,f:=some fun _ a=>((X7K a),((),()))}
def X1L.F(a0:Int):Prop:=(True∧∀r1,(Eq r1 ((fIn a0 1 100000),((),())))→(Eq (r1.1,((),())) ((X7K a0),((),()))))
theorem X1L.pure(a0:Int)(h:True)(hw:Wf X4z.A a0):X1L.F a0:=by
 unfold X1L.F
 simp only[Bs,B0,B1,Prod.mk.injEq,X04]
 repeat' (with_reducible (first | (refine And.intro ?_ ?_) | intro _))
 all_goals (try simp (disch:=omega) only[w64,wu8,tn0,tn1,tm1,tm2,List.length_append,List.length_cons,List.length_nil]at*)
 all_goals (try simp (disch:=omega) only[w64,wu8,tn0,tn1,tm1,tm2,List.length_append,List.length_cons,List.length_nil]at*)
 all_goals (try omega)
 all_goals (try grind[X7K])
theorem X1L.eq:EqS X4z Try.f122 [4] [X1k.e] [] noL (fun i x=>X1L.F x):=by intro i x;kernel_rfl
theorem X1L.ok:X0D Try.prog 122 X4z:=X2U X1L.eq Try.func122 rfl (by kernel_rfl) fun i x h hi hw=>X1L.pure x h hw
def X1L.e:GE:=⟨122,X4z,⟨_,Try.func122,rfl,rfl⟩,X1L.ok⟩
def X4h:Con:={A:=(.int .i64),shA:=[.one],R:=.bool,shR:=[(false,1)],pre:=fun _ _=>True,f:=some fun _ a=>((X8M a),((),()))}
def X1H.F(a0:Int):Prop:=(True∧∀r1,(Eq r1 ((fIn a0 (-1) 4),((),())))→(Eq (r1.1,((),())) ((X8M a0),((),()))))
theorem X1H.pure(a0:Int)(h:True)(hw:Wf X4h.A a0):X1H.F a0:=by
 unfold X1H.F
 simp only[Bs,B0,B1,Prod.mk.injEq,X04]
 repeat' (with_reducible (first | (refine And.intro ?_ ?_) | intro _))
 all_goals (try simp (disch:=omega) only[w64,wu8,tn0,tn1,tm1,tm2,List.length_append,List.length_cons,List.length_nil]at*)
 all_goals (try simp (disch:=omega) only[w64,wu8,tn0,tn1,tm1,tm2,List.length_append,List.length_cons,List.length_nil]at*)
 all_goals (try omega)
 all_goals (try grind[X8M])
theorem X1H.eq:EqS X4h Try.f114 [4] [X1k.e] [] noL (fun i x=>X1H.F x):=by intro i x;kernel_rfl
theorem X1H.ok:X0D Try.prog 114 X4h:=X2U X1H.eq Try.func114 rfl (by kernel_rfl) fun i x h hi hw=>X1H.pure x h hw
def X1H.e:GE:=⟨114,X4h,⟨_,Try.func114,rfl,rfl⟩,X1H.ok⟩
def X3S:Con:={A:=Xfk,shA:=[.one,.one],R:=.bool,shR:=[(false,1)],pre:=fun _ _=>True,f:=some fun _ a=>((X2R a.1 a.2),((),()))}
def X1l.F(a0:Int)(a1:Int):Prop:=(X02 (a0==(0:Int)) (X02 (a1==(0:Int)) (Eq (true,((),())) ((X2R a0 a1),((),()))) (True∧∀r1,(Eq r1 ((fIn a0 1 100000),((),())))→(X02 r1.1 (True∧∀r2,(Eq r2 ((X7K a1),((),())))→(Eq (r2.1,((),())) ((X2R a0 a1),((),())))) (Eq (false,((),())) ((X2R a0 a1),((),())))))) (True∧∀r3,(Eq r3 ((fIn a0 1 100000),((),())))→(X02 r3.1 (True∧∀r4,(Eq r4 ((X7K a1),((),())))→(Eq (r4.1,((),())) ((X2R a0 a1),((),())))) (Eq (false,((),())) ((X2R a0 a1),((),()))))))
theorem X1l.pure(a0:Int)(a1:Int)(h:True)(hw:Wf X3S.A (a0,a1)):X1l.F a0 a1:=by
 unfold X1l.F
 simp only[Bs,B0,B1,Prod.mk.injEq,X04,X7K]
 repeat' (with_reducible (first | (refine And.intro ?_ ?_) | intro _))
 all_goals (try simp (disch:=omega) only[w64,wu8,tn0,tn1,tm1,tm2,List.length_append,List.length_cons,List.length_nil]at*)
 all_goals (try simp (disch:=omega) only[w64,wu8,tn0,tn1,tm1,tm2,List.length_append,List.length_cons,List.length_nil]at*)
 all_goals (try omega)
 all_goals (try grind[X2R])
theorem X1l.eq:EqS X3S Try.f115 [4] [X1k.e,X1L.e] [] noL (fun i x=>X1l.F x.1 x.2):=by intro i x;kernel_rfl
theorem X1l.ok:X0D Try.prog 115 X3S:=X2U X1l.eq Try.func115 rfl (by kernel_rfl) fun i x h hi hw=>X1l.pure x.1 x.2 h hw
def X1l.e:GE:=⟨115,X3S,⟨_,Try.func115,rfl,rfl⟩,X1l.ok⟩
def X3V:Con:={A:=Xfk,shA:=[.one,.one],R:=.bool,shR:=[(false,1)],pre:=fun _ _=>True,f:=some fun _ a=>((X2R a.1 a.2),((),()))}
def X1r.F(a0:Int)(a1:Int):Prop:=(X02 (a0==(0:Int)) (Eq ((a1==(0:Int)),((),())) ((X2R a0 a1),((),()))) (True∧∀r1,(Eq r1 ((fIn a0 1 100000),((),())))→(X02 r1.1 (True∧∀r2,(Eq r2 ((fIn a1 1 100000),((),())))→(Eq (r2.1,((),())) ((X2R a0 a1),((),())))) (Eq (false,((),())) ((X2R a0 a1),((),()))))))
theorem X1r.pure(a0:Int)(a1:Int)(h:True)(hw:Wf X3V.A (a0,a1)):X1r.F a0 a1:=by
 unfold X1r.F
 simp only[Bs,B0,B1,Prod.mk.injEq,X04]
 repeat' (with_reducible (first | (refine And.intro ?_ ?_) | intro _))
 all_goals (try simp (disch:=omega) only[w64,wu8,tn0,tn1,tm1,tm2,List.length_append,List.length_cons,List.length_nil]at*)
 all_goals (try simp (disch:=omega) only[w64,wu8,tn0,tn1,tm1,tm2,List.length_append,List.length_cons,List.length_nil]at*)
 all_goals (try omega)
 all_goals (try grind[X2R,X34])
theorem X1r.eq:EqS X3V Try.f113 [4] [X23.e] [] noL (fun i x=>X1r.F x.1 x.2):=by intro i x;kernel_rfl
theorem X1r.ok:X0D Try.prog 113 X3V:=X2U X1r.eq Try.func113 rfl (by kernel_rfl) fun i x h hi hw=>X1r.pure x.1 x.2 h hw
def X1r.e:GE:=⟨113,X3V,⟨_,Try.func113,rfl,rfl⟩,X1r.ok⟩
def X45:Con:={A:=(.pair (.list T5q) Xfk),shA:=[.one,.one,.one],R:=.bool,shR:=[(false,1)],pre:=fun _ _=>True,f:=some fun _ a=>((X3t a.1 a.2.1 a.2.2),((),()))}
def X0W.F(a0:(List U4q))(a1:Int)(a2:Int):Prop:=(eS [(2,.val false [.int .i64 a2]),(9,.val false [.lst T5q a0 none]),(10,.val false [.int .i64 (ln a0)])] [(2,.val false [.int .i64 a2]),(9,.val false [.lst T5q a0 none]),(10,.val false [.int .i64 (ln a0)])]∧((tkI a0 a1 a2 a1 0)∧∀(y1:(Int×Int)),(tkI a0 a1 a2 y1.1 y1.2)→(X02 (decide (y1.2<(ln a0))) (0≤y1.2∧(y1.2<(ln a0)∧(X02 (decide (((List.getD a0 (tN y1.2) (0,[])).1)<(1:Int))) (Eq (false,((),())) ((X3t a0 a1 a2),((),()))) (True∧∀r2,(Eq r2 ((fIn ((List.getD a0 (tN y1.2) (0,[])).1) y1.1 a2),((),())))→(X02 (!r2.1) (Eq (false,((),())) ((X3t a0 a1 a2),((),()))) (X02 (decide ((ln ((List.getD a0 (tN y1.2) (0,[])).2))>(900:Int))) (Eq (false,((),())) ((X3t a0 a1 a2),((),()))) (eS [(2,.val false [.int .i64 a2]),(9,.val false [.lst T5q a0 none]),(10,.val false [.int .i64 (ln a0)])] [(2,.val false [.int .i64 a2]),(9,.val false [.lst T5q a0 none]),(10,.val false [.int .i64 (ln a0)])]∧(tkI a0 a1 a2 ((List.getD a0 (tN y1.2) (0,[])).1) (wI (y1.2+(1:Int))))∧(tkM a0 a1 a2 ((List.getD a0 (tN y1.2) (0,[])).1) (wI (y1.2+(1:Int))))<(tkM a0 a1 a2 y1.1 y1.2)))))))) (Eq (true,((),())) ((X3t a0 a1 a2),((),()))))))
def X0W.L(a0:(List U4q))(a1:Int)(a2:Int):Nat→Option X0i:=fun p=>Go.Proofs.Ytegmokdppbagiaa.Bv.look p [(26,{kp:={hold:=[2,9,10],slots:=[1,11],boxes:=[],rows:=[]},T:=Xfk,I:=fun st y=>tkI a0 a1 a2 y.1 y.2,μ:=fun st y=>tkM a0 a1 a2 y.1 y.2})]
theorem X0W.pure(a0:(List U4q))(a1:Int)(a2:Int)(h:True)(hw:Wf X45.A (a0,a1,a2)):X0W.F a0 a1 a2:=by
 delta X0W.F ln tN wI eS
 have hw1:a0.length≤9223372036854775807:=hw.1.1
 simp only[Bs,B0,B1,Prod.mk.injEq,X04,tkI,tkM,X34,XhH]
 repeat' (with_reducible (first | (refine And.intro ?_ ?_) | intro _))
 all_goals (try simp (disch:=omega) only[w64,wu8,tn0,tn1,tm1,tm2,List.length_append,List.length_cons,List.length_nil]at*)
 all_goals (try simp (disch:=omega) only[w64,wu8,tn0,tn1,tm1,tm2,List.length_append,List.length_cons,List.length_nil]at*)
 all_goals (try omega)
 all_goals (try grind[Xdb,Xfd,Xhc,tmOf,X34])
theorem X0W.eq:EqS X45 Try.f116 [4] [X1k.e] [] (fun i x=>X0W.L x.1 x.2.1 x.2.2) (fun i x=>X0W.F x.1 x.2.1 x.2.2):=by intro i x;kernel_rfl
theorem X0W.ok:X0D Try.prog 116 X45:=X2U X0W.eq Try.func116 rfl (by kernel_rfl) fun i x h hi hw=>X0W.pure x.1 x.2.1 x.2.2 h hw
def X0W.e:GE:=⟨116,X45,⟨_,Try.func116,rfl,rfl⟩,X0W.ok⟩
def X57:Con:={A:=XhD,shA:=[.agg 5],R:=.bool,shR:=[(false,1)],pre:=fun _ _=>True,f:=some fun _ a=>((X2g a),((),()))}
def X26.F(a0:(Int×(Int×(Int×(Int×(List U4q)))))):Prop:=(True∧∀r1,(Eq r1 ((fIn a0.1 0 100000),((),())))→(X02 r1.1 (True∧∀r2,(Eq r2 ((X8M a0.2.1),((),())))→(X02 r2.1 (True∧∀r3,(Eq r3 ((X2R a0.2.2.1 a0.2.2.2.1),((),())))→(X02 r3.1 (X02 (decide (a0.2.2.2.1≤a0.1)) (X02 (decide ((ln a0.2.2.2.2)≤(60:Int))) (True∧∀r4,(Eq r4 ((X3t a0.2.2.2.2 a0.2.2.2.1 a0.1),((),())))→(X02 r4.1 (Eq ((decide ((wI (a0.2.2.1+(ln a0.2.2.2.2)))≤(100000:Int))),((),())) ((X2g a0),((),()))) (Eq (false,((),())) ((X2g a0),((),()))))) (Eq (false,((),())) ((X2g a0),((),())))) (Eq (false,((),())) ((X2g a0),((),())))) (Eq (false,((),())) ((X2g a0),((),()))))) (Eq (false,((),())) ((X2g a0),((),()))))) (Eq (false,((),())) ((X2g a0),((),())))))
theorem X26.pure(a0:(Int×(Int×(Int×(Int×(List U4q))))))(h:True)(hw:Wf X57.A a0):X26.F a0:=by
 delta X26.F ln wI
 have hB:X2R a0.2.2.1 a0.2.2.2.1=true→(a0.2.2.2.2.length:Int)≤60→IntKind.wrap .i64 (a0.2.2.1+(a0.2.2.2.2.length:Int))=a0.2.2.1+(a0.2.2.2.2.length:Int):=fun h1 h2=>by
  have:=X9x h1
  exact w64 (by omega) (by omega)
 simp only[Bs,B0,B1,Prod.mk.injEq,X04,X8M]
 repeat' (with_reducible (first | (refine And.intro ?_ ?_) | intro _))
 all_goals (try simp (disch:=omega) only[w64,wu8,tn0,tn1,tm1,tm2,List.length_append,List.length_cons,List.length_nil]at*)
 all_goals (try simp (disch:=omega) only[w64,wu8,tn0,tn1,tm1,tm2,List.length_append,List.length_cons,List.length_nil]at*)
 all_goals (try omega)
 all_goals (try grind[X2g,X2R,X34])
theorem X26.eq:EqS X57 Try.f99 [4] [X1k.e,X1H.e,X1l.e,X0W.e] [] noL (fun i x=>X26.F x):=by intro i x;kernel_rfl
theorem X26.ok:X0D Try.prog 99 X57:=X2U X26.eq Try.func99 rfl (by kernel_rfl) fun i x h hi hw=>X26.pure x h hw
def X26.e:GE:=⟨99,X57,⟨_,Try.func99,rfl,rfl⟩,X26.ok⟩
def X59:Con:={A:=XhD,shA:=[.agg 5],R:=.bool,shR:=[(false,1)],pre:=fun _ _=>True,f:=some fun _ a=>((X2g a),((),()))}
def X1B.F(a0:(Int×(Int×(Int×(Int×(List U4q)))))):Prop:=(True∧∀r1,(Eq r1 ((fIn a0.1 0 100000),((),())))→(X02 (!r1.1) (Eq (false,((),())) ((X2g a0),((),()))) (True∧∀r2,(Eq r2 ((fIn a0.2.1 (-1) 4),((),())))→(X02 (!r2.1) (Eq (false,((),())) ((X2g a0),((),()))) (True∧∀r3,(Eq r3 ((X2R a0.2.2.1 a0.2.2.2.1),((),())))→(X02 (!r3.1) (Eq (false,((),())) ((X2g a0),((),()))) (X02 (decide (a0.2.2.2.1>a0.1)) (Eq (false,((),())) ((X2g a0),((),()))) (X02 (decide ((ln a0.2.2.2.2)>(60:Int))) (Eq (false,((),())) ((X2g a0),((),()))) (X02 (decide ((wI (a0.2.2.1+(ln a0.2.2.2.2)))>(100000:Int))) (Eq (false,((),())) ((X2g a0),((),()))) (eS [(1,.box 2 0)] [(1,.box 2 0)]∧((tsI a0 a0.2.2.2.1 0 a0.1 a0.2.1 a0.2.2.1 a0.2.2.2.1 a0.2.2.2.2)∧∀(y4:(Int×(Int×(Int×(Int×(Int×(Int×(List U4q)))))))),(tsI a0 y4.1 y4.2.1 y4.2.2.1 y4.2.2.2.1 y4.2.2.2.2.1 y4.2.2.2.2.2.1 y4.2.2.2.2.2.2)→(X02 (decide (y4.2.1<(ln y4.2.2.2.2.2.2))) (0≤y4.2.1∧(y4.2.1<(ln y4.2.2.2.2.2.2)∧(X02 (decide (((List.getD y4.2.2.2.2.2.2 (tN y4.2.1) (0,[])).1)<(1:Int))) (Eq (false,((),())) ((X2g a0),((),()))) (X02 (decide (((List.getD y4.2.2.2.2.2.2 (tN y4.2.1) (0,[])).1)<y4.1)) (Eq (false,((),())) ((X2g a0),((),()))) (X02 (decide (((List.getD y4.2.2.2.2.2.2 (tN y4.2.1) (0,[])).1)>y4.2.2.1)) (Eq (false,((),())) ((X2g a0),((),()))) (X02 (decide ((ln ((List.getD y4.2.2.2.2.2.2 (tN y4.2.1) (0,[])).2))>(900:Int))) (Eq (false,((),())) ((X2g a0),((),()))) (eS [(1,.box 2 0)] [(1,.box 2 0)]∧(tsI a0 ((List.getD y4.2.2.2.2.2.2 (tN y4.2.1) (0,[])).1) (wI (y4.2.1+(1:Int))) y4.2.2.1 y4.2.2.2.1 y4.2.2.2.2.1 y4.2.2.2.2.2.1 y4.2.2.2.2.2.2)∧(tsM a0 ((List.getD y4.2.2.2.2.2.2 (tN y4.2.1) (0,[])).1) (wI (y4.2.1+(1:Int))) y4.2.2.1 y4.2.2.2.1 y4.2.2.2.2.1 y4.2.2.2.2.2.1 y4.2.2.2.2.2.2)<(tsM a0 y4.1 y4.2.1 y4.2.2.1 y4.2.2.2.1 y4.2.2.2.2.1 y4.2.2.2.2.2.1 y4.2.2.2.2.2.2)))))))) (Eq (true,((),())) ((X2g a0),((),())))))))))))))))
def X1B.L(a0:(Int×(Int×(Int×(Int×(List U4q)))))):Nat→Option X0i:=fun p=>Go.Proofs.Ytegmokdppbagiaa.Bv.look p [(122,{kp:={hold:=[1],slots:=[3,4],boxes:=[2],rows:=[]},T:=(.pair (.int .i64) (.pair (.int .i64) XhD)),I:=fun st y=>tsI a0 y.1 y.2.1 y.2.2.1 y.2.2.2.1 y.2.2.2.2.1 y.2.2.2.2.2.1 y.2.2.2.2.2.2,μ:=fun st y=>tsM a0 y.1 y.2.1 y.2.2.1 y.2.2.2.1 y.2.2.2.2.1 y.2.2.2.2.2.1 y.2.2.2.2.2.2})]
theorem X1B.pure(a0:(Int×(Int×(Int×(Int×(List U4q))))))(h:True)(hw:Wf X59.A a0):X1B.F a0:=by
 delta X1B.F ln tN wI eS
 have hB:X2R a0.2.2.1 a0.2.2.2.1=true→(a0.2.2.2.2.length:Int)≤60→IntKind.wrap .i64 (a0.2.2.1+(a0.2.2.2.2.length:Int))=a0.2.2.1+(a0.2.2.2.2.length:Int):=fun h1 h2=>by
  have:=X9x h1
  exact w64 (by omega) (by omega)
 simp only[Bs,B0,B1,Prod.mk.injEq,X04,tsI,tsM,tkI,Prod.eta]
 repeat' (with_reducible (first | (refine And.intro ?_ ?_) | intro _))
 all_goals (try simp (disch:=omega) only[w64,wu8,tn0,tn1,tm1,tm2,List.length_append,List.length_cons,List.length_nil]at*)
 all_goals (try simp (disch:=omega) only[w64,wu8,tn0,tn1,tm1,tm2,List.length_append,List.length_cons,List.length_nil]at*)
 all_goals (try omega)
 all_goals (try grind[X2g,Xdb,Xfd,Xhc,tmOf,X2R,X34])
theorem X1B.eq:EqS X59 Try.f93 [4] [X23.e,X1r.e] [] (fun i x=>X1B.L x) (fun i x=>X1B.F x):=by intro i x;kernel_rfl
theorem X1B.ok:X0D Try.prog 93 X59:=X2U X1B.eq Try.func93 rfl (by kernel_rfl) fun i x h hi hw=>X1B.pure x h hw
def X1B.e:GE:=⟨93,X59,⟨_,Try.func93,rfl,rfl⟩,X1B.ok⟩
def XfZ(l:List Int)(x:Int):Int:=match (List.range l.length).find? (fun j=>l.getD j 0==x) with
 | some j=>(j:Int)
 | none=>-1
theorem Xds{l:List Int}{x:Int}{j:Nat}(hj:j<l.length)(h:x=l.getD j 0)(hn:∀i,i<j→l.getD i 0≠x):XfZ l x=(j:Int):=by
 unfold XfZ
 have e:(List.range l.length).find? (fun j=>l.getD j 0==x)=some j:=(List.find?_range_eq_some (p:=fun j=>l.getD j 0==x)).2 ⟨by rw[h];exact beq_self_eq_true _,by simpa using hj,fun i hi=>by simpa using hn i hi⟩
 rw[e]
theorem Xdk{l:List Int}{x:Int}(hn:∀i,i<l.length→l.getD i 0≠x):XfZ l x= -1:=by
 unfold XfZ
 rw[List.find?_eq_none.2 fun i hi=>by simpa using hn i (by simpa using hi)]
def Xd1(l:List Int)(x:Int):Bool:=decide (XfZ l x≥0)
theorem XhA{l:List Int}{x:Int}{j:Nat}(hj:j<l.length)(h:l.getD j 0=x)(hn:∀i,i<j→l.getD i 0≠x):Xd1 l x=true:=by
 unfold Xd1;rw[Xds hj h.symm hn,decide_eq_true (by omega)]
theorem XhX{l:List Int}{x:Int}(hn:∀i,i<l.length→l.getD i 0≠x):Xd1 l x=false:=by
 unfold Xd1;rw[Xdk hn];rfl
def Xfl(l:List Int)(x i:Int):Prop:=0≤i∧i≤l.length∧∀j,j<i.toNat→l.getD j 0≠x
def Xgv(l:List Int)(x i:Int):Nat:=(l.length - i).toNat
def XhO(c:X1Q)(j:Nat):Bool:=fIn (c.2.2.2.2.2.2.2.2.2.2.1.getD j 0) 0 (IntKind.wrap .i64 (c.2.1 - 1))&&(decide (j=0)||decide (c.2.2.2.2.2.2.2.2.2.2.1.getD (j - 1) 0<c.2.2.2.2.2.2.2.2.2.2.1.getD j 0))
def X8r(c:X1Q):Bool:=(List.range c.2.2.2.2.2.2.2.2.2.2.1.length).all (XhO c)&&(Xd1 c.2.2.2.2.2.2.2.2.2.2.1 c.1&&!decide (IntKind.wrap .i64 (2*(c.2.2.2.2.2.2.2.2.2.2.1.length:Int))>c.2.1))
def skI(c:X1Q)(i:Int)(a0 a1 a2 a3 a4 a5 a6 a7:Int)(a8:List Ent)(a9:Int)(a10 a11 a12:List Int):Prop:=(((a0,(a1,(a2,(a3,(a4,(a5,(a6,(a7,(a8,(a9,(a10,(a11,a12)))))))))))):X1Q)=c)∧0≤i∧i≤c.2.2.2.2.2.2.2.2.2.2.1.length∧∀j,j<i.toNat→XhO c j=true
def skM(c:X1Q)(i:Int)(a0 a1 a2 a3 a4 a5 a6 a7:Int)(a8:List Ent)(a9:Int)(a10 a11 a12:List Int):Nat:=(c.2.2.2.2.2.2.2.2.2.2.1.length - i).toNat
def Xh1(c:X1Q)(j:Nat):Bool:=decide (0≤c.2.2.2.2.2.2.2.2.2.2.2.2.getD j 0)&&(decide (c.2.2.2.2.2.2.2.2.2.2.2.2.getD j 0<c.2.2.2.2.2.2.2.2.2.2.2.1.getD j 0)&&decide (c.2.2.2.2.2.2.2.2.2.2.2.1.getD j 0≤IntKind.wrap .i64 (X05 c+1)))
def X70(c:X1Q):Bool:=decide ((c.2.2.2.2.2.2.2.2.2.2.2.1.length:Int)=c.2.1)&&(decide ((c.2.2.2.2.2.2.2.2.2.2.2.2.length:Int)=c.2.1)&&((List.range c.2.2.2.2.2.2.2.2.2.2.2.1.length).all (Xh1 c)&&decide (c.2.2.2.2.2.2.2.2.2.2.2.2.getD c.1.toNat 0=X05 c)))
def X2G(c:X1Q):Prop:=c.2.2.2.2.2.2.2.2.1.length≤1099511627776∧c.2.2.2.2.2.2.2.2.2.2.1.length≤1099511627776∧c.2.2.2.2.2.2.2.2.2.2.2.1.length≤1099511627776∧c.2.2.2.2.2.2.2.2.2.2.2.2.length≤1099511627776
def XfU(c:X1Q):Prop:=X2G c∧0≤c.1∧c.1<c.2.1
def ldI(c:X1Q)(i:Int)(a0 a1 a2 a3 a4 a5 a6 a7:Int)(a8:List Ent)(a9:Int)(a10 a11 a12:List Int):Prop:=(((a0,(a1,(a2,(a3,(a4,(a5,(a6,(a7,(a8,(a9,(a10,(a11,a12)))))))))))):X1Q)=c)∧0≤i∧i≤c.2.2.2.2.2.2.2.2.2.2.2.1.length∧∀j,j<i.toNat→Xh1 c j=true
def ldM(c:X1Q)(i:Int)(a0 a1 a2 a3 a4 a5 a6 a7:Int)(a8:List Ent)(a9:Int)(a10 a11 a12:List Int):Nat:=(c.2.2.2.2.2.2.2.2.2.2.2.1.length - i).toNat
theorem XgT{p:Nat→Bool}{n:Nat}(h:∀j,j<n→p j=true):(List.range n).all p=true:=by
 simp only[List.all_eq_true,List.mem_range];exact h
theorem XgO{p:Nat→Bool}{n j:Nat}(hj:j<n)(h:p j=false):(List.range n).all p=false:=by
 rw[Bool.eq_false_iff];intro hh
 simp only[List.all_eq_true,List.mem_range]at hh
 rw[hh j hj]at h;cases h
def X1S:Con:={A:=(.pair T6q (.int .i64)),shA:=[.one,.one],R:=(.int .i64),shR:=[(false,1)],pre:=fun _ _=>True,f:=some fun _ a=>((XfZ a.1 a.2),((),()))}
def X0c.F(a0:(List Int))(a1:Int):Prop:=(eS [(0,.val false [.lst (.int .i64) a0 none]),(1,.val false [.int .i64 a1]),(7,.val false [.int .i64 (ln a0)])] [(0,.val false [.lst (.int .i64) a0 none]),(1,.val false [.int .i64 a1]),(7,.val false [.int .i64 (ln a0)])]∧((Xfl a0 a1 0)∧∀(y1:Int),(Xfl a0 a1 y1)→(X02 (decide (y1<(ln a0))) (0≤y1∧(y1<(ln a0)∧(X02 (a1==(List.getD a0 (tN y1) 0)) (Eq (y1,((),())) ((XfZ a0 a1),((),()))) (eS [(0,.val false [.lst (.int .i64) a0 none]),(1,.val false [.int .i64 a1]),(7,.val false [.int .i64 (ln a0)])] [(0,.val false [.lst (.int .i64) a0 none]),(1,.val false [.int .i64 a1]),(7,.val false [.int .i64 (ln a0)])]∧(Xfl a0 a1 (wI (y1+(1:Int))))∧(Xgv a0 a1 (wI (y1+(1:Int))))<(Xgv a0 a1 y1))))) (Eq ((-1),((),())) ((XfZ a0 a1),((),()))))))
def X0c.L(a0:(List Int))(a1:Int):Nat→Option X0i:=fun p=>Go.Proofs.Ytegmokdppbagiaa.Bv.look p [(26,{kp:={hold:=[0,1,7],slots:=[8],boxes:=[],rows:=[]},T:=(.int .i64),I:=fun st y=>Xfl a0 a1 y,μ:=fun st y=>Xgv a0 a1 y})]
theorem X0c.pure(a0:(List Int))(a1:Int)(h:True)(hw:Wf X1S.A (a0,a1)):X0c.F a0 a1:=by
 delta X0c.F ln tN wI eS
 have hw1:a0.length≤9223372036854775807:=hw.1.1
 simp only[Bs,B0,B1,Prod.mk.injEq,X04,Xfl,Xgv]
 repeat' (with_reducible (first | (refine And.intro ?_ ?_) | intro _))
 all_goals (try simp (disch:=omega) only[w64,wu8,tn0,tn1,tm1,tm2,List.length_append,List.length_cons,List.length_nil]at*)
 all_goals (try simp (disch:=omega) only[w64,wu8,tn0,tn1,tm1,tm2,List.length_append,List.length_cons,List.length_nil]at*)
 all_goals (try omega)
 all_goals (try grind[Xds,Xdk])
theorem X0c.eq:EqS X1S Try.f123 [3] [] [] (fun i x=>X0c.L x.1 x.2) (fun i x=>X0c.F x.1 x.2):=by intro i x;kernel_rfl
theorem X0c.ok:X0D Try.prog 123 X1S:=X2U X0c.eq Try.func123 rfl (by kernel_rfl) fun i x h hi hw=>X0c.pure x.1 x.2 h hw
def X0c.e:GE:=⟨123,X1S,⟨_,Try.func123,rfl,rfl⟩,X0c.ok⟩
def X1i:Con:={A:=(.pair T6q (.int .i64)),shA:=[.one,.one],R:=.bool,shR:=[(false,1)],pre:=fun _ _=>True,f:=some fun _ a=>((Xd1 a.1 a.2),((),()))}
def X0b.F(a0:(List Int))(a1:Int):Prop:=(True∧∀r1,(Eq r1 ((XfZ a0 a1),((),())))→(Eq ((decide (r1.1≥(0:Int))),((),())) ((Xd1 a0 a1),((),()))))
theorem X0b.pure(a0:(List Int))(a1:Int)(h:True)(hw:Wf X1i.A (a0,a1)):X0b.F a0 a1:=by
 unfold X0b.F
 simp only[Bs,B0,B1,Prod.mk.injEq,X04]
 repeat' (with_reducible (first | (refine And.intro ?_ ?_) | intro _))
 all_goals (try simp (disch:=omega) only[w64,wu8,tn0,tn1,tm1,tm2,List.length_append,List.length_cons,List.length_nil]at*)
 all_goals (try simp (disch:=omega) only[w64,wu8,tn0,tn1,tm1,tm2,List.length_append,List.length_cons,List.length_nil]at*)
 all_goals (try omega)
 all_goals (try grind[Xd1])
theorem X0b.eq:EqS X1i Try.f117 [4] [X0c.e] [] noL (fun i x=>X0b.F x.1 x.2):=by intro i x;kernel_rfl
theorem X0b.ok:X0D Try.prog 117 X1i:=X2U X0b.eq Try.func117 rfl (by kernel_rfl) fun i x h hi hw=>X0b.pure x.1 x.2 h hw
def X0b.e:GE:=⟨117,X1i,⟨_,Try.func117,rfl,rfl⟩,X0b.ok⟩
def X4X:Con:={A:=(.pair T6q (.int .i64)),shA:=[.one,.one],R:=.bool,shR:=[(false,1)],pre:=fun _ _=>True,f:=some fun _ a=>((Xd1 a.1 a.2),((),()))}
def X1C.F(a0:(List Int))(a1:Int):Prop:=(eS [(0,.val false [.lst (.int .i64) a0 none]),(1,.val false [.int .i64 a1])] [(0,.val false [.lst (.int .i64) a0 none]),(1,.val false [.int .i64 a1])]∧((Xfl a0 a1 0)∧∀(y1:Int),(Xfl a0 a1 y1)→(X02 (decide (y1<(ln a0))) (0≤y1∧(y1<(ln a0)∧(X02 ((List.getD a0 (tN y1) 0)==a1) (Eq (true,((),())) ((Xd1 a0 a1),((),()))) (eS [(0,.val false [.lst (.int .i64) a0 none]),(1,.val false [.int .i64 a1])] [(0,.val false [.lst (.int .i64) a0 none]),(1,.val false [.int .i64 a1])]∧(Xfl a0 a1 (wI (y1+(1:Int))))∧(Xgv a0 a1 (wI (y1+(1:Int))))<(Xgv a0 a1 y1))))) (Eq (false,((),())) ((Xd1 a0 a1),((),()))))))
def X1C.L(a0:(List Int))(a1:Int):Nat→Option X0i:=fun p=>Go.Proofs.Ytegmokdppbagiaa.Bv.look p [(26,{kp:={hold:=[0,1],slots:=[5],boxes:=[],rows:=[]},T:=(.int .i64),I:=fun st y=>Xfl a0 a1 y,μ:=fun st y=>Xgv a0 a1 y})]
theorem X1C.pure(a0:(List Int))(a1:Int)(h:True)(hw:Wf X4X.A (a0,a1)):X1C.F a0 a1:=by
 delta X1C.F ln tN wI eS
 have hw1:a0.length≤9223372036854775807:=hw.1.1
 simp only[Bs,B0,B1,Prod.mk.injEq,X04,Xfl,Xgv]
 repeat' (with_reducible (first | (refine And.intro ?_ ?_) | intro _))
 all_goals (try simp (disch:=omega) only[w64,wu8,tn0,tn1,tm1,tm2,List.length_append,List.length_cons,List.length_nil]at*)
 all_goals (try simp (disch:=omega) only[w64,wu8,tn0,tn1,tm1,tm2,List.length_append,List.length_cons,List.length_nil]at*)
 all_goals (try omega)
 all_goals (try grind[XhA,XhX])
theorem X1C.eq:EqS X4X Try.f95 [4] [] [] (fun i x=>X1C.L x.1 x.2) (fun i x=>X1C.F x.1 x.2):=by intro i x;kernel_rfl
theorem X1C.ok:X0D Try.prog 95 X4X:=X2U X1C.eq Try.func95 rfl (by kernel_rfl) fun i x h hi hw=>X1C.pure x.1 x.2 h hw
def X1C.e:GE:=⟨95,X4X,⟨_,Try.func95,rfl,rfl⟩,X1C.ok⟩
def X41:Con:={A:=T0q,shA:=[.ptr 13],R:=(.int .i64),shR:=[(false,1)],pre:=fun _ _=>True,f:=some fun _ a=>((X05 a),((),()))}
def X0A.F(a0:U1q):Prop:=(Eq ((wI (a0.2.2.2.2.2.2.1+(ln a0.2.2.2.2.2.2.2.2.1))),((),())) ((X05 a0),((),())))
theorem X0A.pure(a0:U1q)(h:True)(hw:Wf X41.A a0):X0A.F a0:=by
 delta X0A.F ln wI
 simp only[Bs,B0,B1,Prod.mk.injEq,X04,Prod.eta,X05]
 repeat' (with_reducible (first | (refine And.intro ?_ ?_) | intro _))
 all_goals (try simp (disch:=omega) only[w64,wu8,tn0,tn1,tm1,tm2,List.length_append,List.length_cons,List.length_nil]at*)
 all_goals (try simp (disch:=omega) only[w64,wu8,tn0,tn1,tm1,tm2,List.length_append,List.length_cons,List.length_nil]at*)
 all_goals (try omega)
 all_goals (try grind[])
theorem X0A.eq:EqS X41 Try.f68 [3] [] [] noL (fun i x=>X0A.F x):=by intro i x;kernel_rfl
theorem X0A.ok:X0D Try.prog 68 X41:=X2U X0A.eq Try.func68 rfl (by kernel_rfl) fun i x h hi hw=>X0A.pure x h hw
def X0A.e:GE:=⟨68,X41,⟨_,Try.func68,rfl,rfl⟩,X0A.ok⟩
def X2x:Con:={A:=(.pair T0q (.int .i64)),shA:=[.ptr 13,.one],R:=.bool,shR:=[(false,1)],pre:=fun _ _=>True,f:=some fun _ a=>((Xgl a.1 a.2),((),()))}
def X0r.F(a0:U1q)(a1:Int):Prop:=(Eq ((decide ((wI ((2:Int)*a1))>a0.2.1)),((),())) ((Xgl a0 a1),((),())))
theorem X0r.pure(a0:U1q)(a1:Int)(h:True)(hw:Wf X2x.A (a0,a1)):X0r.F a0 a1:=by
 delta X0r.F wI
 simp only[Bs,B0,B1,Prod.mk.injEq,X04,Prod.eta,Xgl]
 repeat' (with_reducible (first | (refine And.intro ?_ ?_) | intro _))
 all_goals (try simp (disch:=omega) only[w64,wu8,tn0,tn1,tm1,tm2,List.length_append,List.length_cons,List.length_nil]at*)
 all_goals (try simp (disch:=omega) only[w64,wu8,tn0,tn1,tm1,tm2,List.length_append,List.length_cons,List.length_nil]at*)
 all_goals (try omega)
 all_goals (try grind[])
theorem X0r.eq:EqS X2x Try.f71 [4] [] [] noL (fun i x=>X0r.F x.1 x.2):=by intro i x;kernel_rfl
theorem X0r.ok:X0D Try.prog 71 X2x:=X2U X0r.eq Try.func71 rfl (by kernel_rfl) fun i x h hi hw=>X0r.pure x.1 x.2 h hw
def X0r.e:GE:=⟨71,X2x,⟨_,Try.func71,rfl,rfl⟩,X0r.ok⟩
def X3Z:Con:={A:=T0q,shA:=[.agg 13],R:=(.int .i64),shR:=[(false,1)],pre:=fun _ _=>True,f:=some fun _ a=>((X05 a),((),()))}
def X0E.F(a0:U1q):Prop:=(Eq ((wI (a0.2.2.2.2.2.2.1+(ln a0.2.2.2.2.2.2.2.2.1))),((),())) ((X05 a0),((),())))
theorem X0E.pure(a0:U1q)(h:True)(hw:Wf X3Z.A a0):X0E.F a0:=by
 delta X0E.F ln wI
 simp only[Bs,B0,B1,Prod.mk.injEq,X04,Prod.eta,X05]
 repeat' (with_reducible (first | (refine And.intro ?_ ?_) | intro _))
 all_goals (try simp (disch:=omega) only[w64,wu8,tn0,tn1,tm1,tm2,List.length_append,List.length_cons,List.length_nil]at*)
 all_goals (try simp (disch:=omega) only[w64,wu8,tn0,tn1,tm1,tm2,List.length_append,List.length_cons,List.length_nil]at*)
 all_goals (try omega)
 all_goals (try grind[])
theorem X0E.eq:EqS X3Z Try.f64 [3] [] [] noL (fun i x=>X0E.F x):=by intro i x;kernel_rfl
theorem X0E.ok:X0D Try.prog 64 X3Z:=X2U X0E.eq Try.func64 rfl (by kernel_rfl) fun i x h hi hw=>X0E.pure x h hw
def X0E.e:GE:=⟨64,X3Z,⟨_,Try.func64,rfl,rfl⟩,X0E.ok⟩
def X4r:Con:={A:=(.pair T0q (.int .i64)),shA:=[.agg 13,.one],R:=.bool,shR:=[(false,1)],pre:=fun _ _=>True,f:=some fun _ a=>((X2M a.1 a.2),((),()))}
def X1u.F(a0:U1q)(a1:Int):Prop:=(True∧∀r1,(Eq r1 ((fIn a1 0 (wI (a0.2.1 - (1:Int)))),((),())))→(Eq (r1.1,((),())) ((X2M a0 a1),((),()))))
theorem X1u.pure(a0:U1q)(a1:Int)(h:True)(hw:Wf X4r.A (a0,a1)):X1u.F a0 a1:=by
 delta X1u.F wI
 simp only[Bs,B0,B1,Prod.mk.injEq,X04,Prod.eta,X2M]
 repeat' (with_reducible (first | (refine And.intro ?_ ?_) | intro _))
 all_goals (try simp (disch:=omega) only[w64,wu8,tn0,tn1,tm1,tm2,List.length_append,List.length_cons,List.length_nil]at*)
 all_goals (try simp (disch:=omega) only[w64,wu8,tn0,tn1,tm1,tm2,List.length_append,List.length_cons,List.length_nil]at*)
 all_goals (try omega)
 all_goals (try grind[])
theorem X1u.eq:EqS X4r Try.f98 [4] [X1k.e] [] noL (fun i x=>X1u.F x.1 x.2):=by intro i x;kernel_rfl
theorem X1u.ok:X0D Try.prog 98 X4r:=X2U X1u.eq Try.func98 rfl (by kernel_rfl) fun i x h hi hw=>X1u.pure x.1 x.2 h hw
def X1u.e:GE:=⟨98,X4r,⟨_,Try.func98,rfl,rfl⟩,X1u.ok⟩
def X4s:Con:={A:=T0q,shA:=[.agg 13],R:=.bool,shR:=[(false,1)],pre:=fun _ a=>(X2G a),f:=some fun _ a=>((X8r a),((),()))}
def X1b.F(a0:U1q):Prop:=(eS [(1,.box 2 0),(6,.val false [.lst (.int .i64) a0.2.2.2.2.2.2.2.2.2.2.1 none]),(7,.val false [.int .i64 (ln a0.2.2.2.2.2.2.2.2.2.2.1)])] [(1,.box 2 0),(6,.val false [.lst (.int .i64) a0.2.2.2.2.2.2.2.2.2.2.1 none]),(7,.val false [.int .i64 (ln a0.2.2.2.2.2.2.2.2.2.2.1)])]∧((skI a0 0 a0.1 a0.2.1 a0.2.2.1 a0.2.2.2.1 a0.2.2.2.2.1 a0.2.2.2.2.2.1 a0.2.2.2.2.2.2.1 a0.2.2.2.2.2.2.2.1 a0.2.2.2.2.2.2.2.2.1 a0.2.2.2.2.2.2.2.2.2.1 a0.2.2.2.2.2.2.2.2.2.2.1 a0.2.2.2.2.2.2.2.2.2.2.2.1 a0.2.2.2.2.2.2.2.2.2.2.2.2)∧∀(y1:(Int×U1q)),(skI a0 y1.1 y1.2.1 y1.2.2.1 y1.2.2.2.1 y1.2.2.2.2.1 y1.2.2.2.2.2.1 y1.2.2.2.2.2.2.1 y1.2.2.2.2.2.2.2.1 y1.2.2.2.2.2.2.2.2.1 y1.2.2.2.2.2.2.2.2.2.1 y1.2.2.2.2.2.2.2.2.2.2.1 y1.2.2.2.2.2.2.2.2.2.2.2.1 y1.2.2.2.2.2.2.2.2.2.2.2.2.1 y1.2.2.2.2.2.2.2.2.2.2.2.2.2)→(X02 (decide (y1.1<(ln a0.2.2.2.2.2.2.2.2.2.2.1))) (0≤y1.1∧(y1.1<(ln a0.2.2.2.2.2.2.2.2.2.2.1)∧(True∧∀r2,(Eq r2 ((X2M (y1.2.1,(y1.2.2.1,(y1.2.2.2.1,(y1.2.2.2.2.1,(y1.2.2.2.2.2.1,(y1.2.2.2.2.2.2.1,(y1.2.2.2.2.2.2.2.1,(y1.2.2.2.2.2.2.2.2.1,(y1.2.2.2.2.2.2.2.2.2.1,(y1.2.2.2.2.2.2.2.2.2.2.1,(y1.2.2.2.2.2.2.2.2.2.2.2.1,(y1.2.2.2.2.2.2.2.2.2.2.2.2.1,y1.2.2.2.2.2.2.2.2.2.2.2.2.2)))))))))))) (List.getD a0.2.2.2.2.2.2.2.2.2.2.1 (tN y1.1) 0)),((),())))→(X02 (!r2.1) (Eq (false,((),())) ((X8r a0),((),()))) (X02 (decide (y1.1>(0:Int))) (0≤(wI (y1.1 - (1:Int)))∧((wI (y1.1 - (1:Int)))<(ln y1.2.2.2.2.2.2.2.2.2.2.2.1)∧(X02 (decide ((List.getD y1.2.2.2.2.2.2.2.2.2.2.2.1 (tN (wI (y1.1 - (1:Int)))) 0)≥(List.getD a0.2.2.2.2.2.2.2.2.2.2.1 (tN y1.1) 0))) (Eq (false,((),())) ((X8r a0),((),()))) (eS [(1,.box 2 0),(6,.val false [.lst (.int .i64) a0.2.2.2.2.2.2.2.2.2.2.1 none]),(7,.val false [.int .i64 (ln a0.2.2.2.2.2.2.2.2.2.2.1)])] [(1,.box 2 0),(6,.val false [.lst (.int .i64) a0.2.2.2.2.2.2.2.2.2.2.1 none]),(7,.val false [.int .i64 (ln a0.2.2.2.2.2.2.2.2.2.2.1)])]∧(skI a0 (wI (y1.1+(1:Int))) y1.2.1 y1.2.2.1 y1.2.2.2.1 y1.2.2.2.2.1 y1.2.2.2.2.2.1 y1.2.2.2.2.2.2.1 y1.2.2.2.2.2.2.2.1 y1.2.2.2.2.2.2.2.2.1 y1.2.2.2.2.2.2.2.2.2.1 y1.2.2.2.2.2.2.2.2.2.2.1 y1.2.2.2.2.2.2.2.2.2.2.2.1 y1.2.2.2.2.2.2.2.2.2.2.2.2.1 y1.2.2.2.2.2.2.2.2.2.2.2.2.2)∧(skM a0 (wI (y1.1+(1:Int))) y1.2.1 y1.2.2.1 y1.2.2.2.1 y1.2.2.2.2.1 y1.2.2.2.2.2.1 y1.2.2.2.2.2.2.1 y1.2.2.2.2.2.2.2.1 y1.2.2.2.2.2.2.2.2.1 y1.2.2.2.2.2.2.2.2.2.1 y1.2.2.2.2.2.2.2.2.2.2.1 y1.2.2.2.2.2.2.2.2.2.2.2.1 y1.2.2.2.2.2.2.2.2.2.2.2.2.1 y1.2.2.2.2.2.2.2.2.2.2.2.2.2)<(skM a0 y1.1 y1.2.1 y1.2.2.1 y1.2.2.2.1 y1.2.2.2.2.1 y1.2.2.2.2.2.1 y1.2.2.2.2.2.2.1 y1.2.2.2.2.2.2.2.1 y1.2.2.2.2.2.2.2.2.1 y1.2.2.2.2.2.2.2.2.2.1 y1.2.2.2.2.2.2.2.2.2.2.1 y1.2.2.2.2.2.2.2.2.2.2.2.1 y1.2.2.2.2.2.2.2.2.2.2.2.2.1 y1.2.2.2.2.2.2.2.2.2.2.2.2.2))))) (eS [(1,.box 2 0),(6,.val false [.lst (.int .i64) a0.2.2.2.2.2.2.2.2.2.2.1 none]),(7,.val false [.int .i64 (ln a0.2.2.2.2.2.2.2.2.2.2.1)])] [(1,.box 2 0),(6,.val false [.lst (.int .i64) a0.2.2.2.2.2.2.2.2.2.2.1 none]),(7,.val false [.int .i64 (ln a0.2.2.2.2.2.2.2.2.2.2.1)])]∧(skI a0 (wI (y1.1+(1:Int))) y1.2.1 y1.2.2.1 y1.2.2.2.1 y1.2.2.2.2.1 y1.2.2.2.2.2.1 y1.2.2.2.2.2.2.1 y1.2.2.2.2.2.2.2.1 y1.2.2.2.2.2.2.2.2.1 y1.2.2.2.2.2.2.2.2.2.1 y1.2.2.2.2.2.2.2.2.2.2.1 y1.2.2.2.2.2.2.2.2.2.2.2.1 y1.2.2.2.2.2.2.2.2.2.2.2.2.1 y1.2.2.2.2.2.2.2.2.2.2.2.2.2)∧(skM a0 (wI (y1.1+(1:Int))) y1.2.1 y1.2.2.1 y1.2.2.2.1 y1.2.2.2.2.1 y1.2.2.2.2.2.1 y1.2.2.2.2.2.2.1 y1.2.2.2.2.2.2.2.1 y1.2.2.2.2.2.2.2.2.1 y1.2.2.2.2.2.2.2.2.2.1 y1.2.2.2.2.2.2.2.2.2.2.1 y1.2.2.2.2.2.2.2.2.2.2.2.1 y1.2.2.2.2.2.2.2.2.2.2.2.2.1 y1.2.2.2.2.2.2.2.2.2.2.2.2.2)<(skM a0 y1.1 y1.2.1 y1.2.2.1 y1.2.2.2.1 y1.2.2.2.2.1 y1.2.2.2.2.2.1 y1.2.2.2.2.2.2.1 y1.2.2.2.2.2.2.2.1 y1.2.2.2.2.2.2.2.2.1 y1.2.2.2.2.2.2.2.2.2.1 y1.2.2.2.2.2.2.2.2.2.2.1 y1.2.2.2.2.2.2.2.2.2.2.2.1 y1.2.2.2.2.2.2.2.2.2.2.2.2.1 y1.2.2.2.2.2.2.2.2.2.2.2.2.2))))))) (True∧∀r3,(Eq r3 ((Xd1 y1.2.2.2.2.2.2.2.2.2.2.2.1 y1.2.1),((),())))→(X02 r3.1 (True∧∀r4,(Eq r4 ((Xgl (y1.2.1,(y1.2.2.1,(y1.2.2.2.1,(y1.2.2.2.2.1,(y1.2.2.2.2.2.1,(y1.2.2.2.2.2.2.1,(y1.2.2.2.2.2.2.2.1,(y1.2.2.2.2.2.2.2.2.1,(y1.2.2.2.2.2.2.2.2.2.1,(y1.2.2.2.2.2.2.2.2.2.2.1,(y1.2.2.2.2.2.2.2.2.2.2.2.1,(y1.2.2.2.2.2.2.2.2.2.2.2.2.1,y1.2.2.2.2.2.2.2.2.2.2.2.2.2)))))))))))) (ln y1.2.2.2.2.2.2.2.2.2.2.2.1)),((),())))→(Eq ((!r4.1),((),())) ((X8r a0),((),())))) (Eq (false,((),())) ((X8r a0),((),()))))))))
def X1b.L(a0:U1q):Nat→Option X0i:=fun p=>Go.Proofs.Ytegmokdppbagiaa.Bv.look p [(26,{kp:={hold:=[1,6,7],slots:=[8],boxes:=[2],rows:=[]},T:=(.pair (.int .i64) T0q),I:=fun st y=>skI a0 y.1 y.2.1 y.2.2.1 y.2.2.2.1 y.2.2.2.2.1 y.2.2.2.2.2.1 y.2.2.2.2.2.2.1 y.2.2.2.2.2.2.2.1 y.2.2.2.2.2.2.2.2.1 y.2.2.2.2.2.2.2.2.2.1 y.2.2.2.2.2.2.2.2.2.2.1 y.2.2.2.2.2.2.2.2.2.2.2.1 y.2.2.2.2.2.2.2.2.2.2.2.2.1 y.2.2.2.2.2.2.2.2.2.2.2.2.2,μ:=fun st y=>skM a0 y.1 y.2.1 y.2.2.1 y.2.2.2.1 y.2.2.2.2.1 y.2.2.2.2.2.1 y.2.2.2.2.2.2.1 y.2.2.2.2.2.2.2.1 y.2.2.2.2.2.2.2.2.1 y.2.2.2.2.2.2.2.2.2.1 y.2.2.2.2.2.2.2.2.2.2.1 y.2.2.2.2.2.2.2.2.2.2.2.1 y.2.2.2.2.2.2.2.2.2.2.2.2.1 y.2.2.2.2.2.2.2.2.2.2.2.2.2})]
theorem X1b.pure(a0:U1q)(h:(X2G a0))(hw:Wf X4s.A a0):X1b.F a0:=by
 delta X1b.F ln tN wI eS
 obtain⟨p0,p1,p2,p3⟩:=h
 simp only[Bs,B0,B1,Prod.mk.injEq,X04,skI,skM,Prod.eta,X2M,Xgl,X2G]
 repeat' (with_reducible (first | (refine And.intro ?_ ?_) | intro _))
 all_goals (try simp (disch:=omega) only[w64,wu8,tn0,tn1,tm1,tm2,List.length_append,List.length_cons,List.length_nil]at*)
 all_goals (try simp (disch:=omega) only[w64,wu8,tn0,tn1,tm1,tm2,List.length_append,List.length_cons,List.length_nil]at*)
 all_goals (try omega)
 all_goals (try grind[X8r,XgT,XgO,XhO])
theorem X1b.eq:EqS X4s Try.f101 [4] [X0r.e,X1u.e,X0b.e] [] (fun i x=>X1b.L x) (fun i x=>X1b.F x):=by intro i x;kernel_rfl
theorem X1b.ok:X0D Try.prog 101 X4s:=X2U X1b.eq Try.func101 rfl (by kernel_rfl) fun i x h hi hw=>X1b.pure x h hw
def X1b.e:GE:=⟨101,X4s,⟨_,Try.func101,rfl,rfl⟩,X1b.ok⟩
def X4o:Con:={A:=T0q,shA:=[.agg 13],R:=.bool,shR:=[(false,1)],pre:=fun _ a=>(XfU a),f:=some fun _ a=>((X70 a),((),()))}
def X1g.F(a0:U1q):Prop:=(X02 ((ln a0.2.2.2.2.2.2.2.2.2.2.2.1)!=a0.2.1) (Eq (false,((),())) ((X70 a0),((),()))) (X02 ((ln a0.2.2.2.2.2.2.2.2.2.2.2.2)!=a0.2.1) (Eq (false,((),())) ((X70 a0),((),()))) (eS [(1,.box 2 0),(20,.val false [.lst (.int .i64) a0.2.2.2.2.2.2.2.2.2.2.2.1 none]),(21,.val false [.int .i64 (ln a0.2.2.2.2.2.2.2.2.2.2.2.1)])] [(1,.box 2 0),(20,.val false [.lst (.int .i64) a0.2.2.2.2.2.2.2.2.2.2.2.1 none]),(21,.val false [.int .i64 (ln a0.2.2.2.2.2.2.2.2.2.2.2.1)])]∧((ldI a0 0 a0.1 a0.2.1 a0.2.2.1 a0.2.2.2.1 a0.2.2.2.2.1 a0.2.2.2.2.2.1 a0.2.2.2.2.2.2.1 a0.2.2.2.2.2.2.2.1 a0.2.2.2.2.2.2.2.2.1 a0.2.2.2.2.2.2.2.2.2.1 a0.2.2.2.2.2.2.2.2.2.2.1 a0.2.2.2.2.2.2.2.2.2.2.2.1 a0.2.2.2.2.2.2.2.2.2.2.2.2)∧∀(y1:(Int×U1q)),(ldI a0 y1.1 y1.2.1 y1.2.2.1 y1.2.2.2.1 y1.2.2.2.2.1 y1.2.2.2.2.2.1 y1.2.2.2.2.2.2.1 y1.2.2.2.2.2.2.2.1 y1.2.2.2.2.2.2.2.2.1 y1.2.2.2.2.2.2.2.2.2.1 y1.2.2.2.2.2.2.2.2.2.2.1 y1.2.2.2.2.2.2.2.2.2.2.2.1 y1.2.2.2.2.2.2.2.2.2.2.2.2.1 y1.2.2.2.2.2.2.2.2.2.2.2.2.2)→(X02 (decide (y1.1<(ln a0.2.2.2.2.2.2.2.2.2.2.2.1))) (0≤y1.1∧(y1.1<(ln a0.2.2.2.2.2.2.2.2.2.2.2.1)∧(0≤y1.1∧(y1.1<(ln y1.2.2.2.2.2.2.2.2.2.2.2.2.2)∧(X02 (decide ((List.getD y1.2.2.2.2.2.2.2.2.2.2.2.2.2 (tN y1.1) 0)<(0:Int))) (Eq (false,((),())) ((X70 a0),((),()))) (0≤y1.1∧(y1.1<(ln y1.2.2.2.2.2.2.2.2.2.2.2.2.2)∧(X02 (decide ((List.getD a0.2.2.2.2.2.2.2.2.2.2.2.1 (tN y1.1) 0)≤(List.getD y1.2.2.2.2.2.2.2.2.2.2.2.2.2 (tN y1.1) 0))) (Eq (false,((),())) ((X70 a0),((),()))) (True∧∀r2,(Eq r2 ((X05 (y1.2.1,(y1.2.2.1,(y1.2.2.2.1,(y1.2.2.2.2.1,(y1.2.2.2.2.2.1,(y1.2.2.2.2.2.2.1,(y1.2.2.2.2.2.2.2.1,(y1.2.2.2.2.2.2.2.2.1,(y1.2.2.2.2.2.2.2.2.2.1,(y1.2.2.2.2.2.2.2.2.2.2.1,(y1.2.2.2.2.2.2.2.2.2.2.2.1,(y1.2.2.2.2.2.2.2.2.2.2.2.2.1,y1.2.2.2.2.2.2.2.2.2.2.2.2.2))))))))))))),((),())))→(X02 (decide ((List.getD a0.2.2.2.2.2.2.2.2.2.2.2.1 (tN y1.1) 0)>(wI (r2.1+(1:Int))))) (Eq (false,((),())) ((X70 a0),((),()))) (eS [(1,.box 2 0),(20,.val false [.lst (.int .i64) a0.2.2.2.2.2.2.2.2.2.2.2.1 none]),(21,.val false [.int .i64 (ln a0.2.2.2.2.2.2.2.2.2.2.2.1)])] [(1,.box 2 0),(20,.val false [.lst (.int .i64) a0.2.2.2.2.2.2.2.2.2.2.2.1 none]),(21,.val false [.int .i64 (ln a0.2.2.2.2.2.2.2.2.2.2.2.1)])]∧(ldI a0 (wI (y1.1+(1:Int))) y1.2.1 y1.2.2.1 y1.2.2.2.1 y1.2.2.2.2.1 y1.2.2.2.2.2.1 y1.2.2.2.2.2.2.1 y1.2.2.2.2.2.2.2.1 y1.2.2.2.2.2.2.2.2.1 y1.2.2.2.2.2.2.2.2.2.1 y1.2.2.2.2.2.2.2.2.2.2.1 y1.2.2.2.2.2.2.2.2.2.2.2.1 y1.2.2.2.2.2.2.2.2.2.2.2.2.1 y1.2.2.2.2.2.2.2.2.2.2.2.2.2)∧(ldM a0 (wI (y1.1+(1:Int))) y1.2.1 y1.2.2.1 y1.2.2.2.1 y1.2.2.2.2.1 y1.2.2.2.2.2.1 y1.2.2.2.2.2.2.1 y1.2.2.2.2.2.2.2.1 y1.2.2.2.2.2.2.2.2.1 y1.2.2.2.2.2.2.2.2.2.1 y1.2.2.2.2.2.2.2.2.2.2.1 y1.2.2.2.2.2.2.2.2.2.2.2.1 y1.2.2.2.2.2.2.2.2.2.2.2.2.1 y1.2.2.2.2.2.2.2.2.2.2.2.2.2)<(ldM a0 y1.1 y1.2.1 y1.2.2.1 y1.2.2.2.1 y1.2.2.2.2.1 y1.2.2.2.2.2.1 y1.2.2.2.2.2.2.1 y1.2.2.2.2.2.2.2.1 y1.2.2.2.2.2.2.2.2.1 y1.2.2.2.2.2.2.2.2.2.1 y1.2.2.2.2.2.2.2.2.2.2.1 y1.2.2.2.2.2.2.2.2.2.2.2.1 y1.2.2.2.2.2.2.2.2.2.2.2.2.1 y1.2.2.2.2.2.2.2.2.2.2.2.2.2)))))))))))) (0≤y1.2.1∧(y1.2.1<(ln y1.2.2.2.2.2.2.2.2.2.2.2.2.2)∧(True∧∀r3,(Eq r3 ((X05 (y1.2.1,(y1.2.2.1,(y1.2.2.2.1,(y1.2.2.2.2.1,(y1.2.2.2.2.2.1,(y1.2.2.2.2.2.2.1,(y1.2.2.2.2.2.2.2.1,(y1.2.2.2.2.2.2.2.2.1,(y1.2.2.2.2.2.2.2.2.2.1,(y1.2.2.2.2.2.2.2.2.2.2.1,(y1.2.2.2.2.2.2.2.2.2.2.2.1,(y1.2.2.2.2.2.2.2.2.2.2.2.2.1,y1.2.2.2.2.2.2.2.2.2.2.2.2.2))))))))))))),((),())))→(Eq (((List.getD y1.2.2.2.2.2.2.2.2.2.2.2.2.2 (tN y1.2.1) 0)==r3.1),((),())) ((X70 a0),((),())))))))))))
def X1g.L(a0:U1q):Nat→Option X0i:=fun p=>Go.Proofs.Ytegmokdppbagiaa.Bv.look p [(58,{kp:={hold:=[1,20,21],slots:=[22],boxes:=[2],rows:=[]},T:=(.pair (.int .i64) T0q),I:=fun st y=>ldI a0 y.1 y.2.1 y.2.2.1 y.2.2.2.1 y.2.2.2.2.1 y.2.2.2.2.2.1 y.2.2.2.2.2.2.1 y.2.2.2.2.2.2.2.1 y.2.2.2.2.2.2.2.2.1 y.2.2.2.2.2.2.2.2.2.1 y.2.2.2.2.2.2.2.2.2.2.1 y.2.2.2.2.2.2.2.2.2.2.2.1 y.2.2.2.2.2.2.2.2.2.2.2.2.1 y.2.2.2.2.2.2.2.2.2.2.2.2.2,μ:=fun st y=>ldM a0 y.1 y.2.1 y.2.2.1 y.2.2.2.1 y.2.2.2.2.1 y.2.2.2.2.2.1 y.2.2.2.2.2.2.1 y.2.2.2.2.2.2.2.1 y.2.2.2.2.2.2.2.2.1 y.2.2.2.2.2.2.2.2.2.1 y.2.2.2.2.2.2.2.2.2.2.1 y.2.2.2.2.2.2.2.2.2.2.2.1 y.2.2.2.2.2.2.2.2.2.2.2.2.1 y.2.2.2.2.2.2.2.2.2.2.2.2.2})]
theorem X1g.pure(a0:U1q)(h:(XfU a0))(hw:Wf X4o.A a0):X1g.F a0:=by
 delta X1g.F ln tN wI eS
 obtain⟨⟨p0,p1,p2,p3⟩,p4,p5⟩:=h
 simp only[Bs,B0,B1,Prod.mk.injEq,X04,ldI,ldM,Prod.eta,X05,X2G]
 repeat' (with_reducible (first | (refine And.intro ?_ ?_) | intro _))
 all_goals (try simp (disch:=omega) only[w64,wu8,tn0,tn1,tm1,tm2,List.length_append,List.length_cons,List.length_nil]at*)
 all_goals (try simp (disch:=omega) only[w64,wu8,tn0,tn1,tm1,tm2,List.length_append,List.length_cons,List.length_nil]at*)
 all_goals (try omega)
 all_goals (try grind[X70,XgT,XgO,Xh1,X05])
theorem X1g.eq:EqS X4o Try.f102 [4] [X0A.e] [] (fun i x=>X1g.L x) (fun i x=>X1g.F x):=by intro i x;kernel_rfl
theorem X1g.ok:X0D Try.prog 102 X4o:=X2U X1g.eq Try.func102 rfl (by kernel_rfl) fun i x h hi hw=>X1g.pure x h hw
def X1g.e:GE:=⟨102,X4o,⟨_,Try.func102,rfl,rfl⟩,X1g.ok⟩
end Go.Proofs.Ytegmokdppbagiaa.B
