/- Values of the type Core:how large,the same,marked. -/
import Derived.Test.YtakllifahpfmpaaCTypes
import Derived.Test.YtakllifahpfmpaaCTEntry
set_option maxRecDepth 100000
set_option linter.unusedVariables false
set_option linter.unusedSimpArgs false
namespace Go.Proofs.Ytakllifahpfmpaa.B
open Go Go.Proofs.Ytakllifahpfmpaa.Bv
def X8s(x:U1q):Nat:=(nL X2a x.2.2.2.2.2.2.2.2.1)+(List.length x.2.2.2.2.2.2.2.2.2.2.1)+(List.length x.2.2.2.2.2.2.2.2.2.2.2.1)+(List.length x.2.2.2.2.2.2.2.2.2.2.2.2)
def Xb4(x:U1q)(left:Int):Prop:=WfD T0q x∧0≤left∧left≤1048576
def X4v(x:U1q)(left:Int):Int:=fSz (X8s x) left
def X4K:Con:={A:=(.pair T0q (.int .i64)),shA:=[.agg 13,.one],R:=(.int .i64),shR:=[(false,1)],pre:=fun _ a=>(Xb4 a.1 a.2),f:=some fun _ a=>((X4v a.1 a.2),((),()))}
def X1P.F(a0:U1q)(a1:Int):Prop:=((X6U a0.2.2.2.2.2.2.2.2.1 a1)∧∀r1,(Eq r1 ((X44 a0.2.2.2.2.2.2.2.2.1 a1),((),())))→(X02 (decide (r1.1<(0:Int))) (Eq ((-1),((),())) ((X4v a0 a1),((),()))) ((X6W a0.2.2.2.2.2.2.2.2.2.2.1 r1.1)∧∀r2,(Eq r2 ((X5s a0.2.2.2.2.2.2.2.2.2.2.1 r1.1),((),())))→(X02 (decide (r2.1<(0:Int))) (Eq ((-1),((),())) ((X4v a0 a1),((),()))) ((X6W a0.2.2.2.2.2.2.2.2.2.2.2.1 r2.1)∧∀r3,(Eq r3 ((X5s a0.2.2.2.2.2.2.2.2.2.2.2.1 r2.1),((),())))→(X02 (decide (r3.1<(0:Int))) (Eq ((-1),((),())) ((X4v a0 a1),((),()))) ((X6W a0.2.2.2.2.2.2.2.2.2.2.2.2 r3.1)∧∀r4,(Eq r4 ((X5s a0.2.2.2.2.2.2.2.2.2.2.2.2 r3.1),((),())))→(X02 (decide (r4.1<(0:Int))) (Eq ((-1),((),())) ((X4v a0 a1),((),()))) (Eq (r4.1,((),())) ((X4v a0 a1),((),())))))))))))
theorem X1P.pure(a0:U1q)(a1:Int)(h:(Xb4 a0 a1))(hw:Wf X4K.A (a0,a1)):X1P.F a0 a1:=by
 unfold X1P.F
 obtain⟨hwf,p1,p2⟩:=h
 have w8:WfD (.list T5q) a0.2.2.2.2.2.2.2.2.1:=hwf.2.2.2.2.2.2.2.2.1
 have w10:WfD T8q a0.2.2.2.2.2.2.2.2.2.2.1:=hwf.2.2.2.2.2.2.2.2.2.2.1
 have w11:WfD T8q a0.2.2.2.2.2.2.2.2.2.2.2.1:=hwf.2.2.2.2.2.2.2.2.2.2.2.1
 have w12:WfD T8q a0.2.2.2.2.2.2.2.2.2.2.2.2:=hwf.2.2.2.2.2.2.2.2.2.2.2.2
 simp only[Bs,B0,B1,Prod.mk.injEq,X04,X8s,X4v,X6U,X44,X6W,X5s]
 repeat' (with_reducible (first | (refine And.intro ?_ ?_) | intro _))
 all_goals (try simp (disch:=omega) only[w64,wu8,tn0,tn1,tm1,tm2,List.length_append,List.length_cons,List.length_nil]at*)
 all_goals (try simp (disch:=omega) only[w64,wu8,tn0,tn1,tm1,tm2,List.length_append,List.length_cons,List.length_nil]at*)
 all_goals (try omega)
 all_goals (try grind[fSz])
theorem X1P.eq:EqS X4K Try.f4 [3] [X0Q.e,X1V.e] [] noL (fun i x=>X1P.F x.1 x.2):=by intro i x;kernel_rfl
theorem X1P.ok:X0z Try.prog 4 X4K:=X2I X1P.eq Try.func4 rfl (by kernel_rfl) fun i x h hi hw=>X1P.pure x.1 x.2 h hw
def X1P.e:GE:=⟨4,X4K,⟨_,Try.func4,rfl,rfl⟩,X1P.ok⟩
def X5b(x:U1q):Prop:=X8s x≤1048576
def X5p(x:U1q):U1q:=x
def X4E:Con:={A:=T0q,shA:=[.agg 13],R:=T0q,shR:=[(true,13)],fresh:=[(8,73),(10,3),(11,3),(12,3)],pre:=fun _ a=>(X5b a),f:=some fun _ a=>((X5p a),((),()))}
def X1O.F(a0:U1q):Prop:=((X6Y a0.2.2.2.2.2.2.2.2.1)∧∀r1,(Eq r1 ((X5S a0.2.2.2.2.2.2.2.2.1),((),())))→((X6Q a0.2.2.2.2.2.2.2.2.2.2.1)∧∀r2,(Eq r2 ((X6g a0.2.2.2.2.2.2.2.2.2.2.1),((),())))→((X6Q a0.2.2.2.2.2.2.2.2.2.2.2.1)∧∀r3,(Eq r3 ((X6g a0.2.2.2.2.2.2.2.2.2.2.2.1),((),())))→((X6Q a0.2.2.2.2.2.2.2.2.2.2.2.2)∧∀r4,(Eq r4 ((X6g a0.2.2.2.2.2.2.2.2.2.2.2.2),((),())))→(Eq ((a0.1,(a0.2.1,(a0.2.2.1,(a0.2.2.2.1,(a0.2.2.2.2.1,(a0.2.2.2.2.2.1,(a0.2.2.2.2.2.2.1,(a0.2.2.2.2.2.2.2.1,(r1.1,(a0.2.2.2.2.2.2.2.2.2.1,(r2.1,(r3.1,r4.1)))))))))))),((),())) ((X5p a0),((),())))))))
theorem X1O.pure(a0:U1q)(h:(X5b a0))(hw:Wf X4E.A a0):X1O.F a0:=by
 unfold X1O.F
 have hp:X8s a0≤1048576:=h
 simp only[X8s]at hp
 simp only[Bs,B0,B1,Prod.mk.injEq,X04,X8s,X5p,X5b,X6Y,X5S,X6Q,X6g]
 repeat' (with_reducible (first | (refine And.intro ?_ ?_) | intro _))
 all_goals (try simp (disch:=omega) only[w64,wu8,tn0,tn1,tm1,tm2,List.length_append,List.length_cons,List.length_nil]at*)
 all_goals (try simp (disch:=omega) only[w64,wu8,tn0,tn1,tm1,tm2,List.length_append,List.length_cons,List.length_nil]at*)
 all_goals (try omega)
 all_goals (try grind[])
theorem X1O.eq:EqS X4E Try.f6 [29] [X0R.e,X1k.e] [] noL (fun i x=>X1O.F x):=by intro i x;kernel_rfl
theorem X1O.ok:X0z Try.prog 6 X4E:=X2I X1O.eq Try.func6 rfl (by kernel_rfl) fun i x h hi hw=>X1O.pure x h hw
def X1O.e:GE:=⟨6,X4E,⟨_,Try.func6,rfl,rfl⟩,X1O.ok⟩
instance dec_Core:DecidableEq U1q:=by(iterate 20 (all_goals (first | infer_instance | refine @instDecidableEqProd _ _ ?_ ?_)))
def X1e(a b:U1q):Bool:=decide (a=b)
def X4P:Con:={A:=(.pair T0q T0q),shA:=[.agg 13,.agg 13],R:=.bool,shR:=[(false,1)],pre:=fun _ _=>True,f:=some fun _ a=>((X1e a.1 a.2),((),()))}
def X1W.F(a0:U1q)(a1:U1q):Prop:=(X02 (a0.1 !=a1.1) (Eq (false,((),())) ((X1e a0 a1),((),()))) (X02 (a0.2.1 !=a1.2.1) (Eq (false,((),())) ((X1e a0 a1),((),()))) (X02 (a0.2.2.1 !=a1.2.2.1) (Eq (false,((),())) ((X1e a0 a1),((),()))) (X02 (a0.2.2.2.1 !=a1.2.2.2.1) (Eq (false,((),())) ((X1e a0 a1),((),()))) (X02 (a0.2.2.2.2.1 !=a1.2.2.2.2.1) (Eq (false,((),())) ((X1e a0 a1),((),()))) (X02 (a0.2.2.2.2.2.1 !=a1.2.2.2.2.2.1) (Eq (false,((),())) ((X1e a0 a1),((),()))) (X02 (a0.2.2.2.2.2.2.1 !=a1.2.2.2.2.2.2.1) (Eq (false,((),())) ((X1e a0 a1),((),()))) (X02 (a0.2.2.2.2.2.2.2.1 !=a1.2.2.2.2.2.2.2.1) (Eq (false,((),())) ((X1e a0 a1),((),()))) (True∧∀r1,(Eq r1 ((X2g a0.2.2.2.2.2.2.2.2.1 a1.2.2.2.2.2.2.2.2.1),((),())))→(X02 (!r1.1) (Eq (false,((),())) ((X1e a0 a1),((),()))) (X02 (a0.2.2.2.2.2.2.2.2.2.1 !=a1.2.2.2.2.2.2.2.2.2.1) (Eq (false,((),())) ((X1e a0 a1),((),()))) (True∧∀r2,(Eq r2 ((X3P a0.2.2.2.2.2.2.2.2.2.2.1 a1.2.2.2.2.2.2.2.2.2.2.1),((),())))→(X02 (!r2.1) (Eq (false,((),())) ((X1e a0 a1),((),()))) (True∧∀r3,(Eq r3 ((X3P a0.2.2.2.2.2.2.2.2.2.2.2.1 a1.2.2.2.2.2.2.2.2.2.2.2.1),((),())))→(X02 (!r3.1) (Eq (false,((),())) ((X1e a0 a1),((),()))) (True∧∀r4,(Eq r4 ((X3P a0.2.2.2.2.2.2.2.2.2.2.2.2 a1.2.2.2.2.2.2.2.2.2.2.2.2),((),())))→(X02 (!r4.1) (Eq (false,((),())) ((X1e a0 a1),((),()))) (Eq (true,((),())) ((X1e a0 a1),((),()))))))))))))))))))))
theorem X1W.pure(a0:U1q)(a1:U1q)(h:True)(hw:Wf X4P.A (a0,a1)):X1W.F a0 a1:=by
 unfold X1W.F
 obtain⟨x1,x2,x3,x4,x5,x6,x7,x8,x9,x10,x11,x12,x13⟩:=a0
 obtain⟨y1,y2,y3,y4,y5,y6,y7,y8,y9,y10,y11,y12,y13⟩:=a1
 simp only[Bs,B0,B1,Prod.mk.injEq,X04,X1e,X2g,X3P]
 repeat' (first | (refine And.intro ?_ ?_) | intro _)
 all_goals simp_all
theorem X1W.eq:EqS X4P Try.f8 [4] [X0F.e,X1n.e] [] noL (fun i x=>X1W.F x.1 x.2):=by intro i x;kernel_rfl
theorem X1W.ok:X0z Try.prog 8 X4P:=X2I X1W.eq Try.func8 rfl (by kernel_rfl) fun i x h hi hw=>X1W.pure x.1 x.2 h hw
def X1W.e:GE:=⟨8,X4P,⟨_,Try.func8,rfl,rfl⟩,X1W.ok⟩
def X2E(x:U1q):Int:=cL X0b x.2.2.2.2.2.2.2.2.1+cL c_1 x.2.2.2.2.2.2.2.2.2.2.1+cL c_1 x.2.2.2.2.2.2.2.2.2.2.2.1+cL c_1 x.2.2.2.2.2.2.2.2.2.2.2.2
def XcH(x:U1q)(k:Int):((List U4q)×((List Int)×((List Int)×(List Int)))):=(mL X0b X4t x.2.2.2.2.2.2.2.2.1 k,(mL c_1 X7b x.2.2.2.2.2.2.2.2.2.2.1 (k+cL X0b x.2.2.2.2.2.2.2.2.1),(mL c_1 X7b x.2.2.2.2.2.2.2.2.2.2.2.1 (k+cL X0b x.2.2.2.2.2.2.2.2.1+cL c_1 x.2.2.2.2.2.2.2.2.2.2.1),mL c_1 X7b x.2.2.2.2.2.2.2.2.2.2.2.2 (k+cL X0b x.2.2.2.2.2.2.2.2.1+cL c_1 x.2.2.2.2.2.2.2.2.2.2.1+cL c_1 x.2.2.2.2.2.2.2.2.2.2.2.1))))
def Xbg(x:U1q)(k:Int):Bool:=oL X0b X42 x.2.2.2.2.2.2.2.2.1 k&&oL c_1 X7C x.2.2.2.2.2.2.2.2.2.2.1 (k+cL X0b x.2.2.2.2.2.2.2.2.1)&&oL c_1 X7C x.2.2.2.2.2.2.2.2.2.2.2.1 (k+cL X0b x.2.2.2.2.2.2.2.2.1+cL c_1 x.2.2.2.2.2.2.2.2.2.2.1)&&oL c_1 X7C x.2.2.2.2.2.2.2.2.2.2.2.2 (k+cL X0b x.2.2.2.2.2.2.2.2.1+cL c_1 x.2.2.2.2.2.2.2.2.2.2.1+cL c_1 x.2.2.2.2.2.2.2.2.2.2.2.1)
def X8l(x:U1q)(k:Int):U1q:=(x.1,(x.2.1,(x.2.2.1,(x.2.2.2.1,(x.2.2.2.2.1,(x.2.2.2.2.2.1,(x.2.2.2.2.2.2.1,(x.2.2.2.2.2.2.2.1,(mL X0b X4t x.2.2.2.2.2.2.2.2.1 k,(x.2.2.2.2.2.2.2.2.2.1,(mL c_1 X7b x.2.2.2.2.2.2.2.2.2.2.1 (k+cL X0b x.2.2.2.2.2.2.2.2.1),(mL c_1 X7b x.2.2.2.2.2.2.2.2.2.2.2.1 (k+cL X0b x.2.2.2.2.2.2.2.2.1+cL c_1 x.2.2.2.2.2.2.2.2.2.2.1),mL c_1 X7b x.2.2.2.2.2.2.2.2.2.2.2.2 (k+cL X0b x.2.2.2.2.2.2.2.2.1+cL c_1 x.2.2.2.2.2.2.2.2.2.2.1+cL c_1 x.2.2.2.2.2.2.2.2.2.2.2.1)))))))))))))
theorem XbH(x:U1q):0≤X2E x:=by
 have p0:=X26 X2A x.2.2.2.2.2.2.2.2.1
 have p1:=X26 X3c x.2.2.2.2.2.2.2.2.2.2.1
 have p2:=X26 X3c x.2.2.2.2.2.2.2.2.2.2.2.1
 have p3:=X26 X3c x.2.2.2.2.2.2.2.2.2.2.2.2
 unfold X2E;omega
theorem XdK(x:U1q)(k:Int):Xbg (X8l x k) k=true∧X2E (X8l x k)=X2E x:=by
 simp[Xbg,X8l,X2E,(Xcg X8W _ _).1,(Xcg X8W _ _).2,(Xcg XgU _ _).1,(Xcg XgU _ _).2]
def X3a(x:U1q)(k:Int):Prop:=0≤k∧k+X2E x≤4611686018427387904
def X4a(x:U1q)(k:Int):Int×((List U4q)×((List Int)×((List Int)×(List Int)))):=(k+X2E x,XcH x k)
def X3J:Con:={A:=(.pair T0q (.int .i64)),shA:=[.agg 13,.one],backA:=[(8,73),(10,3),(11,3),(12,3)],B:=(.pair (.list T5q) (.pair T8q (.pair T8q T8q))),R:=(.int .i64),shR:=[(false,1)],pre:=fun _ a=>(X3a a.1 a.2),f:=some fun _ a=>((X4a a.1 a.2).1,((),(X4a a.1 a.2).2))}
def X18.F(a0:U1q)(a1:Int):Prop:=((X22 a0.2.2.2.2.2.2.2.2.1 a1)∧∀r1,(Eq r1 ((X2C a0.2.2.2.2.2.2.2.2.1 a1).1,((),(X2C a0.2.2.2.2.2.2.2.2.1 a1).2)))→((X36 a0.2.2.2.2.2.2.2.2.2.2.1 r1.1)∧∀r2,(Eq r2 ((X3v a0.2.2.2.2.2.2.2.2.2.2.1 r1.1).1,((),(X3v a0.2.2.2.2.2.2.2.2.2.2.1 r1.1).2)))→((X36 a0.2.2.2.2.2.2.2.2.2.2.2.1 r2.1)∧∀r3,(Eq r3 ((X3v a0.2.2.2.2.2.2.2.2.2.2.2.1 r2.1).1,((),(X3v a0.2.2.2.2.2.2.2.2.2.2.2.1 r2.1).2)))→((X36 a0.2.2.2.2.2.2.2.2.2.2.2.2 r3.1)∧∀r4,(Eq r4 ((X3v a0.2.2.2.2.2.2.2.2.2.2.2.2 r3.1).1,((),(X3v a0.2.2.2.2.2.2.2.2.2.2.2.2 r3.1).2)))→(Eq (r4.1,((),(r1.2.2,(r2.2.2,(r3.2.2,r4.2.2))))) ((X4a a0 a1).1,((),(X4a a0 a1).2)))))))
theorem X18.pure(a0:U1q)(a1:Int)(h:(X3a a0 a1))(hw:Wf X3J.A (a0,a1)):X18.F a0 a1:=by
 unfold X18.F
 obtain⟨p1,p2⟩:=h
 simp only[X2E]at p2
 have p3:=X26 X2A a0.2.2.2.2.2.2.2.2.1
 have p4:=X26 X3c a0.2.2.2.2.2.2.2.2.2.2.1
 have p5:=X26 X3c a0.2.2.2.2.2.2.2.2.2.2.2.1
 have p6:=X26 X3c a0.2.2.2.2.2.2.2.2.2.2.2.2
 simp only[Bs,B0,B1,Prod.mk.injEq,X04,X2C,X22,X3v,X36,X2E,XcH,X4a]
 repeat' (with_reducible (first | (refine And.intro ?_ ?_) | intro _))
 all_goals (try simp only[←Int.add_assoc])
 all_goals (first | omega | rfl | (refine Prod.ext ?_ rfl;simp only;omega) | skip)
theorem X18.eq:EqS X3J Try.f10 [3] [X0n.e,X0T.e] [] noL (fun i x=>X18.F x.1 x.2):=by intro i x;kernel_rfl
theorem X18.ok:X0z Try.prog 10 X3J:=X2I X18.eq Try.func10 rfl (by kernel_rfl) fun i x h hi hw=>X18.pure x.1 x.2 h hw
def X18.e:GE:=⟨10,X3J,⟨_,Try.func10,rfl,rfl⟩,X18.ok⟩
def X3w(x:U1q)(k:Int):Int:=fHd (X2E x) (Xbg x k) k
def X3V:Con:={A:=(.pair T0q (.int .i64)),shA:=[.agg 13,.one],R:=(.int .i64),shR:=[(false,1)],pre:=fun _ a=>(X3a a.1 a.2),f:=some fun _ a=>((X3w a.1 a.2),((),()))}
def X19.F(a0:U1q)(a1:Int):Prop:=((X22 a0.2.2.2.2.2.2.2.2.1 a1)∧∀r1,(Eq r1 ((X2S a0.2.2.2.2.2.2.2.2.1 a1),((),())))→(X02 (decide (r1.1<(0:Int))) (Eq ((-1),((),())) ((X3w a0 a1),((),()))) ((X36 a0.2.2.2.2.2.2.2.2.2.2.1 r1.1)∧∀r2,(Eq r2 ((X5l a0.2.2.2.2.2.2.2.2.2.2.1 r1.1),((),())))→(X02 (decide (r2.1<(0:Int))) (Eq ((-1),((),())) ((X3w a0 a1),((),()))) ((X36 a0.2.2.2.2.2.2.2.2.2.2.2.1 r2.1)∧∀r3,(Eq r3 ((X5l a0.2.2.2.2.2.2.2.2.2.2.2.1 r2.1),((),())))→(X02 (decide (r3.1<(0:Int))) (Eq ((-1),((),())) ((X3w a0 a1),((),()))) ((X36 a0.2.2.2.2.2.2.2.2.2.2.2.2 r3.1)∧∀r4,(Eq r4 ((X5l a0.2.2.2.2.2.2.2.2.2.2.2.2 r3.1),((),())))→(X02 (decide (r4.1<(0:Int))) (Eq ((-1),((),())) ((X3w a0 a1),((),()))) (Eq (r4.1,((),())) ((X3w a0 a1),((),())))))))))))
theorem X19.pure(a0:U1q)(a1:Int)(h:(X3a a0 a1))(hw:Wf X3V.A (a0,a1)):X19.F a0 a1:=by
 unfold X19.F
 obtain⟨p1,p2⟩:=h
 simp only[X2E]at p2
 have p3:=X26 X2A a0.2.2.2.2.2.2.2.2.1
 have p4:=X26 X3c a0.2.2.2.2.2.2.2.2.2.2.1
 have p5:=X26 X3c a0.2.2.2.2.2.2.2.2.2.2.2.1
 have p6:=X26 X3c a0.2.2.2.2.2.2.2.2.2.2.2.2
 simp only[Bs,B0,B1,Prod.mk.injEq,X04,X3w,X22,X2S,X36,X5l,X2E,Xbg]
 repeat' (with_reducible (first | (refine And.intro ?_ ?_) | intro _))
 all_goals (try simp (disch:=first | omega | assumption) only[X4r,X3i,Bool.not_eq_false]at*)
 all_goals (try simp (disch:=first | omega | assumption) only[X4r,X3i,Bool.not_eq_false]at*)
 all_goals (try simp (disch:=first | omega | assumption) only[X4r,X3i,Bool.not_eq_false]at*)
 all_goals (try simp (disch:=first | omega | assumption) only[X4r,X3i,Bool.not_eq_false]at*)
 all_goals (try simp (disch:=first | omega | assumption) only[X4r,X3i,Bool.not_eq_false]at*)
 all_goals (try simp (disch:=first | omega | assumption) only[X4r,X3i,Bool.not_eq_false]at*)
 all_goals (first | omega | (unfold fHd;grind) | skip)
theorem X19.eq:EqS X3V Try.f12 [3] [X0m.e,X0K.e] [] noL (fun i x=>X19.F x.1 x.2):=by intro i x;kernel_rfl
theorem X19.ok:X0z Try.prog 12 X3V:=X2I X19.eq Try.func12 rfl (by kernel_rfl) fun i x h hi hw=>X19.pure x.1 x.2 h hw
def X19.e:GE:=⟨12,X3V,⟨_,Try.func12,rfl,rfl⟩,X19.ok⟩
end Go.Proofs.Ytakllifahpfmpaa.B
