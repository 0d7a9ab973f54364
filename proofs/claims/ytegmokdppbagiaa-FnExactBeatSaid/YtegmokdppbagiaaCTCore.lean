/- Values of the type Core:how large,the same,marked. -/
import Derived.Test.YtegmokdppbagiaaCTypes
import Derived.Test.YtegmokdppbagiaaCTEntry
set_option maxRecDepth 100000
set_option linter.unusedVariables false
set_option linter.unusedSimpArgs false
namespace Go.Proofs.Ytegmokdppbagiaa.B
open Go Go.Proofs.Ytegmokdppbagiaa.Bv
def X7V(x:U1q):Nat:=(nL X1T x.2.2.2.2.2.2.2.2.1)+(List.length x.2.2.2.2.2.2.2.2.2.2.1)+(List.length x.2.2.2.2.2.2.2.2.2.2.2.1)+(List.length x.2.2.2.2.2.2.2.2.2.2.2.2)
def Xap(x:U1q)(left:Int):Prop:=WfD T0q x∧0≤left∧left≤1048576
def X4k(x:U1q)(left:Int):Int:=fSz (X7V x) left
def X41:Con:={A:=(.pair T0q (.int .i64)),shA:=[.agg 13,.one],R:=(.int .i64),shR:=[(false,1)],pre:=fun _ a=>(Xap a.1 a.2),f:=some fun _ a=>((X4k a.1 a.2),((),()))}
def X1x.F(a0:U1q)(a1:Int):Prop:=((X6a a0.2.2.2.2.2.2.2.2.1 a1)∧∀r1,(Eq r1 ((X3A a0.2.2.2.2.2.2.2.2.1 a1),((),())))→(X03 (decide (r1.1<(0:Int))) (Eq ((-1),((),())) ((X4k a0 a1),((),()))) ((X69 a0.2.2.2.2.2.2.2.2.2.2.1 r1.1)∧∀r2,(Eq r2 ((X4J a0.2.2.2.2.2.2.2.2.2.2.1 r1.1),((),())))→(X03 (decide (r2.1<(0:Int))) (Eq ((-1),((),())) ((X4k a0 a1),((),()))) ((X69 a0.2.2.2.2.2.2.2.2.2.2.2.1 r2.1)∧∀r3,(Eq r3 ((X4J a0.2.2.2.2.2.2.2.2.2.2.2.1 r2.1),((),())))→(X03 (decide (r3.1<(0:Int))) (Eq ((-1),((),())) ((X4k a0 a1),((),()))) ((X69 a0.2.2.2.2.2.2.2.2.2.2.2.2 r3.1)∧∀r4,(Eq r4 ((X4J a0.2.2.2.2.2.2.2.2.2.2.2.2 r3.1),((),())))→(X03 (decide (r4.1<(0:Int))) (Eq ((-1),((),())) ((X4k a0 a1),((),()))) (Eq (r4.1,((),())) ((X4k a0 a1),((),())))))))))))
theorem X1x.pure(a0:U1q)(a1:Int)(h:(Xap a0 a1))(hw:Wf X41.A (a0,a1)):X1x.F a0 a1:=by
 unfold X1x.F
 obtain⟨hwf,p1,p2⟩:=h
 have w8:WfD (.list T5q) a0.2.2.2.2.2.2.2.2.1:=hwf.2.2.2.2.2.2.2.2.1
 have w10:WfD T6q a0.2.2.2.2.2.2.2.2.2.2.1:=hwf.2.2.2.2.2.2.2.2.2.2.1
 have w11:WfD T6q a0.2.2.2.2.2.2.2.2.2.2.2.1:=hwf.2.2.2.2.2.2.2.2.2.2.2.1
 have w12:WfD T6q a0.2.2.2.2.2.2.2.2.2.2.2.2:=hwf.2.2.2.2.2.2.2.2.2.2.2.2
 simp only[Bs,B0,B1,Prod.mk.injEq,X04,X7V,X4k,X6a,X3A,X69,X4J]
 repeat' (with_reducible (first | (refine And.intro ?_ ?_) | intro _))
 all_goals (try simp (disch:=omega) only[w64,wu8,tn0,tn1,tm1,tm2,List.length_append,List.length_cons,List.length_nil]at*)
 all_goals (try simp (disch:=omega) only[w64,wu8,tn0,tn1,tm1,tm2,List.length_append,List.length_cons,List.length_nil]at*)
 all_goals (try omega)
 all_goals (try grind[fSz])
theorem X1x.eq:EqS X41 Try.f17 [3] [X0F.e,X1C.e] [] noL (fun i x=>X1x.F x.1 x.2):=by intro i x;kernel_rfl
theorem X1x.ok:X0I Try.prog 17 X41:=X35 X1x.eq Try.func17 rfl (by kernel_rfl) fun i x h hi hw=>X1x.pure x.1 x.2 h hw
def X1x.e:GE:=⟨17,X41,⟨_,Try.func17,rfl,rfl⟩,X1x.ok⟩
def X4K(x:U1q):Prop:=X7V x≤1048576
def X4N(x:U1q):U1q:=x
def X4a:Con:={A:=T0q,shA:=[.agg 13],R:=T0q,shR:=[(true,13)],fresh:=[(8,101),(10,3),(11,3),(12,3)],pre:=fun _ a=>(X4K a),f:=some fun _ a=>((X4N a),((),()))}
def X1B.F(a0:U1q):Prop:=((X6l a0.2.2.2.2.2.2.2.2.1)∧∀r1,(Eq r1 ((X5b a0.2.2.2.2.2.2.2.2.1),((),())))→((X6g a0.2.2.2.2.2.2.2.2.2.2.1)∧∀r2,(Eq r2 ((X5q a0.2.2.2.2.2.2.2.2.2.2.1),((),())))→((X6g a0.2.2.2.2.2.2.2.2.2.2.2.1)∧∀r3,(Eq r3 ((X5q a0.2.2.2.2.2.2.2.2.2.2.2.1),((),())))→((X6g a0.2.2.2.2.2.2.2.2.2.2.2.2)∧∀r4,(Eq r4 ((X5q a0.2.2.2.2.2.2.2.2.2.2.2.2),((),())))→(Eq ((a0.1,(a0.2.1,(a0.2.2.1,(a0.2.2.2.1,(a0.2.2.2.2.1,(a0.2.2.2.2.2.1,(a0.2.2.2.2.2.2.1,(a0.2.2.2.2.2.2.2.1,(r1.1,(a0.2.2.2.2.2.2.2.2.2.1,(r2.1,(r3.1,r4.1)))))))))))),((),())) ((X4N a0),((),())))))))
theorem X1B.pure(a0:U1q)(h:(X4K a0))(hw:Wf X4a.A a0):X1B.F a0:=by
 unfold X1B.F
 have hp:X7V a0≤1048576:=h
 simp only[X7V]at hp
 simp only[Bs,B0,B1,Prod.mk.injEq,X04,X7V,X4N,X4K,X6l,X5b,X6g,X5q]
 repeat' (with_reducible (first | (refine And.intro ?_ ?_) | intro _))
 all_goals (try simp (disch:=omega) only[w64,wu8,tn0,tn1,tm1,tm2,List.length_append,List.length_cons,List.length_nil]at*)
 all_goals (try simp (disch:=omega) only[w64,wu8,tn0,tn1,tm1,tm2,List.length_append,List.length_cons,List.length_nil]at*)
 all_goals (try omega)
 all_goals (try grind[])
theorem X1B.eq:EqS X4a Try.f19 [49] [X0E.e,X18.e] [] noL (fun i x=>X1B.F x):=by intro i x;kernel_rfl
theorem X1B.ok:X0I Try.prog 19 X4a:=X35 X1B.eq Try.func19 rfl (by kernel_rfl) fun i x h hi hw=>X1B.pure x h hw
def X1B.e:GE:=⟨19,X4a,⟨_,Try.func19,rfl,rfl⟩,X1B.ok⟩
instance dec_Core:DecidableEq U1q:=by(iterate 20 (all_goals (first | infer_instance | refine @instDecidableEqProd _ _ ?_ ?_)))
def X16(a b:U1q):Bool:=decide (a=b)
def X4e:Con:={A:=(.pair T0q T0q),shA:=[.agg 13,.agg 13],R:=.bool,shR:=[(false,1)],pre:=fun _ _=>True,f:=some fun _ a=>((X16 a.1 a.2),((),()))}
def X1F.F(a0:U1q)(a1:U1q):Prop:=(X03 (a0.1 !=a1.1) (Eq (false,((),())) ((X16 a0 a1),((),()))) (X03 (a0.2.1 !=a1.2.1) (Eq (false,((),())) ((X16 a0 a1),((),()))) (X03 (a0.2.2.1 !=a1.2.2.1) (Eq (false,((),())) ((X16 a0 a1),((),()))) (X03 (a0.2.2.2.1 !=a1.2.2.2.1) (Eq (false,((),())) ((X16 a0 a1),((),()))) (X03 (a0.2.2.2.2.1 !=a1.2.2.2.2.1) (Eq (false,((),())) ((X16 a0 a1),((),()))) (X03 (a0.2.2.2.2.2.1 !=a1.2.2.2.2.2.1) (Eq (false,((),())) ((X16 a0 a1),((),()))) (X03 (a0.2.2.2.2.2.2.1 !=a1.2.2.2.2.2.2.1) (Eq (false,((),())) ((X16 a0 a1),((),()))) (X03 (a0.2.2.2.2.2.2.2.1 !=a1.2.2.2.2.2.2.2.1) (Eq (false,((),())) ((X16 a0 a1),((),()))) (True∧∀r1,(Eq r1 ((X1X a0.2.2.2.2.2.2.2.2.1 a1.2.2.2.2.2.2.2.2.1),((),())))→(X03 (!r1.1) (Eq (false,((),())) ((X16 a0 a1),((),()))) (X03 (a0.2.2.2.2.2.2.2.2.2.1 !=a1.2.2.2.2.2.2.2.2.2.1) (Eq (false,((),())) ((X16 a0 a1),((),()))) (True∧∀r2,(Eq r2 ((X32 a0.2.2.2.2.2.2.2.2.2.2.1 a1.2.2.2.2.2.2.2.2.2.2.1),((),())))→(X03 (!r2.1) (Eq (false,((),())) ((X16 a0 a1),((),()))) (True∧∀r3,(Eq r3 ((X32 a0.2.2.2.2.2.2.2.2.2.2.2.1 a1.2.2.2.2.2.2.2.2.2.2.2.1),((),())))→(X03 (!r3.1) (Eq (false,((),())) ((X16 a0 a1),((),()))) (True∧∀r4,(Eq r4 ((X32 a0.2.2.2.2.2.2.2.2.2.2.2.2 a1.2.2.2.2.2.2.2.2.2.2.2.2),((),())))→(X03 (!r4.1) (Eq (false,((),())) ((X16 a0 a1),((),()))) (Eq (true,((),())) ((X16 a0 a1),((),()))))))))))))))))))))
theorem X1F.pure(a0:U1q)(a1:U1q)(h:True)(hw:Wf X4e.A (a0,a1)):X1F.F a0 a1:=by
 unfold X1F.F
 obtain⟨x1,x2,x3,x4,x5,x6,x7,x8,x9,x10,x11,x12,x13⟩:=a0
 obtain⟨y1,y2,y3,y4,y5,y6,y7,y8,y9,y10,y11,y12,y13⟩:=a1
 simp only[Bs,B0,B1,Prod.mk.injEq,X04,X16,X1X,X32]
 repeat' (first | (refine And.intro ?_ ?_) | intro _)
 all_goals simp_all
theorem X1F.eq:EqS X4e Try.f21 [4] [X0z.e,X1c.e] [] noL (fun i x=>X1F.F x.1 x.2):=by intro i x;kernel_rfl
theorem X1F.ok:X0I Try.prog 21 X4e:=X35 X1F.eq Try.func21 rfl (by kernel_rfl) fun i x h hi hw=>X1F.pure x.1 x.2 h hw
def X1F.e:GE:=⟨21,X4e,⟨_,Try.func21,rfl,rfl⟩,X1F.ok⟩
def X2j(x:U1q):Int:=cL X09 x.2.2.2.2.2.2.2.2.1+cL c_1 x.2.2.2.2.2.2.2.2.2.2.1+cL c_1 x.2.2.2.2.2.2.2.2.2.2.2.1+cL c_1 x.2.2.2.2.2.2.2.2.2.2.2.2
def XbS(x:U1q)(k:Int):((List U4q)×((List Int)×((List Int)×(List Int)))):=(mL X09 X40 x.2.2.2.2.2.2.2.2.1 k,(mL c_1 X6F x.2.2.2.2.2.2.2.2.2.2.1 (k+cL X09 x.2.2.2.2.2.2.2.2.1),(mL c_1 X6F x.2.2.2.2.2.2.2.2.2.2.2.1 (k+cL X09 x.2.2.2.2.2.2.2.2.1+cL c_1 x.2.2.2.2.2.2.2.2.2.2.1),mL c_1 X6F x.2.2.2.2.2.2.2.2.2.2.2.2 (k+cL X09 x.2.2.2.2.2.2.2.2.1+cL c_1 x.2.2.2.2.2.2.2.2.2.2.1+cL c_1 x.2.2.2.2.2.2.2.2.2.2.2.1))))
def Xaf(x:U1q)(k:Int):Bool:=oL X09 X3w x.2.2.2.2.2.2.2.2.1 k&&oL c_1 X6Q x.2.2.2.2.2.2.2.2.2.2.1 (k+cL X09 x.2.2.2.2.2.2.2.2.1)&&oL c_1 X6Q x.2.2.2.2.2.2.2.2.2.2.2.1 (k+cL X09 x.2.2.2.2.2.2.2.2.1+cL c_1 x.2.2.2.2.2.2.2.2.2.2.1)&&oL c_1 X6Q x.2.2.2.2.2.2.2.2.2.2.2.2 (k+cL X09 x.2.2.2.2.2.2.2.2.1+cL c_1 x.2.2.2.2.2.2.2.2.2.2.1+cL c_1 x.2.2.2.2.2.2.2.2.2.2.2.1)
def X7u(x:U1q)(k:Int):U1q:=(x.1,(x.2.1,(x.2.2.1,(x.2.2.2.1,(x.2.2.2.2.1,(x.2.2.2.2.2.1,(x.2.2.2.2.2.2.1,(x.2.2.2.2.2.2.2.1,(mL X09 X40 x.2.2.2.2.2.2.2.2.1 k,(x.2.2.2.2.2.2.2.2.2.1,(mL c_1 X6F x.2.2.2.2.2.2.2.2.2.2.1 (k+cL X09 x.2.2.2.2.2.2.2.2.1),(mL c_1 X6F x.2.2.2.2.2.2.2.2.2.2.2.1 (k+cL X09 x.2.2.2.2.2.2.2.2.1+cL c_1 x.2.2.2.2.2.2.2.2.2.2.1),mL c_1 X6F x.2.2.2.2.2.2.2.2.2.2.2.2 (k+cL X09 x.2.2.2.2.2.2.2.2.1+cL c_1 x.2.2.2.2.2.2.2.2.2.2.1+cL c_1 x.2.2.2.2.2.2.2.2.2.2.2.1)))))))))))))
theorem Xby(x:U1q):0≤X2j x:=by
 have p0:=X1L X2c x.2.2.2.2.2.2.2.2.1
 have p1:=X1L X2N x.2.2.2.2.2.2.2.2.2.2.1
 have p2:=X1L X2N x.2.2.2.2.2.2.2.2.2.2.2.1
 have p3:=X1L X2N x.2.2.2.2.2.2.2.2.2.2.2.2
 unfold X2j;omega
theorem XcA(x:U1q)(k:Int):Xaf (X7u x k) k=true∧X2j (X7u x k)=X2j x:=by
 simp[Xaf,X7u,X2j,(Xb0 X8c _ _).1,(Xb0 X8c _ _).2,(Xb0 XfA _ _).1,(Xb0 XfA _ _).2]
def X2J(x:U1q)(k:Int):Prop:=0≤k∧k+X2j x≤4611686018427387904
def X3J(x:U1q)(k:Int):Int×((List U4q)×((List Int)×((List Int)×(List Int)))):=(k+X2j x,XbS x k)
def X3c:Con:={A:=(.pair T0q (.int .i64)),shA:=[.agg 13,.one],backA:=[(8,101),(10,3),(11,3),(12,3)],B:=(.pair (.list T5q) (.pair T6q (.pair T6q T6q))),R:=(.int .i64),shR:=[(false,1)],pre:=fun _ a=>(X2J a.1 a.2),f:=some fun _ a=>((X3J a.1 a.2).1,((),(X3J a.1 a.2).2))}
def X0X.F(a0:U1q)(a1:Int):Prop:=((X1J a0.2.2.2.2.2.2.2.2.1 a1)∧∀r1,(Eq r1 ((X2i a0.2.2.2.2.2.2.2.2.1 a1).1,((),(X2i a0.2.2.2.2.2.2.2.2.1 a1).2)))→((X2G a0.2.2.2.2.2.2.2.2.2.2.1 r1.1)∧∀r2,(Eq r2 ((X3l a0.2.2.2.2.2.2.2.2.2.2.1 r1.1).1,((),(X3l a0.2.2.2.2.2.2.2.2.2.2.1 r1.1).2)))→((X2G a0.2.2.2.2.2.2.2.2.2.2.2.1 r2.1)∧∀r3,(Eq r3 ((X3l a0.2.2.2.2.2.2.2.2.2.2.2.1 r2.1).1,((),(X3l a0.2.2.2.2.2.2.2.2.2.2.2.1 r2.1).2)))→((X2G a0.2.2.2.2.2.2.2.2.2.2.2.2 r3.1)∧∀r4,(Eq r4 ((X3l a0.2.2.2.2.2.2.2.2.2.2.2.2 r3.1).1,((),(X3l a0.2.2.2.2.2.2.2.2.2.2.2.2 r3.1).2)))→(Eq (r4.1,((),(r1.2.2,(r2.2.2,(r3.2.2,r4.2.2))))) ((X3J a0 a1).1,((),(X3J a0 a1).2)))))))
theorem X0X.pure(a0:U1q)(a1:Int)(h:(X2J a0 a1))(hw:Wf X3c.A (a0,a1)):X0X.F a0 a1:=by
 unfold X0X.F
 obtain⟨p1,p2⟩:=h
 simp only[X2j]at p2
 have p3:=X1L X2c a0.2.2.2.2.2.2.2.2.1
 have p4:=X1L X2N a0.2.2.2.2.2.2.2.2.2.2.1
 have p5:=X1L X2N a0.2.2.2.2.2.2.2.2.2.2.2.1
 have p6:=X1L X2N a0.2.2.2.2.2.2.2.2.2.2.2.2
 simp only[Bs,B0,B1,Prod.mk.injEq,X04,X2i,X1J,X3l,X2G,X2j,XbS,X3J]
 repeat' (with_reducible (first | (refine And.intro ?_ ?_) | intro _))
 all_goals (try simp only[←Int.add_assoc])
 all_goals (first | omega | rfl | (refine Prod.ext ?_ rfl;simp only;omega) | skip)
theorem X0X.eq:EqS X3c Try.f23 [3] [X0i.e,X0D.e] [] noL (fun i x=>X0X.F x.1 x.2):=by intro i x;kernel_rfl
theorem X0X.ok:X0I Try.prog 23 X3c:=X35 X0X.eq Try.func23 rfl (by kernel_rfl) fun i x h hi hw=>X0X.pure x.1 x.2 h hw
def X0X.e:GE:=⟨23,X3c,⟨_,Try.func23,rfl,rfl⟩,X0X.ok⟩
def X3o(x:U1q)(k:Int):Int:=fHd (X2j x) (Xaf x k) k
def X31:Con:={A:=(.pair T0q (.int .i64)),shA:=[.agg 13,.one],R:=(.int .i64),shR:=[(false,1)],pre:=fun _ a=>(X2J a.1 a.2),f:=some fun _ a=>((X3o a.1 a.2),((),()))}
def X0Y.F(a0:U1q)(a1:Int):Prop:=((X1J a0.2.2.2.2.2.2.2.2.1 a1)∧∀r1,(Eq r1 ((X2t a0.2.2.2.2.2.2.2.2.1 a1),((),())))→(X03 (decide (r1.1<(0:Int))) (Eq ((-1),((),())) ((X3o a0 a1),((),()))) ((X2G a0.2.2.2.2.2.2.2.2.2.2.1 r1.1)∧∀r2,(Eq r2 ((X4T a0.2.2.2.2.2.2.2.2.2.2.1 r1.1),((),())))→(X03 (decide (r2.1<(0:Int))) (Eq ((-1),((),())) ((X3o a0 a1),((),()))) ((X2G a0.2.2.2.2.2.2.2.2.2.2.2.1 r2.1)∧∀r3,(Eq r3 ((X4T a0.2.2.2.2.2.2.2.2.2.2.2.1 r2.1),((),())))→(X03 (decide (r3.1<(0:Int))) (Eq ((-1),((),())) ((X3o a0 a1),((),()))) ((X2G a0.2.2.2.2.2.2.2.2.2.2.2.2 r3.1)∧∀r4,(Eq r4 ((X4T a0.2.2.2.2.2.2.2.2.2.2.2.2 r3.1),((),())))→(X03 (decide (r4.1<(0:Int))) (Eq ((-1),((),())) ((X3o a0 a1),((),()))) (Eq (r4.1,((),())) ((X3o a0 a1),((),())))))))))))
theorem X0Y.pure(a0:U1q)(a1:Int)(h:(X2J a0 a1))(hw:Wf X31.A (a0,a1)):X0Y.F a0 a1:=by
 unfold X0Y.F
 obtain⟨p1,p2⟩:=h
 simp only[X2j]at p2
 have p3:=X1L X2c a0.2.2.2.2.2.2.2.2.1
 have p4:=X1L X2N a0.2.2.2.2.2.2.2.2.2.2.1
 have p5:=X1L X2N a0.2.2.2.2.2.2.2.2.2.2.2.1
 have p6:=X1L X2N a0.2.2.2.2.2.2.2.2.2.2.2.2
 simp only[Bs,B0,B1,Prod.mk.injEq,X04,X3o,X1J,X2t,X2G,X4T,X2j,Xaf]
 repeat' (with_reducible (first | (refine And.intro ?_ ?_) | intro _))
 all_goals (try simp (disch:=first | omega | assumption) only[X3Y,X2Q,Bool.not_eq_false]at*)
 all_goals (try simp (disch:=first | omega | assumption) only[X3Y,X2Q,Bool.not_eq_false]at*)
 all_goals (try simp (disch:=first | omega | assumption) only[X3Y,X2Q,Bool.not_eq_false]at*)
 all_goals (try simp (disch:=first | omega | assumption) only[X3Y,X2Q,Bool.not_eq_false]at*)
 all_goals (try simp (disch:=first | omega | assumption) only[X3Y,X2Q,Bool.not_eq_false]at*)
 all_goals (try simp (disch:=first | omega | assumption) only[X3Y,X2Q,Bool.not_eq_false]at*)
 all_goals (first | omega | (unfold fHd;grind) | skip)
theorem X0Y.eq:EqS X31 Try.f25 [3] [X0h.e,X0B.e] [] noL (fun i x=>X0Y.F x.1 x.2):=by intro i x;kernel_rfl
theorem X0Y.ok:X0I Try.prog 25 X31:=X35 X0Y.eq Try.func25 rfl (by kernel_rfl) fun i x h hi hw=>X0Y.pure x.1 x.2 h hw
def X0Y.e:GE:=⟨25,X31,⟨_,Try.func25,rfl,rfl⟩,X0Y.ok⟩
end Go.Proofs.Ytegmokdppbagiaa.B
