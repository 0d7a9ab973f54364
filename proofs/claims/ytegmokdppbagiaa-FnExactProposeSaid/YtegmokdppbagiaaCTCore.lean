/- Values of the type Core:how large,the same,marked. -/
import Derived.Test.YtegmokdppbagiaaCTypes
import Derived.Test.YtegmokdppbagiaaCTEntry
set_option maxRecDepth 100000
set_option linter.unusedVariables false
set_option linter.unusedSimpArgs false
namespace Go.Proofs.Ytegmokdppbagiaa.B
open Go Go.Proofs.Ytegmokdppbagiaa.Bv
def X8d(x:U1q):Nat:=(nL X29 x.2.2.2.2.2.2.2.2.1)+(List.length x.2.2.2.2.2.2.2.2.2.2.1)+(List.length x.2.2.2.2.2.2.2.2.2.2.2.1)+(List.length x.2.2.2.2.2.2.2.2.2.2.2.2)
def XaO(x:U1q)(left:Int):Prop:=WfD T0q x∧0≤left∧left≤1048576
def X4g(x:U1q)(left:Int):Int:=fSz (X8d x) left
def X4n:Con:={A:=(.pair T0q (.int .i64)),shA:=[.agg 13,.one],R:=(.int .i64),shR:=[(false,1)],pre:=fun _ a=>(XaO a.1 a.2),f:=some fun _ a=>((X4g a.1 a.2),((),()))}
def X1O.F(a0:U1q)(a1:Int):Prop:=((X6u a0.2.2.2.2.2.2.2.2.1 a1)∧∀r1,(Eq r1 ((X3L a0.2.2.2.2.2.2.2.2.1 a1),((),())))→(X02 (decide (r1.1<(0:Int))) (Eq ((-1),((),())) ((X4g a0 a1),((),()))) ((X6D a0.2.2.2.2.2.2.2.2.2.2.1 r1.1)∧∀r2,(Eq r2 ((X55 a0.2.2.2.2.2.2.2.2.2.2.1 r1.1),((),())))→(X02 (decide (r2.1<(0:Int))) (Eq ((-1),((),())) ((X4g a0 a1),((),()))) ((X6D a0.2.2.2.2.2.2.2.2.2.2.2.1 r2.1)∧∀r3,(Eq r3 ((X55 a0.2.2.2.2.2.2.2.2.2.2.2.1 r2.1),((),())))→(X02 (decide (r3.1<(0:Int))) (Eq ((-1),((),())) ((X4g a0 a1),((),()))) ((X6D a0.2.2.2.2.2.2.2.2.2.2.2.2 r3.1)∧∀r4,(Eq r4 ((X55 a0.2.2.2.2.2.2.2.2.2.2.2.2 r3.1),((),())))→(X02 (decide (r4.1<(0:Int))) (Eq ((-1),((),())) ((X4g a0 a1),((),()))) (Eq (r4.1,((),())) ((X4g a0 a1),((),())))))))))))
theorem X1O.pure(a0:U1q)(a1:Int)(h:(XaO a0 a1))(hw:Wf X4n.A (a0,a1)):X1O.F a0 a1:=by
 unfold X1O.F
 obtain⟨hwf,p1,p2⟩:=h
 have w8:WfD (.list T5q) a0.2.2.2.2.2.2.2.2.1:=hwf.2.2.2.2.2.2.2.2.1
 have w10:WfD T6q a0.2.2.2.2.2.2.2.2.2.2.1:=hwf.2.2.2.2.2.2.2.2.2.2.1
 have w11:WfD T6q a0.2.2.2.2.2.2.2.2.2.2.2.1:=hwf.2.2.2.2.2.2.2.2.2.2.2.1
 have w12:WfD T6q a0.2.2.2.2.2.2.2.2.2.2.2.2:=hwf.2.2.2.2.2.2.2.2.2.2.2.2
 simp only[Bs,B0,B1,Prod.mk.injEq,X04,X8d,X4g,X6u,X3L,X6D,X55]
 repeat' (with_reducible (first | (refine And.intro ?_ ?_) | intro _))
 all_goals (try simp (disch:=omega) only[w64,wu8,tn0,tn1,tm1,tm2,List.length_append,List.length_cons,List.length_nil]at*)
 all_goals (try simp (disch:=omega) only[w64,wu8,tn0,tn1,tm1,tm2,List.length_append,List.length_cons,List.length_nil]at*)
 all_goals (try omega)
 all_goals (try grind[fSz])
theorem X1O.eq:EqS X4n Try.f17 [3] [X0P.e,X1M.e] [] noL (fun i x=>X1O.F x.1 x.2):=by intro i x;kernel_rfl
theorem X1O.ok:X0D Try.prog 17 X4n:=X2U X1O.eq Try.func17 rfl (by kernel_rfl) fun i x h hi hw=>X1O.pure x.1 x.2 h hw
def X1O.e:GE:=⟨17,X4n,⟨_,Try.func17,rfl,rfl⟩,X1O.ok⟩
def X4Z(x:U1q):Prop:=X8d x≤1048576
def X5d(x:U1q):U1q:=x
def X4A:Con:={A:=T0q,shA:=[.agg 13],R:=T0q,shR:=[(true,13)],fresh:=[(8,101),(10,3),(11,3),(12,3)],pre:=fun _ a=>(X4Z a),f:=some fun _ a=>((X5d a),((),()))}
def X1F.F(a0:U1q):Prop:=((X6A a0.2.2.2.2.2.2.2.2.1)∧∀r1,(Eq r1 ((X5C a0.2.2.2.2.2.2.2.2.1),((),())))→((X6y a0.2.2.2.2.2.2.2.2.2.2.1)∧∀r2,(Eq r2 ((X5O a0.2.2.2.2.2.2.2.2.2.2.1),((),())))→((X6y a0.2.2.2.2.2.2.2.2.2.2.2.1)∧∀r3,(Eq r3 ((X5O a0.2.2.2.2.2.2.2.2.2.2.2.1),((),())))→((X6y a0.2.2.2.2.2.2.2.2.2.2.2.2)∧∀r4,(Eq r4 ((X5O a0.2.2.2.2.2.2.2.2.2.2.2.2),((),())))→(Eq ((a0.1,(a0.2.1,(a0.2.2.1,(a0.2.2.2.1,(a0.2.2.2.2.1,(a0.2.2.2.2.2.1,(a0.2.2.2.2.2.2.1,(a0.2.2.2.2.2.2.2.1,(r1.1,(a0.2.2.2.2.2.2.2.2.2.1,(r2.1,(r3.1,r4.1)))))))))))),((),())) ((X5d a0),((),())))))))
theorem X1F.pure(a0:U1q)(h:(X4Z a0))(hw:Wf X4A.A a0):X1F.F a0:=by
 unfold X1F.F
 have hp:X8d a0≤1048576:=h
 simp only[X8d]at hp
 simp only[Bs,B0,B1,Prod.mk.injEq,X04,X8d,X5d,X4Z,X6A,X5C,X6y,X5O]
 repeat' (with_reducible (first | (refine And.intro ?_ ?_) | intro _))
 all_goals (try simp (disch:=omega) only[w64,wu8,tn0,tn1,tm1,tm2,List.length_append,List.length_cons,List.length_nil]at*)
 all_goals (try simp (disch:=omega) only[w64,wu8,tn0,tn1,tm1,tm2,List.length_append,List.length_cons,List.length_nil]at*)
 all_goals (try omega)
 all_goals (try grind[])
theorem X1F.eq:EqS X4A Try.f19 [49] [X0R.e,X1e.e] [] noL (fun i x=>X1F.F x):=by intro i x;kernel_rfl
theorem X1F.ok:X0D Try.prog 19 X4A:=X2U X1F.eq Try.func19 rfl (by kernel_rfl) fun i x h hi hw=>X1F.pure x h hw
def X1F.e:GE:=⟨19,X4A,⟨_,Try.func19,rfl,rfl⟩,X1F.ok⟩
instance dec_Core:DecidableEq U1q:=by(iterate 20 (all_goals (first | infer_instance | refine @instDecidableEqProd _ _ ?_ ?_)))
def X19(a b:U1q):Bool:=decide (a=b)
def X4m:Con:={A:=(.pair T0q T0q),shA:=[.agg 13,.agg 13],R:=.bool,shR:=[(false,1)],pre:=fun _ _=>True,f:=some fun _ a=>((X19 a.1 a.2),((),()))}
def X1J.F(a0:U1q)(a1:U1q):Prop:=(X02 (a0.1 !=a1.1) (Eq (false,((),())) ((X19 a0 a1),((),()))) (X02 (a0.2.1 !=a1.2.1) (Eq (false,((),())) ((X19 a0 a1),((),()))) (X02 (a0.2.2.1 !=a1.2.2.1) (Eq (false,((),())) ((X19 a0 a1),((),()))) (X02 (a0.2.2.2.1 !=a1.2.2.2.1) (Eq (false,((),())) ((X19 a0 a1),((),()))) (X02 (a0.2.2.2.2.1 !=a1.2.2.2.2.1) (Eq (false,((),())) ((X19 a0 a1),((),()))) (X02 (a0.2.2.2.2.2.1 !=a1.2.2.2.2.2.1) (Eq (false,((),())) ((X19 a0 a1),((),()))) (X02 (a0.2.2.2.2.2.2.1 !=a1.2.2.2.2.2.2.1) (Eq (false,((),())) ((X19 a0 a1),((),()))) (X02 (a0.2.2.2.2.2.2.2.1 !=a1.2.2.2.2.2.2.2.1) (Eq (false,((),())) ((X19 a0 a1),((),()))) (True∧∀r1,(Eq r1 ((X27 a0.2.2.2.2.2.2.2.2.1 a1.2.2.2.2.2.2.2.2.1),((),())))→(X02 (!r1.1) (Eq (false,((),())) ((X19 a0 a1),((),()))) (X02 (a0.2.2.2.2.2.2.2.2.2.1 !=a1.2.2.2.2.2.2.2.2.2.1) (Eq (false,((),())) ((X19 a0 a1),((),()))) (True∧∀r2,(Eq r2 ((X3z a0.2.2.2.2.2.2.2.2.2.2.1 a1.2.2.2.2.2.2.2.2.2.2.1),((),())))→(X02 (!r2.1) (Eq (false,((),())) ((X19 a0 a1),((),()))) (True∧∀r3,(Eq r3 ((X3z a0.2.2.2.2.2.2.2.2.2.2.2.1 a1.2.2.2.2.2.2.2.2.2.2.2.1),((),())))→(X02 (!r3.1) (Eq (false,((),())) ((X19 a0 a1),((),()))) (True∧∀r4,(Eq r4 ((X3z a0.2.2.2.2.2.2.2.2.2.2.2.2 a1.2.2.2.2.2.2.2.2.2.2.2.2),((),())))→(X02 (!r4.1) (Eq (false,((),())) ((X19 a0 a1),((),()))) (Eq (true,((),())) ((X19 a0 a1),((),()))))))))))))))))))))
theorem X1J.pure(a0:U1q)(a1:U1q)(h:True)(hw:Wf X4m.A (a0,a1)):X1J.F a0 a1:=by
 unfold X1J.F
 obtain⟨x1,x2,x3,x4,x5,x6,x7,x8,x9,x10,x11,x12,x13⟩:=a0
 obtain⟨y1,y2,y3,y4,y5,y6,y7,y8,y9,y10,y11,y12,y13⟩:=a1
 simp only[Bs,B0,B1,Prod.mk.injEq,X04,X19,X27,X3z]
 repeat' (first | (refine And.intro ?_ ?_) | intro _)
 all_goals simp_all
theorem X1J.eq:EqS X4m Try.f21 [4] [X0C.e,X1f.e] [] noL (fun i x=>X1J.F x.1 x.2):=by intro i x;kernel_rfl
theorem X1J.ok:X0D Try.prog 21 X4m:=X2U X1J.eq Try.func21 rfl (by kernel_rfl) fun i x h hi hw=>X1J.pure x.1 x.2 h hw
def X1J.e:GE:=⟨21,X4m,⟨_,Try.func21,rfl,rfl⟩,X1J.ok⟩
def X2v(x:U1q):Int:=cL X0a x.2.2.2.2.2.2.2.2.1+cL c_1 x.2.2.2.2.2.2.2.2.2.2.1+cL c_1 x.2.2.2.2.2.2.2.2.2.2.2.1+cL c_1 x.2.2.2.2.2.2.2.2.2.2.2.2
def Xcy(x:U1q)(k:Int):((List U4q)×((List Int)×((List Int)×(List Int)))):=(mL X0a X4f x.2.2.2.2.2.2.2.2.1 k,(mL c_1 X6R x.2.2.2.2.2.2.2.2.2.2.1 (k+cL X0a x.2.2.2.2.2.2.2.2.1),(mL c_1 X6R x.2.2.2.2.2.2.2.2.2.2.2.1 (k+cL X0a x.2.2.2.2.2.2.2.2.1+cL c_1 x.2.2.2.2.2.2.2.2.2.2.1),mL c_1 X6R x.2.2.2.2.2.2.2.2.2.2.2.2 (k+cL X0a x.2.2.2.2.2.2.2.2.1+cL c_1 x.2.2.2.2.2.2.2.2.2.2.1+cL c_1 x.2.2.2.2.2.2.2.2.2.2.2.1))))
def XaC(x:U1q)(k:Int):Bool:=oL X0a X3K x.2.2.2.2.2.2.2.2.1 k&&oL c_1 X7m x.2.2.2.2.2.2.2.2.2.2.1 (k+cL X0a x.2.2.2.2.2.2.2.2.1)&&oL c_1 X7m x.2.2.2.2.2.2.2.2.2.2.2.1 (k+cL X0a x.2.2.2.2.2.2.2.2.1+cL c_1 x.2.2.2.2.2.2.2.2.2.2.1)&&oL c_1 X7m x.2.2.2.2.2.2.2.2.2.2.2.2 (k+cL X0a x.2.2.2.2.2.2.2.2.1+cL c_1 x.2.2.2.2.2.2.2.2.2.2.1+cL c_1 x.2.2.2.2.2.2.2.2.2.2.2.1)
def X7E(x:U1q)(k:Int):U1q:=(x.1,(x.2.1,(x.2.2.1,(x.2.2.2.1,(x.2.2.2.2.1,(x.2.2.2.2.2.1,(x.2.2.2.2.2.2.1,(x.2.2.2.2.2.2.2.1,(mL X0a X4f x.2.2.2.2.2.2.2.2.1 k,(x.2.2.2.2.2.2.2.2.2.1,(mL c_1 X6R x.2.2.2.2.2.2.2.2.2.2.1 (k+cL X0a x.2.2.2.2.2.2.2.2.1),(mL c_1 X6R x.2.2.2.2.2.2.2.2.2.2.2.1 (k+cL X0a x.2.2.2.2.2.2.2.2.1+cL c_1 x.2.2.2.2.2.2.2.2.2.2.1),mL c_1 X6R x.2.2.2.2.2.2.2.2.2.2.2.2 (k+cL X0a x.2.2.2.2.2.2.2.2.1+cL c_1 x.2.2.2.2.2.2.2.2.2.2.1+cL c_1 x.2.2.2.2.2.2.2.2.2.2.2.1)))))))))))))
theorem XbC(x:U1q):0≤X2v x:=by
 have p0:=X1Z X2s x.2.2.2.2.2.2.2.2.1
 have p1:=X1Z X32 x.2.2.2.2.2.2.2.2.2.2.1
 have p2:=X1Z X32 x.2.2.2.2.2.2.2.2.2.2.2.1
 have p3:=X1Z X32 x.2.2.2.2.2.2.2.2.2.2.2.2
 unfold X2v;omega
theorem Xdr(x:U1q)(k:Int):XaC (X7E x k) k=true∧X2v (X7E x k)=X2v x:=by
 simp[XaC,X7E,X2v,(XbH X8C _ _).1,(XbH X8C _ _).2,(XbH Xge _ _).1,(XbH Xge _ _).2]
def X30(x:U1q)(k:Int):Prop:=0≤k∧k+X2v x≤4611686018427387904
def X46(x:U1q)(k:Int):Int×((List U4q)×((List Int)×((List Int)×(List Int)))):=(k+X2v x,Xcy x k)
def X3h:Con:={A:=(.pair T0q (.int .i64)),shA:=[.agg 13,.one],backA:=[(8,101),(10,3),(11,3),(12,3)],B:=(.pair (.list T5q) (.pair T6q (.pair T6q T6q))),R:=(.int .i64),shR:=[(false,1)],pre:=fun _ a=>(X30 a.1 a.2),f:=some fun _ a=>((X46 a.1 a.2).1,((),(X46 a.1 a.2).2))}
def X12.F(a0:U1q)(a1:Int):Prop:=((X1U a0.2.2.2.2.2.2.2.2.1 a1)∧∀r1,(Eq r1 ((X2t a0.2.2.2.2.2.2.2.2.1 a1).1,((),(X2t a0.2.2.2.2.2.2.2.2.1 a1).2)))→((X2X a0.2.2.2.2.2.2.2.2.2.2.1 r1.1)∧∀r2,(Eq r2 ((X3E a0.2.2.2.2.2.2.2.2.2.2.1 r1.1).1,((),(X3E a0.2.2.2.2.2.2.2.2.2.2.1 r1.1).2)))→((X2X a0.2.2.2.2.2.2.2.2.2.2.2.1 r2.1)∧∀r3,(Eq r3 ((X3E a0.2.2.2.2.2.2.2.2.2.2.2.1 r2.1).1,((),(X3E a0.2.2.2.2.2.2.2.2.2.2.2.1 r2.1).2)))→((X2X a0.2.2.2.2.2.2.2.2.2.2.2.2 r3.1)∧∀r4,(Eq r4 ((X3E a0.2.2.2.2.2.2.2.2.2.2.2.2 r3.1).1,((),(X3E a0.2.2.2.2.2.2.2.2.2.2.2.2 r3.1).2)))→(Eq (r4.1,((),(r1.2.2,(r2.2.2,(r3.2.2,r4.2.2))))) ((X46 a0 a1).1,((),(X46 a0 a1).2)))))))
theorem X12.pure(a0:U1q)(a1:Int)(h:(X30 a0 a1))(hw:Wf X3h.A (a0,a1)):X12.F a0 a1:=by
 unfold X12.F
 obtain⟨p1,p2⟩:=h
 simp only[X2v]at p2
 have p3:=X1Z X2s a0.2.2.2.2.2.2.2.2.1
 have p4:=X1Z X32 a0.2.2.2.2.2.2.2.2.2.2.1
 have p5:=X1Z X32 a0.2.2.2.2.2.2.2.2.2.2.2.1
 have p6:=X1Z X32 a0.2.2.2.2.2.2.2.2.2.2.2.2
 simp only[Bs,B0,B1,Prod.mk.injEq,X04,X2t,X1U,X3E,X2X,X2v,Xcy,X46]
 repeat' (with_reducible (first | (refine And.intro ?_ ?_) | intro _))
 all_goals (try simp only[←Int.add_assoc])
 all_goals (first | omega | rfl | (refine Prod.ext ?_ rfl;simp only;omega) | skip)
theorem X12.eq:EqS X3h Try.f23 [3] [X0j.e,X0N.e] [] noL (fun i x=>X12.F x.1 x.2):=by intro i x;kernel_rfl
theorem X12.ok:X0D Try.prog 23 X3h:=X2U X12.eq Try.func23 rfl (by kernel_rfl) fun i x h hi hw=>X12.pure x.1 x.2 h hw
def X12.e:GE:=⟨23,X3h,⟨_,Try.func23,rfl,rfl⟩,X12.ok⟩
def X3v(x:U1q)(k:Int):Int:=fHd (X2v x) (XaC x k) k
def X3C:Con:={A:=(.pair T0q (.int .i64)),shA:=[.agg 13,.one],R:=(.int .i64),shR:=[(false,1)],pre:=fun _ a=>(X30 a.1 a.2),f:=some fun _ a=>((X3v a.1 a.2),((),()))}
def X13.F(a0:U1q)(a1:Int):Prop:=((X1U a0.2.2.2.2.2.2.2.2.1 a1)∧∀r1,(Eq r1 ((X2I a0.2.2.2.2.2.2.2.2.1 a1),((),())))→(X02 (decide (r1.1<(0:Int))) (Eq ((-1),((),())) ((X3v a0 a1),((),()))) ((X2X a0.2.2.2.2.2.2.2.2.2.2.1 r1.1)∧∀r2,(Eq r2 ((X56 a0.2.2.2.2.2.2.2.2.2.2.1 r1.1),((),())))→(X02 (decide (r2.1<(0:Int))) (Eq ((-1),((),())) ((X3v a0 a1),((),()))) ((X2X a0.2.2.2.2.2.2.2.2.2.2.2.1 r2.1)∧∀r3,(Eq r3 ((X56 a0.2.2.2.2.2.2.2.2.2.2.2.1 r2.1),((),())))→(X02 (decide (r3.1<(0:Int))) (Eq ((-1),((),())) ((X3v a0 a1),((),()))) ((X2X a0.2.2.2.2.2.2.2.2.2.2.2.2 r3.1)∧∀r4,(Eq r4 ((X56 a0.2.2.2.2.2.2.2.2.2.2.2.2 r3.1),((),())))→(X02 (decide (r4.1<(0:Int))) (Eq ((-1),((),())) ((X3v a0 a1),((),()))) (Eq (r4.1,((),())) ((X3v a0 a1),((),())))))))))))
theorem X13.pure(a0:U1q)(a1:Int)(h:(X30 a0 a1))(hw:Wf X3C.A (a0,a1)):X13.F a0 a1:=by
 unfold X13.F
 obtain⟨p1,p2⟩:=h
 simp only[X2v]at p2
 have p3:=X1Z X2s a0.2.2.2.2.2.2.2.2.1
 have p4:=X1Z X32 a0.2.2.2.2.2.2.2.2.2.2.1
 have p5:=X1Z X32 a0.2.2.2.2.2.2.2.2.2.2.2.1
 have p6:=X1Z X32 a0.2.2.2.2.2.2.2.2.2.2.2.2
 simp only[Bs,B0,B1,Prod.mk.injEq,X04,X3v,X1U,X2I,X2X,X56,X2v,XaC]
 repeat' (with_reducible (first | (refine And.intro ?_ ?_) | intro _))
 all_goals (try simp (disch:=first | omega | assumption) only[X4e,X33,Bool.not_eq_false]at*)
 all_goals (try simp (disch:=first | omega | assumption) only[X4e,X33,Bool.not_eq_false]at*)
 all_goals (try simp (disch:=first | omega | assumption) only[X4e,X33,Bool.not_eq_false]at*)
 all_goals (try simp (disch:=first | omega | assumption) only[X4e,X33,Bool.not_eq_false]at*)
 all_goals (try simp (disch:=first | omega | assumption) only[X4e,X33,Bool.not_eq_false]at*)
 all_goals (try simp (disch:=first | omega | assumption) only[X4e,X33,Bool.not_eq_false]at*)
 all_goals (first | omega | (unfold fHd;grind) | skip)
theorem X13.eq:EqS X3C Try.f25 [3] [X0l.e,X0Q.e] [] noL (fun i x=>X13.F x.1 x.2):=by intro i x;kernel_rfl
theorem X13.ok:X0D Try.prog 25 X3C:=X2U X13.eq Try.func25 rfl (by kernel_rfl) fun i x h hi hw=>X13.pure x.1 x.2 h hw
def X13.e:GE:=⟨25,X3C,⟨_,Try.func25,rfl,rfl⟩,X13.ok⟩
end Go.Proofs.Ytegmokdppbagiaa.B
