/- Cores:copied,made,cut. -/
import Derived.Test.YtegmokdppbagiaaCCoreB
set_option maxRecDepth 100000
set_option linter.unusedVariables false
set_option linter.unusedSimpArgs false
namespace Go.Proofs.Ytegmokdppbagiaa.B
open Go Go.Proofs.Ytegmokdppbagiaa.Bv
def X6q(c:X2Z):X2Z:=c
def X3Z(c:X2Z)(n:Int):Int:=if n=c.2.2.2.2.2.2.1 then c.2.2.2.2.2.2.2.1 else(c.2.2.2.2.2.2.2.2.1.getD (n - c.2.2.2.2.2.2.1 - 1).toNat (0,[])).1
def X7A(c:X2Z)(n:Int):Prop:=-1000000≤c.2.2.2.2.2.2.1∧c.2.2.2.2.2.2.1≤1000000∧c.2.2.2.2.2.2.1≤n∧n≤c.2.2.2.2.2.2.1+c.2.2.2.2.2.2.2.2.1.length∧c.2.2.2.2.2.2.2.2.1.length≤1000000
def Xh7:X2Z:=(0,(0,(0,(0,(0,(0,(0,(0,([],(0,([],([],[]))))))))))))
theorem XaT{c:X2Z}(h:X06 c=true):0≤c.2.2.2.2.2.2.1∧c.2.2.2.2.2.2.1≤100000∧c.2.2.2.2.2.2.2.2.1.length≤60∧c.2.2.2.2.2.2.1≤c.2.2.2.2.2.2.2.2.2.1∧c.2.2.2.2.2.2.2.2.2.1≤c.2.2.2.2.2.2.1+c.2.2.2.2.2.2.2.2.1.length∧1≤c.2.1∧c.2.1≤5:=by
 simp only[X06,X3V,Bool.and_eq_true,X30,X22,X6t,decide_eq_true_eq]at h
 obtain⟨⟨h1,h2,⟨h3,h4,h5,h6,h7,h8⟩,h9,h10⟩,h11⟩:=h
 have h12:=X8y h5
 have h13:=of_decide_eq_true h7
 unfold X0t at h10
 rw[w64 (by omega) (by omega)]at h10
 omega
def X3d:Con:={A:=T0q,shA:=[.agg 13],R:=T0q,shR:=[(true,13)],fresh:=[(8,101),(10,3),(11,3),(12,3)],pre:=fun _ a=>(X21 a),f:=some fun _ a=>((X6q a),((),()))}
def X0Z.F(a0:U1q):Prop:=((XbD a0.2.2.2.2.2.2.2.2.1)∧∀r1,(Eq r1 ((fId a0.2.2.2.2.2.2.2.2.1),((),())))→((XbD a0.2.2.2.2.2.2.2.2.2.2.1)∧∀r2,(Eq r2 ((fId a0.2.2.2.2.2.2.2.2.2.2.1),((),())))→((XbD a0.2.2.2.2.2.2.2.2.2.2.2.1)∧∀r3,(Eq r3 ((fId a0.2.2.2.2.2.2.2.2.2.2.2.1),((),())))→((XbD a0.2.2.2.2.2.2.2.2.2.2.2.2)∧∀r4,(Eq r4 ((fId a0.2.2.2.2.2.2.2.2.2.2.2.2),((),())))→(Eq ((a0.1,(a0.2.1,(a0.2.2.1,(a0.2.2.2.1,(a0.2.2.2.2.1,(a0.2.2.2.2.2.1,(a0.2.2.2.2.2.2.1,(a0.2.2.2.2.2.2.2.1,(r1.1,(a0.2.2.2.2.2.2.2.2.2.1,(r2.1,(r3.1,r4.1)))))))))))),((),())) ((X6q a0),((),())))))))
theorem X0Z.pure(a0:U1q)(h:(X21 a0))(hw:Wf X3d.A a0):X0Z.F a0:=by
 unfold X0Z.F
 have hpc:X21 a0:=h
 obtain⟨p0,p1,p2,p3⟩:=h
 simp only[Bs,B0,B1,Prod.mk.injEq,X04,X6q,fId,XbD,Prod.eta]
 repeat' (with_reducible (first | (refine And.intro ?_ ?_) | intro _))
 all_goals (try simp (disch:=omega) only[w64,wu8,tn0,tn1,tm1,tm2,List.length_append,List.length_cons,List.length_nil]at*)
 all_goals (try simp (disch:=omega) only[w64,wu8,tn0,tn1,tm1,tm2,List.length_append,List.length_cons,List.length_nil]at*)
 all_goals (try omega)
 all_goals (try grind[])
theorem X0Z.eq:EqS X3d Try.f53 [49] [X02.e,X0e.e] [] noL (fun i x=>X0Z.F x):=by intro i x;kernel_rfl
theorem X0Z.ok:X0I Try.prog 53 X3d:=X35 X0Z.eq Try.func53 rfl (by kernel_rfl) fun i x h hi hw=>X0Z.pure x h hw
def X0Z.e:GE:=⟨53,X3d,⟨_,Try.func53,rfl,rfl⟩,X0Z.ok⟩
def X3I:Con:={A:=T0q,shA:=[.agg 13],R:=T0q,shR:=[(true,13)],fresh:=[(8,101),(10,3),(11,3),(12,3)],pre:=fun _ a=>(X21 a),f:=some fun _ a=>((X6q a),((),()))}
def X1n.F(a0:U1q):Prop:=(List.length ([]:List U4q)+List.length a0.2.2.2.2.2.2.2.2.1≤9223372036854775807∧((List.length ([]:List U4q)+List.length a0.2.2.2.2.2.2.2.2.1)*24≤140737488355328∧(List.length ([]:List Int)+List.length a0.2.2.2.2.2.2.2.2.2.2.1≤9223372036854775807∧((List.length ([]:List Int)+List.length a0.2.2.2.2.2.2.2.2.2.2.1)*8≤140737488355328∧(List.length ([]:List Int)+List.length a0.2.2.2.2.2.2.2.2.2.2.2.1≤9223372036854775807∧((List.length ([]:List Int)+List.length a0.2.2.2.2.2.2.2.2.2.2.2.1)*8≤140737488355328∧(List.length ([]:List Int)+List.length a0.2.2.2.2.2.2.2.2.2.2.2.2≤9223372036854775807∧((List.length ([]:List Int)+List.length a0.2.2.2.2.2.2.2.2.2.2.2.2)*8≤140737488355328∧(Eq ((a0.1,(a0.2.1,(a0.2.2.1,(a0.2.2.2.1,(a0.2.2.2.2.1,(a0.2.2.2.2.2.1,(a0.2.2.2.2.2.2.1,(a0.2.2.2.2.2.2.2.1,((([]:List U4q)++a0.2.2.2.2.2.2.2.2.1),(a0.2.2.2.2.2.2.2.2.2.1,((([]:List Int)++a0.2.2.2.2.2.2.2.2.2.2.1),((([]:List Int)++a0.2.2.2.2.2.2.2.2.2.2.2.1),(([]:List Int)++a0.2.2.2.2.2.2.2.2.2.2.2.2))))))))))))),((),())) ((X6q a0),((),())))))))))))
theorem X1n.pure(a0:U1q)(h:(X21 a0))(hw:Wf X3I.A a0):X1n.F a0:=by
 unfold X1n.F
 have hpc:X21 a0:=h
 obtain⟨p0,p1,p2,p3⟩:=h
 simp only[Bs,B0,B1,Prod.mk.injEq,X04,X6q,fId,XbD,Prod.eta]
 repeat' (with_reducible (first | (refine And.intro ?_ ?_) | intro _))
 all_goals (try simp (disch:=omega) only[w64,wu8,tn0,tn1,tm1,tm2,List.length_append,List.length_cons,List.length_nil]at*)
 all_goals (try simp (disch:=omega) only[w64,wu8,tn0,tn1,tm1,tm2,List.length_append,List.length_cons,List.length_nil]at*)
 all_goals (try omega)
 all_goals (try grind[])
theorem X1n.eq:EqS X3I Try.f48 [49] [] [] noL (fun i x=>X1n.F x):=by intro i x;kernel_rfl
theorem X1n.ok:X0I Try.prog 48 X3I:=X35 X1n.eq Try.func48 rfl (by kernel_rfl) fun i x h hi hw=>X1n.pure x h hw
def X1n.e:GE:=⟨48,X3I,⟨_,Try.func48,rfl,rfl⟩,X1n.ok⟩
def X2H:Con:={A:=(.pair T0q (.int .i64)),shA:=[.ptr 13,.one],R:=(.int .i64),shR:=[(false,1)],pre:=fun _ a=>(X7A a.1 a.2),f:=some fun _ a=>((X3Z a.1 a.2),((),()))}
def X0K.F(a0:U1q)(a1:Int):Prop:=(X03 (a1==a0.2.2.2.2.2.2.1) (Eq (a0.2.2.2.2.2.2.2.1,((),())) ((X3Z a0 a1),((),()))) (0≤(wI ((wI (a1 - a0.2.2.2.2.2.2.1)) - (1:Int)))∧((wI ((wI (a1 - a0.2.2.2.2.2.2.1)) - (1:Int)))<(ln a0.2.2.2.2.2.2.2.2.1)∧(Eq ((List.getD a0.2.2.2.2.2.2.2.2.1 (tN (wI ((wI (a1 - a0.2.2.2.2.2.2.1)) - (1:Int)))) (0,[])).1,((),())) ((X3Z a0 a1),((),()))))))
theorem X0K.pure(a0:U1q)(a1:Int)(h:(X7A a0 a1))(hw:Wf X2H.A (a0,a1)):X0K.F a0 a1:=by
 delta X0K.F ln tN wI
 simp only[Bs,B0,B1,Prod.mk.injEq,X04,Prod.eta]
 obtain⟨p1,p2,p3,p4,p5⟩:=h
 rw[w64 (x:=a1 - a0.2.2.2.2.2.2.1) (by omega) (by omega),w64 (x:=a1 - a0.2.2.2.2.2.2.1 - 1) (by omega) (by omega)]
 unfold X3Z
 refine⟨fun h1=>(if_pos h1).symm,fun h1=>⟨by omega,by omega,(if_neg h1).symm⟩⟩
theorem X0K.eq:EqS X2H Try.f75 [3] [] [] noL (fun i x=>X0K.F x.1 x.2):=by intro i x;kernel_rfl
theorem X0K.ok:X0I Try.prog 75 X2H:=X35 X0K.eq Try.func75 rfl (by kernel_rfl) fun i x h hi hw=>X0K.pure x.1 x.2 h hw
def X0K.e:GE:=⟨75,X2H,⟨_,Try.func75,rfl,rfl⟩,X0K.ok⟩
def X2D:Con:={A:=(.pair T0q (.int .i64)),shA:=[.agg 13,.one],R:=(.int .i64),shR:=[(false,1)],pre:=fun _ a=>(X7A a.1 a.2),f:=some fun _ a=>((X3Z a.1 a.2),((),()))}
def X0L.F(a0:U1q)(a1:Int):Prop:=(X03 (a1==a0.2.2.2.2.2.2.1) (Eq (a0.2.2.2.2.2.2.2.1,((),())) ((X3Z a0 a1),((),()))) (0≤(wI ((wI (a1 - a0.2.2.2.2.2.2.1)) - (1:Int)))∧((wI ((wI (a1 - a0.2.2.2.2.2.2.1)) - (1:Int)))<(ln a0.2.2.2.2.2.2.2.2.1)∧(Eq ((List.getD a0.2.2.2.2.2.2.2.2.1 (tN (wI ((wI (a1 - a0.2.2.2.2.2.2.1)) - (1:Int)))) (0,[])).1,((),())) ((X3Z a0 a1),((),()))))))
theorem X0L.pure(a0:U1q)(a1:Int)(h:(X7A a0 a1))(hw:Wf X2D.A (a0,a1)):X0L.F a0 a1:=by
 delta X0L.F ln tN wI
 simp only[Bs,B0,B1,Prod.mk.injEq,X04,Prod.eta]
 obtain⟨p1,p2,p3,p4,p5⟩:=h
 rw[w64 (x:=a1 - a0.2.2.2.2.2.2.1) (by omega) (by omega),w64 (x:=a1 - a0.2.2.2.2.2.2.1 - 1) (by omega) (by omega)]
 unfold X3Z
 refine⟨fun h1=>(if_pos h1).symm,fun h1=>⟨by omega,by omega,(if_neg h1).symm⟩⟩
theorem X0L.eq:EqS X2D Try.f70 [3] [] [] noL (fun i x=>X0L.F x.1 x.2):=by intro i x;kernel_rfl
theorem X0L.ok:X0I Try.prog 70 X2D:=X35 X0L.eq Try.func70 rfl (by kernel_rfl) fun i x h hi hw=>X0L.pure x.1 x.2 h hw
def X0L.e:GE:=⟨70,X2D,⟨_,Try.func70,rfl,rfl⟩,X0L.ok⟩
end Go.Proofs.Ytegmokdppbagiaa.B
