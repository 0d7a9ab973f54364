/- Cores:copied,made,cut. -/
import Derived.Test.YtegmokdppbagiaaCCoreB
set_option maxRecDepth 100000
set_option linter.unusedVariables false
set_option linter.unusedSimpArgs false
namespace Go.Proofs.Ytegmokdppbagiaa.B
open Go Go.Proofs.Ytegmokdppbagiaa.Bv
def X6L(c:X1Q):X1Q:=c
def X2C(c:X1Q)(n:Int):Int:=if n=c.2.2.2.2.2.2.1 then c.2.2.2.2.2.2.2.1 else(c.2.2.2.2.2.2.2.2.1.getD (n - c.2.2.2.2.2.2.1 - 1).toNat (0,[])).1
def X5n(c:X1Q)(n:Int):Prop:=-1000000≤c.2.2.2.2.2.2.1∧c.2.2.2.2.2.2.1≤1000000∧c.2.2.2.2.2.2.1≤n∧n≤c.2.2.2.2.2.2.1+c.2.2.2.2.2.2.2.2.1.length∧c.2.2.2.2.2.2.2.2.1.length≤1000000
def XgN:X1Q:=(0,(0,(0,(0,(0,(0,(0,(0,([],(0,([],([],[]))))))))))))
theorem X5r{c:X1Q}(h:X06 c=true):0≤c.2.2.2.2.2.2.1∧c.2.2.2.2.2.2.1≤100000∧c.2.2.2.2.2.2.2.2.1.length≤60∧c.2.2.2.2.2.2.1≤c.2.2.2.2.2.2.2.2.2.1∧c.2.2.2.2.2.2.2.2.2.1≤c.2.2.2.2.2.2.1+c.2.2.2.2.2.2.2.2.1.length∧1≤c.2.1∧c.2.1≤5:=by
 simp only[X06,X3s,Bool.and_eq_true,X34,X2g,X6O,decide_eq_true_eq]at h
 obtain⟨⟨h1,h2,⟨h3,h4,h5,h6,h7,h8⟩,h9,h10⟩,h11⟩:=h
 have h12:=X9x h5
 have h13:=of_decide_eq_true h7
 unfold X05 at h10
 rw[w64 (by omega) (by omega)]at h10
 omega
def X3n:Con:={A:=T0q,shA:=[.agg 13],R:=T0q,shR:=[(true,13)],fresh:=[(8,101),(10,3),(11,3),(12,3)],pre:=fun _ a=>(X2G a),f:=some fun _ a=>((X6L a),((),()))}
def X16.F(a0:U1q):Prop:=((XbZ a0.2.2.2.2.2.2.2.2.1)∧∀r1,(Eq r1 ((fId a0.2.2.2.2.2.2.2.2.1),((),())))→((XbZ a0.2.2.2.2.2.2.2.2.2.2.1)∧∀r2,(Eq r2 ((fId a0.2.2.2.2.2.2.2.2.2.2.1),((),())))→((XbZ a0.2.2.2.2.2.2.2.2.2.2.2.1)∧∀r3,(Eq r3 ((fId a0.2.2.2.2.2.2.2.2.2.2.2.1),((),())))→((XbZ a0.2.2.2.2.2.2.2.2.2.2.2.2)∧∀r4,(Eq r4 ((fId a0.2.2.2.2.2.2.2.2.2.2.2.2),((),())))→(Eq ((a0.1,(a0.2.1,(a0.2.2.1,(a0.2.2.2.1,(a0.2.2.2.2.1,(a0.2.2.2.2.2.1,(a0.2.2.2.2.2.2.1,(a0.2.2.2.2.2.2.2.1,(r1.1,(a0.2.2.2.2.2.2.2.2.2.1,(r2.1,(r3.1,r4.1)))))))))))),((),())) ((X6L a0),((),())))))))
theorem X16.pure(a0:U1q)(h:(X2G a0))(hw:Wf X3n.A a0):X16.F a0:=by
 unfold X16.F
 have hpc:X2G a0:=h
 obtain⟨p0,p1,p2,p3⟩:=h
 simp only[Bs,B0,B1,Prod.mk.injEq,X04,X6L,fId,XbZ,Prod.eta]
 repeat' (with_reducible (first | (refine And.intro ?_ ?_) | intro _))
 all_goals (try simp (disch:=omega) only[w64,wu8,tn0,tn1,tm1,tm2,List.length_append,List.length_cons,List.length_nil]at*)
 all_goals (try simp (disch:=omega) only[w64,wu8,tn0,tn1,tm1,tm2,List.length_append,List.length_cons,List.length_nil]at*)
 all_goals (try omega)
 all_goals (try grind[])
theorem X16.eq:EqS X3n Try.f53 [49] [X03.e,X0f.e] [] noL (fun i x=>X16.F x):=by intro i x;kernel_rfl
theorem X16.ok:X0D Try.prog 53 X3n:=X2U X16.eq Try.func53 rfl (by kernel_rfl) fun i x h hi hw=>X16.pure x h hw
def X16.e:GE:=⟨53,X3n,⟨_,Try.func53,rfl,rfl⟩,X16.ok⟩
def X3W:Con:={A:=T0q,shA:=[.agg 13],R:=T0q,shR:=[(true,13)],fresh:=[(8,101),(10,3),(11,3),(12,3)],pre:=fun _ a=>(X2G a),f:=some fun _ a=>((X6L a),((),()))}
def X1t.F(a0:U1q):Prop:=(List.length ([]:List U4q)+List.length a0.2.2.2.2.2.2.2.2.1≤9223372036854775807∧((List.length ([]:List U4q)+List.length a0.2.2.2.2.2.2.2.2.1)*24≤140737488355328∧(List.length ([]:List Int)+List.length a0.2.2.2.2.2.2.2.2.2.2.1≤9223372036854775807∧((List.length ([]:List Int)+List.length a0.2.2.2.2.2.2.2.2.2.2.1)*8≤140737488355328∧(List.length ([]:List Int)+List.length a0.2.2.2.2.2.2.2.2.2.2.2.1≤9223372036854775807∧((List.length ([]:List Int)+List.length a0.2.2.2.2.2.2.2.2.2.2.2.1)*8≤140737488355328∧(List.length ([]:List Int)+List.length a0.2.2.2.2.2.2.2.2.2.2.2.2≤9223372036854775807∧((List.length ([]:List Int)+List.length a0.2.2.2.2.2.2.2.2.2.2.2.2)*8≤140737488355328∧(Eq ((a0.1,(a0.2.1,(a0.2.2.1,(a0.2.2.2.1,(a0.2.2.2.2.1,(a0.2.2.2.2.2.1,(a0.2.2.2.2.2.2.1,(a0.2.2.2.2.2.2.2.1,((([]:List U4q)++a0.2.2.2.2.2.2.2.2.1),(a0.2.2.2.2.2.2.2.2.2.1,((([]:List Int)++a0.2.2.2.2.2.2.2.2.2.2.1),((([]:List Int)++a0.2.2.2.2.2.2.2.2.2.2.2.1),(([]:List Int)++a0.2.2.2.2.2.2.2.2.2.2.2.2))))))))))))),((),())) ((X6L a0),((),())))))))))))
theorem X1t.pure(a0:U1q)(h:(X2G a0))(hw:Wf X3W.A a0):X1t.F a0:=by
 unfold X1t.F
 have hpc:X2G a0:=h
 obtain⟨p0,p1,p2,p3⟩:=h
 simp only[Bs,B0,B1,Prod.mk.injEq,X04,X6L,fId,XbZ,Prod.eta]
 repeat' (with_reducible (first | (refine And.intro ?_ ?_) | intro _))
 all_goals (try simp (disch:=omega) only[w64,wu8,tn0,tn1,tm1,tm2,List.length_append,List.length_cons,List.length_nil]at*)
 all_goals (try simp (disch:=omega) only[w64,wu8,tn0,tn1,tm1,tm2,List.length_append,List.length_cons,List.length_nil]at*)
 all_goals (try omega)
 all_goals (try grind[])
theorem X1t.eq:EqS X3W Try.f48 [49] [] [] noL (fun i x=>X1t.F x):=by intro i x;kernel_rfl
theorem X1t.ok:X0D Try.prog 48 X3W:=X2U X1t.eq Try.func48 rfl (by kernel_rfl) fun i x h hi hw=>X1t.pure x h hw
def X1t.e:GE:=⟨48,X3W,⟨_,Try.func48,rfl,rfl⟩,X1t.ok⟩
def X2T:Con:={A:=(.pair T0q (.int .i64)),shA:=[.ptr 13,.one],R:=(.int .i64),shR:=[(false,1)],pre:=fun _ a=>(X5n a.1 a.2),f:=some fun _ a=>((X2C a.1 a.2),((),()))}
def X0H.F(a0:U1q)(a1:Int):Prop:=(X02 (a1==a0.2.2.2.2.2.2.1) (Eq (a0.2.2.2.2.2.2.2.1,((),())) ((X2C a0 a1),((),()))) (0≤(wI ((wI (a1 - a0.2.2.2.2.2.2.1)) - (1:Int)))∧((wI ((wI (a1 - a0.2.2.2.2.2.2.1)) - (1:Int)))<(ln a0.2.2.2.2.2.2.2.2.1)∧(Eq ((List.getD a0.2.2.2.2.2.2.2.2.1 (tN (wI ((wI (a1 - a0.2.2.2.2.2.2.1)) - (1:Int)))) (0,[])).1,((),())) ((X2C a0 a1),((),()))))))
theorem X0H.pure(a0:U1q)(a1:Int)(h:(X5n a0 a1))(hw:Wf X2T.A (a0,a1)):X0H.F a0 a1:=by
 delta X0H.F ln tN wI
 simp only[Bs,B0,B1,Prod.mk.injEq,X04,Prod.eta]
 obtain⟨p1,p2,p3,p4,p5⟩:=h
 rw[w64 (x:=a1 - a0.2.2.2.2.2.2.1) (by omega) (by omega),w64 (x:=a1 - a0.2.2.2.2.2.2.1 - 1) (by omega) (by omega)]
 unfold X2C
 refine⟨fun h1=>(if_pos h1).symm,fun h1=>⟨by omega,by omega,(if_neg h1).symm⟩⟩
theorem X0H.eq:EqS X2T Try.f75 [3] [] [] noL (fun i x=>X0H.F x.1 x.2):=by intro i x;kernel_rfl
theorem X0H.ok:X0D Try.prog 75 X2T:=X2U X0H.eq Try.func75 rfl (by kernel_rfl) fun i x h hi hw=>X0H.pure x.1 x.2 h hw
def X0H.e:GE:=⟨75,X2T,⟨_,Try.func75,rfl,rfl⟩,X0H.ok⟩
def X2Z:Con:={A:=(.pair T0q (.int .i64)),shA:=[.agg 13,.one],R:=(.int .i64),shR:=[(false,1)],pre:=fun _ a=>(X5n a.1 a.2),f:=some fun _ a=>((X2C a.1 a.2),((),()))}
def X0G.F(a0:U1q)(a1:Int):Prop:=(X02 (a1==a0.2.2.2.2.2.2.1) (Eq (a0.2.2.2.2.2.2.2.1,((),())) ((X2C a0 a1),((),()))) (0≤(wI ((wI (a1 - a0.2.2.2.2.2.2.1)) - (1:Int)))∧((wI ((wI (a1 - a0.2.2.2.2.2.2.1)) - (1:Int)))<(ln a0.2.2.2.2.2.2.2.2.1)∧(Eq ((List.getD a0.2.2.2.2.2.2.2.2.1 (tN (wI ((wI (a1 - a0.2.2.2.2.2.2.1)) - (1:Int)))) (0,[])).1,((),())) ((X2C a0 a1),((),()))))))
theorem X0G.pure(a0:U1q)(a1:Int)(h:(X5n a0 a1))(hw:Wf X2Z.A (a0,a1)):X0G.F a0 a1:=by
 delta X0G.F ln tN wI
 simp only[Bs,B0,B1,Prod.mk.injEq,X04,Prod.eta]
 obtain⟨p1,p2,p3,p4,p5⟩:=h
 rw[w64 (x:=a1 - a0.2.2.2.2.2.2.1) (by omega) (by omega),w64 (x:=a1 - a0.2.2.2.2.2.2.1 - 1) (by omega) (by omega)]
 unfold X2C
 refine⟨fun h1=>(if_pos h1).symm,fun h1=>⟨by omega,by omega,(if_neg h1).symm⟩⟩
theorem X0G.eq:EqS X2Z Try.f70 [3] [] [] noL (fun i x=>X0G.F x.1 x.2):=by intro i x;kernel_rfl
theorem X0G.ok:X0D Try.prog 70 X2Z:=X2U X0G.eq Try.func70 rfl (by kernel_rfl) fun i x h hi hw=>X0G.pure x.1 x.2 h hw
def X0G.e:GE:=⟨70,X2Z,⟨_,Try.func70,rfl,rfl⟩,X0G.ok⟩
end Go.Proofs.Ytegmokdppbagiaa.B
