/- Cores:copied,made,cut. -/
import Derived.Test.YtakllifahpfmpaaCCoreB
set_option maxRecDepth 100000
set_option linter.unusedVariables false
set_option linter.unusedSimpArgs false
namespace Go.Proofs.Ytakllifahpfmpaa.B
open Go Go.Proofs.Ytakllifahpfmpaa.Bv
def X78(c:X14):X14:=c
def X2i(c:X14)(n:Int):Int:=if n=c.2.2.2.2.2.2.1 then c.2.2.2.2.2.2.2.1 else(c.2.2.2.2.2.2.2.2.1.getD (n - c.2.2.2.2.2.2.1 - 1).toNat (0,[])).1
def X3z(c:X14)(n:Int):Prop:=-1000000≤c.2.2.2.2.2.2.1∧c.2.2.2.2.2.2.1≤1000000∧c.2.2.2.2.2.2.1≤n∧n≤c.2.2.2.2.2.2.1+c.2.2.2.2.2.2.2.2.1.length∧c.2.2.2.2.2.2.2.2.1.length≤1000000
def Xic:X14:=(0,(0,(0,(0,(0,(0,(0,(0,([],(0,([],([],[]))))))))))))
theorem X5N{c:X14}(h:X08 c=true):0≤c.2.2.2.2.2.2.1∧c.2.2.2.2.2.2.1≤100000∧c.2.2.2.2.2.2.2.2.1.length≤60∧c.2.2.2.2.2.2.1≤c.2.2.2.2.2.2.2.2.2.1∧c.2.2.2.2.2.2.2.2.2.1≤c.2.2.2.2.2.2.1+c.2.2.2.2.2.2.2.2.1.length∧1≤c.2.1∧c.2.1≤5:=by
 simp only[X08,X3S,Bool.and_eq_true,X2W,X2k,X6o,decide_eq_true_eq]at h
 obtain⟨⟨h1,h2,⟨h3,h4,h5,h6,h7,h8⟩,h9,h10⟩,h11⟩:=h
 have h12:=X9m h5
 have h13:=of_decide_eq_true h7
 unfold X05 at h10
 rw[w64 (by omega) (by omega)]at h10
 omega
def X3N:Con:={A:=T0q,shA:=[.agg 13],R:=T0q,shR:=[(true,13)],fresh:=[(8,73),(10,3),(11,3),(12,3)],pre:=fun _ a=>(X2P a),f:=some fun _ a=>((X78 a),((),()))}
def X16.F(a0:U1q):Prop:=((Xcs a0.2.2.2.2.2.2.2.2.1)∧∀r1,(Eq r1 ((fId a0.2.2.2.2.2.2.2.2.1),((),())))→((Xcs a0.2.2.2.2.2.2.2.2.2.2.1)∧∀r2,(Eq r2 ((fId a0.2.2.2.2.2.2.2.2.2.2.1),((),())))→((Xcs a0.2.2.2.2.2.2.2.2.2.2.2.1)∧∀r3,(Eq r3 ((fId a0.2.2.2.2.2.2.2.2.2.2.2.1),((),())))→((Xcs a0.2.2.2.2.2.2.2.2.2.2.2.2)∧∀r4,(Eq r4 ((fId a0.2.2.2.2.2.2.2.2.2.2.2.2),((),())))→(Eq ((a0.1,(a0.2.1,(a0.2.2.1,(a0.2.2.2.1,(a0.2.2.2.2.1,(a0.2.2.2.2.2.1,(a0.2.2.2.2.2.2.1,(a0.2.2.2.2.2.2.2.1,(r1.1,(a0.2.2.2.2.2.2.2.2.2.1,(r2.1,(r3.1,r4.1)))))))))))),((),())) ((X78 a0),((),())))))))
theorem X16.pure(a0:U1q)(h:(X2P a0))(hw:Wf X3N.A a0):X16.F a0:=by
 unfold X16.F
 have hpc:X2P a0:=h
 obtain⟨p0,p1,p2,p3⟩:=h
 simp only[Bs,B0,B1,Prod.mk.injEq,X04,X78,fId,Xcs,Prod.eta]
 repeat' (with_reducible (first | (refine And.intro ?_ ?_) | intro _))
 all_goals (try simp (disch:=omega) only[w64,wu8,tn0,tn1,tm1,tm2,List.length_append,List.length_cons,List.length_nil]at*)
 all_goals (try simp (disch:=omega) only[w64,wu8,tn0,tn1,tm1,tm2,List.length_append,List.length_cons,List.length_nil]at*)
 all_goals (try omega)
 all_goals (try grind[])
theorem X16.eq:EqS X3N Try.f24 [29] [X03.e,X0g.e] [] noL (fun i x=>X16.F x):=by intro i x;kernel_rfl
theorem X16.ok:X0z Try.prog 24 X3N:=X2I X16.eq Try.func24 rfl (by kernel_rfl) fun i x h hi hw=>X16.pure x h hw
def X16.e:GE:=⟨24,X3N,⟨_,Try.func24,rfl,rfl⟩,X16.ok⟩
def X4c:Con:={A:=T0q,shA:=[.agg 13],R:=T0q,shR:=[(true,13)],fresh:=[(8,73),(10,3),(11,3),(12,3)],pre:=fun _ a=>(X2P a),f:=some fun _ a=>((X78 a),((),()))}
def X1s.F(a0:U1q):Prop:=(List.length ([]:List U4q)+List.length a0.2.2.2.2.2.2.2.2.1≤9223372036854775807∧((List.length ([]:List U4q)+List.length a0.2.2.2.2.2.2.2.2.1)*24≤140737488355328∧(List.length ([]:List Int)+List.length a0.2.2.2.2.2.2.2.2.2.2.1≤9223372036854775807∧((List.length ([]:List Int)+List.length a0.2.2.2.2.2.2.2.2.2.2.1)*8≤140737488355328∧(List.length ([]:List Int)+List.length a0.2.2.2.2.2.2.2.2.2.2.2.1≤9223372036854775807∧((List.length ([]:List Int)+List.length a0.2.2.2.2.2.2.2.2.2.2.2.1)*8≤140737488355328∧(List.length ([]:List Int)+List.length a0.2.2.2.2.2.2.2.2.2.2.2.2≤9223372036854775807∧((List.length ([]:List Int)+List.length a0.2.2.2.2.2.2.2.2.2.2.2.2)*8≤140737488355328∧(Eq ((a0.1,(a0.2.1,(a0.2.2.1,(a0.2.2.2.1,(a0.2.2.2.2.1,(a0.2.2.2.2.2.1,(a0.2.2.2.2.2.2.1,(a0.2.2.2.2.2.2.2.1,((([]:List U4q)++a0.2.2.2.2.2.2.2.2.1),(a0.2.2.2.2.2.2.2.2.2.1,((([]:List Int)++a0.2.2.2.2.2.2.2.2.2.2.1),((([]:List Int)++a0.2.2.2.2.2.2.2.2.2.2.2.1),(([]:List Int)++a0.2.2.2.2.2.2.2.2.2.2.2.2))))))))))))),((),())) ((X78 a0),((),())))))))))))
theorem X1s.pure(a0:U1q)(h:(X2P a0))(hw:Wf X4c.A a0):X1s.F a0:=by
 unfold X1s.F
 have hpc:X2P a0:=h
 obtain⟨p0,p1,p2,p3⟩:=h
 simp only[Bs,B0,B1,Prod.mk.injEq,X04,X78,fId,Xcs,Prod.eta]
 repeat' (with_reducible (first | (refine And.intro ?_ ?_) | intro _))
 all_goals (try simp (disch:=omega) only[w64,wu8,tn0,tn1,tm1,tm2,List.length_append,List.length_cons,List.length_nil]at*)
 all_goals (try simp (disch:=omega) only[w64,wu8,tn0,tn1,tm1,tm2,List.length_append,List.length_cons,List.length_nil]at*)
 all_goals (try omega)
 all_goals (try grind[])
theorem X1s.eq:EqS X4c Try.f17 [29] [] [] noL (fun i x=>X1s.F x):=by intro i x;kernel_rfl
theorem X1s.ok:X0z Try.prog 17 X4c:=X2I X1s.eq Try.func17 rfl (by kernel_rfl) fun i x h hi hw=>X1s.pure x h hw
def X1s.e:GE:=⟨17,X4c,⟨_,Try.func17,rfl,rfl⟩,X1s.ok⟩
def X35:Con:={A:=(.pair T0q (.int .i64)),shA:=[.ptr 13,.one],R:=(.int .i64),shR:=[(false,1)],pre:=fun _ a=>(X3z a.1 a.2),f:=some fun _ a=>((X2i a.1 a.2),((),()))}
def X0B.F(a0:U1q)(a1:Int):Prop:=(X02 (a1==a0.2.2.2.2.2.2.1) (Eq (a0.2.2.2.2.2.2.2.1,((),())) ((X2i a0 a1),((),()))) (0≤(wI ((wI (a1 - a0.2.2.2.2.2.2.1)) - (1:Int)))∧((wI ((wI (a1 - a0.2.2.2.2.2.2.1)) - (1:Int)))<(ln a0.2.2.2.2.2.2.2.2.1)∧(Eq ((List.getD a0.2.2.2.2.2.2.2.2.1 (tN (wI ((wI (a1 - a0.2.2.2.2.2.2.1)) - (1:Int)))) (0,[])).1,((),())) ((X2i a0 a1),((),()))))))
theorem X0B.pure(a0:U1q)(a1:Int)(h:(X3z a0 a1))(hw:Wf X35.A (a0,a1)):X0B.F a0 a1:=by
 delta X0B.F ln tN wI
 simp only[Bs,B0,B1,Prod.mk.injEq,X04,Prod.eta]
 obtain⟨p1,p2,p3,p4,p5⟩:=h
 rw[w64 (x:=a1 - a0.2.2.2.2.2.2.1) (by omega) (by omega),w64 (x:=a1 - a0.2.2.2.2.2.2.1 - 1) (by omega) (by omega)]
 unfold X2i
 refine⟨fun h1=>(if_pos h1).symm,fun h1=>⟨by omega,by omega,(if_neg h1).symm⟩⟩
theorem X0B.eq:EqS X35 Try.f31 [3] [] [] noL (fun i x=>X0B.F x.1 x.2):=by intro i x;kernel_rfl
theorem X0B.ok:X0z Try.prog 31 X35:=X2I X0B.eq Try.func31 rfl (by kernel_rfl) fun i x h hi hw=>X0B.pure x.1 x.2 h hw
def X0B.e:GE:=⟨31,X35,⟨_,Try.func31,rfl,rfl⟩,X0B.ok⟩
def X34:Con:={A:=(.pair T0q (.int .i64)),shA:=[.agg 13,.one],R:=(.int .i64),shR:=[(false,1)],pre:=fun _ a=>(X3z a.1 a.2),f:=some fun _ a=>((X2i a.1 a.2),((),()))}
def X0C.F(a0:U1q)(a1:Int):Prop:=(X02 (a1==a0.2.2.2.2.2.2.1) (Eq (a0.2.2.2.2.2.2.2.1,((),())) ((X2i a0 a1),((),()))) (0≤(wI ((wI (a1 - a0.2.2.2.2.2.2.1)) - (1:Int)))∧((wI ((wI (a1 - a0.2.2.2.2.2.2.1)) - (1:Int)))<(ln a0.2.2.2.2.2.2.2.2.1)∧(Eq ((List.getD a0.2.2.2.2.2.2.2.2.1 (tN (wI ((wI (a1 - a0.2.2.2.2.2.2.1)) - (1:Int)))) (0,[])).1,((),())) ((X2i a0 a1),((),()))))))
theorem X0C.pure(a0:U1q)(a1:Int)(h:(X3z a0 a1))(hw:Wf X34.A (a0,a1)):X0C.F a0 a1:=by
 delta X0C.F ln tN wI
 simp only[Bs,B0,B1,Prod.mk.injEq,X04,Prod.eta]
 obtain⟨p1,p2,p3,p4,p5⟩:=h
 rw[w64 (x:=a1 - a0.2.2.2.2.2.2.1) (by omega) (by omega),w64 (x:=a1 - a0.2.2.2.2.2.2.1 - 1) (by omega) (by omega)]
 unfold X2i
 refine⟨fun h1=>(if_pos h1).symm,fun h1=>⟨by omega,by omega,(if_neg h1).symm⟩⟩
theorem X0C.eq:EqS X34 Try.f20 [3] [] [] noL (fun i x=>X0C.F x.1 x.2):=by intro i x;kernel_rfl
theorem X0C.ok:X0z Try.prog 20 X34:=X2I X0C.eq Try.func20 rfl (by kernel_rfl) fun i x h hi hw=>X0C.pure x.1 x.2 h hw
def X0C.e:GE:=⟨20,X34,⟨_,Try.func20,rfl,rfl⟩,X0C.ok⟩
end Go.Proofs.Ytakllifahpfmpaa.B
