/- Cores:right or not;copies. -/
import Derived.Test.YtakllifahpfmpaaCCore
set_option maxRecDepth 100000
set_option linter.unusedVariables false
set_option linter.unusedSimpArgs false
namespace Go.Proofs.Ytakllifahpfmpaa.B
open Go Go.Proofs.Ytakllifahpfmpaa.Bv
def Xcs{α:Type}(l:List α):Prop:=l.length≤1099511627776
def fId{α:Type}(l:List α):List α:=l
def X0v:Con:={A:=(.list T5q),shA:=[.one],R:=(.list T5q),shR:=[(false,1)],fresh:=[(0,73)],pre:=fun _ a=>(Xcs a),f:=some fun _ a=>((fId a),((),()))}
def X03.F(a0:(List U4q)):Prop:=(∀(b1:Bool),(b1=true→a0=[])→(X02 b1 (Eq (([]:(List U4q)),((),())) ((fId a0),((),()))) (List.length ([]:List U4q)+List.length a0≤9223372036854775807∧((List.length ([]:List U4q)+List.length a0)*24≤140737488355328∧(Eq ((([]:List U4q)++a0),((),())) ((fId a0),((),())))))))
theorem X03.pure(a0:(List U4q))(h:(Xcs a0))(hw:Wf X0v.A a0):X03.F a0:=by
 unfold X03.F
 have hp:a0.length≤1099511627776:=h
 simp only[Bs,B0,B1,Prod.mk.injEq,X04,fId,Xcs]
 repeat' (with_reducible (first | (refine And.intro ?_ ?_) | intro _))
 all_goals (try simp (disch:=omega) only[w64,wu8,tn0,tn1,tm1,tm2,List.length_append,List.length_cons,List.length_nil]at*)
 all_goals (try simp (disch:=omega) only[w64,wu8,tn0,tn1,tm1,tm2,List.length_append,List.length_cons,List.length_nil]at*)
 all_goals (try omega)
 all_goals (try grind[])
 all_goals (try simp_all)
theorem X03.eq:EqS X0v Try.f54 [27] [] [] noL (fun i x=>X03.F x):=by intro i x;kernel_rfl
theorem X03.ok:X0z Try.prog 54 X0v:=X2I X03.eq Try.func54 rfl (by kernel_rfl) fun i x h hi hw=>X03.pure x h hw
def X03.e:GE:=⟨54,X0v,⟨_,Try.func54,rfl,rfl⟩,X03.ok⟩
def X1Y:Con:={A:=T8q,shA:=[.one],R:=T8q,shR:=[(false,1)],fresh:=[(0,3)],pre:=fun _ a=>(Xcs a),f:=some fun _ a=>((fId a),((),()))}
def X0g.F(a0:(List Int)):Prop:=(∀(b1:Bool),(b1=true→a0=[])→(X02 b1 (Eq (([]:(List Int)),((),())) ((fId a0),((),()))) (List.length ([]:List Int)+List.length a0≤9223372036854775807∧((List.length ([]:List Int)+List.length a0)*8≤140737488355328∧(Eq ((([]:List Int)++a0),((),())) ((fId a0),((),())))))))
theorem X0g.pure(a0:(List Int))(h:(Xcs a0))(hw:Wf X1Y.A a0):X0g.F a0:=by
 unfold X0g.F
 have hp:a0.length≤1099511627776:=h
 simp only[Bs,B0,B1,Prod.mk.injEq,X04,fId,Xcs]
 repeat' (with_reducible (first | (refine And.intro ?_ ?_) | intro _))
 all_goals (try simp (disch:=omega) only[w64,wu8,tn0,tn1,tm1,tm2,List.length_append,List.length_cons,List.length_nil]at*)
 all_goals (try simp (disch:=omega) only[w64,wu8,tn0,tn1,tm1,tm2,List.length_append,List.length_cons,List.length_nil]at*)
 all_goals (try omega)
 all_goals (try grind[])
 all_goals (try simp_all)
theorem X0g.eq:EqS X1Y Try.f55 [23] [] [] noL (fun i x=>X0g.F x):=by intro i x;kernel_rfl
theorem X0g.ok:X0z Try.prog 55 X1Y:=X2I X0g.eq Try.func55 rfl (by kernel_rfl) fun i x h hi hw=>X0g.pure x h hw
def X0g.e:GE:=⟨55,X1Y,⟨_,Try.func55,rfl,rfl⟩,X0g.ok⟩
def X70:Con:={A:=T0q,shA:=[.agg 13],R:=Xid,shR:=[(true,5)],fresh:=[(4,73)],pre:=fun _ a=>(X2P a),f:=some fun _ a=>((X6o a),((),()))}
def X3y.F(a0:U1q):Prop:=((Xcs a0.2.2.2.2.2.2.2.2.1)∧∀r1,(Eq r1 ((fId a0.2.2.2.2.2.2.2.2.1),((),())))→(Eq ((a0.2.2.1,(a0.2.2.2.1,(a0.2.2.2.2.2.2.1,(a0.2.2.2.2.2.2.2.1,r1.1)))),((),())) ((X6o a0),((),()))))
theorem X3y.pure(a0:U1q)(h:(X2P a0))(hw:Wf X70.A a0):X3y.F a0:=by
 unfold X3y.F
 obtain⟨p0,p1,p2,p3⟩:=h
 simp only[Bs,B0,B1,Prod.mk.injEq,X04,X6o,fId,X2P,Xcs]
 repeat' (with_reducible (first | (refine And.intro ?_ ?_) | intro _))
 all_goals (try simp (disch:=omega) only[w64,wu8,tn0,tn1,tm1,tm2,List.length_append,List.length_cons,List.length_nil]at*)
 all_goals (try simp (disch:=omega) only[w64,wu8,tn0,tn1,tm1,tm2,List.length_append,List.length_cons,List.length_nil]at*)
 all_goals (try omega)
 all_goals (try grind[])
theorem X3y.eq:EqS X70 Try.f51 [68] [X03.e] [] noL (fun i x=>X3y.F x):=by intro i x;kernel_rfl
theorem X3y.ok:X0z Try.prog 51 X70:=X2I X3y.eq Try.func51 rfl (by kernel_rfl) fun i x h hi hw=>X3y.pure x h hw
def X3y.e:GE:=⟨51,X70,⟨_,Try.func51,rfl,rfl⟩,X3y.ok⟩
def X4I:Con:={A:=T0q,shA:=[.agg 13],R:=Xid,shR:=[(true,5)],fresh:=[(4,73)],pre:=fun _ a=>(X2P a),f:=some fun _ a=>((X6o a),((),()))}
def X1T.F(a0:U1q):Prop:=(List.length ([]:List U4q)+List.length a0.2.2.2.2.2.2.2.2.1≤9223372036854775807∧((List.length ([]:List U4q)+List.length a0.2.2.2.2.2.2.2.2.1)*24≤140737488355328∧(Eq ((a0.2.2.1,(a0.2.2.2.1,(a0.2.2.2.2.2.2.1,(a0.2.2.2.2.2.2.2.1,(([]:List U4q)++a0.2.2.2.2.2.2.2.2.1))))),((),())) ((X6o a0),((),())))))
theorem X1T.pure(a0:U1q)(h:(X2P a0))(hw:Wf X4I.A a0):X1T.F a0:=by
 unfold X1T.F
 obtain⟨p0,p1,p2,p3⟩:=h
 simp only[Bs,B0,B1,Prod.mk.injEq,X04,X6o]
 repeat' (with_reducible (first | (refine And.intro ?_ ?_) | intro _))
 all_goals (try simp (disch:=omega) only[w64,wu8,tn0,tn1,tm1,tm2,List.length_append,List.length_cons,List.length_nil]at*)
 all_goals (try simp (disch:=omega) only[w64,wu8,tn0,tn1,tm1,tm2,List.length_append,List.length_cons,List.length_nil]at*)
 all_goals (try omega)
 all_goals (try grind[])
theorem X1T.eq:EqS X4I Try.f43 [68] [] [] noL (fun i x=>X1T.F x):=by intro i x;kernel_rfl
theorem X1T.ok:X0z Try.prog 43 X4I:=X2I X1T.eq Try.func43 rfl (by kernel_rfl) fun i x h hi hw=>X1T.pure x h hw
def X1T.e:GE:=⟨43,X4I,⟨_,Try.func43,rfl,rfl⟩,X1T.ok⟩
theorem XdT{c:X14}(h:c.2.2.2.2.2.2.2.2.2.2.1.length≤1099511627776):X8Q c=true↔(∀j,j<c.2.2.2.2.2.2.2.2.2.2.1.length→Xib c j=true)∧Xdy c.2.2.2.2.2.2.2.2.2.2.1 c.1=true∧2*(c.2.2.2.2.2.2.2.2.2.2.1.length:Int)≤c.2.1:=by
 unfold X8Q
 rw[w64 (x:=2*(c.2.2.2.2.2.2.2.2.2.2.1.length:Int)) (by omega) (by omega)]
 simp only[Bool.and_eq_true,List.all_eq_true,List.mem_range,Bool.not_eq_true',decide_eq_false_iff_not,gt_iff_lt,Int.not_lt]
theorem XdL{c:X14}:X7d c=true↔(c.2.2.2.2.2.2.2.2.2.2.2.1.length:Int)=c.2.1∧(c.2.2.2.2.2.2.2.2.2.2.2.2.length:Int)=c.2.1∧(∀j,j<c.2.2.2.2.2.2.2.2.2.2.2.1.length→XhS c j=true)∧c.2.2.2.2.2.2.2.2.2.2.2.2.getD c.1.toNat 0=X05 c:=by
 unfold X7d
 simp only[Bool.and_eq_true,List.all_eq_true,List.mem_range,decide_eq_true_eq]
def XcX(c:X14):Bool:=if c.2.2.2.2.1=1 then fIn c.2.2.2.2.2.1 (-1) (c.2.1 - 1)&&(decide (c.2.2.2.2.2.1≠c.1)&&(decide (c.2.2.2.2.2.2.2.2.2.2.1=[])&&(decide (c.2.2.2.2.2.2.2.2.2.2.2.1=[])&&decide (c.2.2.2.2.2.2.2.2.2.2.2.2=[]))))
 else if c.2.2.2.2.1=2 then decide (1≤c.2.2.1)&&(decide (c.2.2.2.1=c.1)&&(decide (c.2.2.2.2.2.1= -1)&&(X8Q c&&(decide (c.2.2.2.2.2.2.2.2.2.2.2.1=[])&&decide (c.2.2.2.2.2.2.2.2.2.2.2.2=[])))))
 else if c.2.2.2.2.1=3 then decide (1≤c.2.2.1)&&(decide (c.2.2.2.1=c.1)&&(decide (c.2.2.2.2.2.1=c.1)&&(decide (c.2.2.2.2.2.2.2.2.2.2.1=[])&&X7d c)))
 else false
def X3S(c:X14):Bool:=fIn c.2.1 1 5&&(X3j c c.1&&(X2k (X6o c)&&(decide (c.2.2.2.1<c.2.1)&&fIn c.2.2.2.2.2.2.2.2.2.1 c.2.2.2.2.2.2.1 (X05 c))))
def X08(c:X14):Bool:=X3S c&&XcX c
def X4L:Con:={A:=T0q,shA:=[.agg 13],R:=.bool,shR:=[(false,1)],pre:=fun _ a=>(X2P a),f:=some fun _ a=>((X08 a),((),()))}
def X1X.F(a0:U1q):Prop:=(True∧∀r1,(Eq r1 ((fIn a0.2.1 1 5),((),())))→(X02 (!r1.1) (Eq (false,((),())) ((X08 a0),((),()))) (True∧∀r2,(Eq r2 ((X3j (a0.1,(a0.2.1,(a0.2.2.1,(a0.2.2.2.1,(a0.2.2.2.2.1,(a0.2.2.2.2.2.1,(a0.2.2.2.2.2.2.1,(a0.2.2.2.2.2.2.2.1,(a0.2.2.2.2.2.2.2.2.1,(a0.2.2.2.2.2.2.2.2.2.1,(a0.2.2.2.2.2.2.2.2.2.2.1,(a0.2.2.2.2.2.2.2.2.2.2.2.1,a0.2.2.2.2.2.2.2.2.2.2.2.2)))))))))))) a0.1),((),())))→(X02 (!r2.1) (Eq (false,((),())) ((X08 a0),((),()))) ((X2P (a0.1,(a0.2.1,(a0.2.2.1,(a0.2.2.2.1,(a0.2.2.2.2.1,(a0.2.2.2.2.2.1,(a0.2.2.2.2.2.2.1,(a0.2.2.2.2.2.2.2.1,(a0.2.2.2.2.2.2.2.2.1,(a0.2.2.2.2.2.2.2.2.2.1,(a0.2.2.2.2.2.2.2.2.2.2.1,(a0.2.2.2.2.2.2.2.2.2.2.2.1,a0.2.2.2.2.2.2.2.2.2.2.2.2)))))))))))))∧∀r3,(Eq r3 ((X6o (a0.1,(a0.2.1,(a0.2.2.1,(a0.2.2.2.1,(a0.2.2.2.2.1,(a0.2.2.2.2.2.1,(a0.2.2.2.2.2.2.1,(a0.2.2.2.2.2.2.2.1,(a0.2.2.2.2.2.2.2.2.1,(a0.2.2.2.2.2.2.2.2.2.1,(a0.2.2.2.2.2.2.2.2.2.2.1,(a0.2.2.2.2.2.2.2.2.2.2.2.1,a0.2.2.2.2.2.2.2.2.2.2.2.2))))))))))))),((),())))→(True∧∀r4,(Eq r4 ((X2k (r3.1.1,(r3.1.2.1,(r3.1.2.2.1,(r3.1.2.2.2.1,r3.1.2.2.2.2))))),((),())))→(X02 (!r4.1) (Eq (false,((),())) ((X08 a0),((),()))) (X02 (decide (a0.2.2.2.1≥a0.2.1)) (Eq (false,((),())) ((X08 a0),((),()))) (True∧∀r5,(Eq r5 ((X05 (a0.1,(a0.2.1,(a0.2.2.1,(a0.2.2.2.1,(a0.2.2.2.2.1,(a0.2.2.2.2.2.1,(a0.2.2.2.2.2.2.1,(a0.2.2.2.2.2.2.2.1,(a0.2.2.2.2.2.2.2.2.1,(a0.2.2.2.2.2.2.2.2.2.1,(a0.2.2.2.2.2.2.2.2.2.2.1,(a0.2.2.2.2.2.2.2.2.2.2.2.1,a0.2.2.2.2.2.2.2.2.2.2.2.2))))))))))))),((),())))→(True∧∀r6,(Eq r6 ((fIn a0.2.2.2.2.2.2.2.2.2.1 a0.2.2.2.2.2.2.1 r5.1),((),())))→(X02 (!r6.1) (Eq (false,((),())) ((X08 a0),((),()))) (X02 (a0.2.2.2.2.1==(1:Int)) (X02 (a0.2.2.2.2.2.1==((-1):Int)) (Eq (((wI ((wI ((ln a0.2.2.2.2.2.2.2.2.2.2.1)+(ln a0.2.2.2.2.2.2.2.2.2.2.2.1)))+(ln a0.2.2.2.2.2.2.2.2.2.2.2.2)))==(0:Int)),((),())) ((X08 a0),((),()))) (True∧∀r7,(Eq r7 ((X3j (a0.1,(a0.2.1,(a0.2.2.1,(a0.2.2.2.1,(a0.2.2.2.2.1,(a0.2.2.2.2.2.1,(a0.2.2.2.2.2.2.1,(a0.2.2.2.2.2.2.2.1,(a0.2.2.2.2.2.2.2.2.1,(a0.2.2.2.2.2.2.2.2.2.1,(a0.2.2.2.2.2.2.2.2.2.2.1,(a0.2.2.2.2.2.2.2.2.2.2.2.1,a0.2.2.2.2.2.2.2.2.2.2.2.2)))))))))))) a0.2.2.2.2.2.1),((),())))→(X02 r7.1 (X02 (a0.2.2.2.2.2.1 !=a0.1) (Eq (((wI ((wI ((ln a0.2.2.2.2.2.2.2.2.2.2.1)+(ln a0.2.2.2.2.2.2.2.2.2.2.2.1)))+(ln a0.2.2.2.2.2.2.2.2.2.2.2.2)))==(0:Int)),((),())) ((X08 a0),((),()))) (Eq (false,((),())) ((X08 a0),((),())))) (Eq (false,((),())) ((X08 a0),((),())))))) (X02 (a0.2.2.2.2.1==(2:Int)) (X02 (decide (a0.2.2.1≥(1:Int))) (X02 (a0.2.2.2.1==a0.1) (X02 (a0.2.2.2.2.2.1==((-1):Int)) ((X2P (a0.1,(a0.2.1,(a0.2.2.1,(a0.2.2.2.1,(a0.2.2.2.2.1,(a0.2.2.2.2.2.1,(a0.2.2.2.2.2.2.1,(a0.2.2.2.2.2.2.2.1,(a0.2.2.2.2.2.2.2.2.1,(a0.2.2.2.2.2.2.2.2.2.1,(a0.2.2.2.2.2.2.2.2.2.2.1,(a0.2.2.2.2.2.2.2.2.2.2.2.1,a0.2.2.2.2.2.2.2.2.2.2.2.2)))))))))))))∧∀r8,(Eq r8 ((X8Q (a0.1,(a0.2.1,(a0.2.2.1,(a0.2.2.2.1,(a0.2.2.2.2.1,(a0.2.2.2.2.2.1,(a0.2.2.2.2.2.2.1,(a0.2.2.2.2.2.2.2.1,(a0.2.2.2.2.2.2.2.2.1,(a0.2.2.2.2.2.2.2.2.2.1,(a0.2.2.2.2.2.2.2.2.2.2.1,(a0.2.2.2.2.2.2.2.2.2.2.2.1,a0.2.2.2.2.2.2.2.2.2.2.2.2))))))))))))),((),())))→(X02 r8.1 (Eq (((wI ((ln a0.2.2.2.2.2.2.2.2.2.2.2.1)+(ln a0.2.2.2.2.2.2.2.2.2.2.2.2)))==(0:Int)),((),())) ((X08 a0),((),()))) (Eq (false,((),())) ((X08 a0),((),()))))) (Eq (false,((),())) ((X08 a0),((),())))) (Eq (false,((),())) ((X08 a0),((),())))) (Eq (false,((),())) ((X08 a0),((),())))) (X02 (a0.2.2.2.2.1==(3:Int)) (X02 (decide (a0.2.2.1≥(1:Int))) (X02 (a0.2.2.2.1==a0.1) (X02 (a0.2.2.2.2.2.1==a0.1) (X02 ((ln a0.2.2.2.2.2.2.2.2.2.2.1)==(0:Int)) ((Xge (a0.1,(a0.2.1,(a0.2.2.1,(a0.2.2.2.1,(a0.2.2.2.2.1,(a0.2.2.2.2.2.1,(a0.2.2.2.2.2.2.1,(a0.2.2.2.2.2.2.2.1,(a0.2.2.2.2.2.2.2.2.1,(a0.2.2.2.2.2.2.2.2.2.1,(a0.2.2.2.2.2.2.2.2.2.2.1,(a0.2.2.2.2.2.2.2.2.2.2.2.1,a0.2.2.2.2.2.2.2.2.2.2.2.2)))))))))))))∧∀r9,(Eq r9 ((X7d (a0.1,(a0.2.1,(a0.2.2.1,(a0.2.2.2.1,(a0.2.2.2.2.1,(a0.2.2.2.2.2.1,(a0.2.2.2.2.2.2.1,(a0.2.2.2.2.2.2.2.1,(a0.2.2.2.2.2.2.2.2.1,(a0.2.2.2.2.2.2.2.2.2.1,(a0.2.2.2.2.2.2.2.2.2.2.1,(a0.2.2.2.2.2.2.2.2.2.2.2.1,a0.2.2.2.2.2.2.2.2.2.2.2.2))))))))))))),((),())))→(Eq (r9.1,((),())) ((X08 a0),((),())))) (Eq (false,((),())) ((X08 a0),((),())))) (Eq (false,((),())) ((X08 a0),((),())))) (Eq (false,((),())) ((X08 a0),((),())))) (Eq (false,((),())) ((X08 a0),((),())))) (Eq (false,((),())) ((X08 a0),((),())))))))))))))))))
theorem X1X.pure(a0:U1q)(h:(X2P a0))(hw:Wf X4L.A a0):X1X.F a0:=by
 delta X1X.F ln wI
 have hpc:X2P a0:=h
 obtain⟨p0,p1,p2,p3⟩:=h
 obtain⟨c0,c1,c2,c3,c4,c5,c6,c7,c8,c9,c10,c11,c12⟩:=a0
 simp only at p0 p1 p2 p3
 have hW:fIn c1 1 5=true→IntKind.wrap .i64 (c1 - 1)=c1 - 1:=fun h=>by
  have:=X2W.1 h
  exact w64 (by omega) (by omega)
 have e10:c10=[]↔c10.length=0:=List.length_eq_zero_iff.symm
 have e11:c11=[]↔c11.length=0:=List.length_eq_zero_iff.symm
 have e12:c12=[]↔c12.length=0:=List.length_eq_zero_iff.symm
 have hz:((c10.length:Int)+(c11.length:Int)+(c12.length:Int)==0)=(decide (c10=[])&&(decide (c11=[])&&decide (c12=[]))):=by
  rw[Bool.eq_iff_iff];simp only[beq_iff_eq,Bool.and_eq_true,decide_eq_true_eq,e10,e11,e12];omega
 have hz2:((c11.length:Int)+(c12.length:Int)==0)=(decide (c11=[])&&decide (c12=[])):=by
  rw[Bool.eq_iff_iff];simp only[beq_iff_eq,Bool.and_eq_true,decide_eq_true_eq,e11,e12];omega
 have hz3:((c12.length:Int)==0)=decide (c12=[]):=by
  rw[Bool.eq_iff_iff];simp only[beq_iff_eq,decide_eq_true_eq,e12];omega
 have hW2:IntKind.wrap .i64 (2*(c10.length:Int))=2*(c10.length:Int):=w64 (by omega) (by omega)
 simp only[Bs,B0,B1,Prod.mk.injEq,X04,Xge,Prod.eta,X3j]
 repeat' (with_reducible (first | (refine And.intro ?_ ?_) | intro _))
 all_goals (try simp (disch:=omega) only[w64,wu8,tn0,tn1,tm1,tm2,List.length_append,List.length_cons,List.length_nil,hz,hz2,hz3]at*)
 all_goals (try simp (disch:=omega) only[w64,wu8,tn0,tn1,tm1,tm2,List.length_append,List.length_cons,List.length_nil,hz,hz2,hz3]at*)
 all_goals (try omega)
 all_goals (try grind[X08,X3S,XcX,X2W,X3j,X05])
theorem X1X.eq:EqS X4L Try.f23 [4] [X0x.e,X1v.e,X1B.e,X2c.e,X3y.e,X1j.e,X1m.e] [] noL (fun i x=>X1X.F x):=by intro i x;kernel_rfl
theorem X1X.ok:X0z Try.prog 23 X4L:=X2I X1X.eq Try.func23 rfl (by kernel_rfl) fun i x h hi hw=>X1X.pure x h hw
def X1X.e:GE:=⟨23,X4L,⟨_,Try.func23,rfl,rfl⟩,X1X.ok⟩
def X4z:Con:={A:=T0q,shA:=[.agg 13],R:=.bool,shR:=[(false,1)],pre:=fun _ a=>(X2P a),f:=some fun _ a=>((X08 a),((),()))}
def X1i.F(a0:U1q):Prop:=(True∧∀r1,(Eq r1 ((fIn a0.2.1 1 5),((),())))→(X02 (!r1.1) (Eq (false,((),())) ((X08 a0),((),()))) (True∧∀r2,(Eq r2 ((fIn a0.1 0 (wI (a0.2.1 - (1:Int)))),((),())))→(X02 (!r2.1) (Eq (false,((),())) ((X08 a0),((),()))) ((X2P (a0.1,(a0.2.1,(a0.2.2.1,(a0.2.2.2.1,(a0.2.2.2.2.1,(a0.2.2.2.2.2.1,(a0.2.2.2.2.2.2.1,(a0.2.2.2.2.2.2.2.1,(a0.2.2.2.2.2.2.2.2.1,(a0.2.2.2.2.2.2.2.2.2.1,(a0.2.2.2.2.2.2.2.2.2.2.1,(a0.2.2.2.2.2.2.2.2.2.2.2.1,a0.2.2.2.2.2.2.2.2.2.2.2.2)))))))))))))∧∀r3,(Eq r3 ((X6o (a0.1,(a0.2.1,(a0.2.2.1,(a0.2.2.2.1,(a0.2.2.2.2.1,(a0.2.2.2.2.2.1,(a0.2.2.2.2.2.2.1,(a0.2.2.2.2.2.2.2.1,(a0.2.2.2.2.2.2.2.2.1,(a0.2.2.2.2.2.2.2.2.2.1,(a0.2.2.2.2.2.2.2.2.2.2.1,(a0.2.2.2.2.2.2.2.2.2.2.2.1,a0.2.2.2.2.2.2.2.2.2.2.2.2))))))))))))),((),())))→(True∧∀r4,(Eq r4 ((X2k (r3.1.1,(r3.1.2.1,(r3.1.2.2.1,(r3.1.2.2.2.1,r3.1.2.2.2.2))))),((),())))→(X02 (!r4.1) (Eq (false,((),())) ((X08 a0),((),()))) (X02 (decide (a0.2.2.2.1≥a0.2.1)) (Eq (false,((),())) ((X08 a0),((),()))) (True∧∀r5,(Eq r5 ((X05 (a0.1,(a0.2.1,(a0.2.2.1,(a0.2.2.2.1,(a0.2.2.2.2.1,(a0.2.2.2.2.2.1,(a0.2.2.2.2.2.2.1,(a0.2.2.2.2.2.2.2.1,(a0.2.2.2.2.2.2.2.2.1,(a0.2.2.2.2.2.2.2.2.2.1,(a0.2.2.2.2.2.2.2.2.2.2.1,(a0.2.2.2.2.2.2.2.2.2.2.2.1,a0.2.2.2.2.2.2.2.2.2.2.2.2))))))))))))),((),())))→(True∧∀r6,(Eq r6 ((fIn a0.2.2.2.2.2.2.2.2.2.1 a0.2.2.2.2.2.2.1 r5.1),((),())))→(X02 (!r6.1) (Eq (false,((),())) ((X08 a0),((),()))) (X02 (a0.2.2.2.2.1==(1:Int)) (True∧∀r7,(Eq r7 ((fIn a0.2.2.2.2.2.1 (-1) (wI (a0.2.1 - (1:Int)))),((),())))→(X02 r7.1 (X02 (a0.2.2.2.2.2.1 !=a0.1) (X02 ((ln a0.2.2.2.2.2.2.2.2.2.2.1)==(0:Int)) (X02 ((ln a0.2.2.2.2.2.2.2.2.2.2.2.1)==(0:Int)) (Eq (((ln a0.2.2.2.2.2.2.2.2.2.2.2.2)==(0:Int)),((),())) ((X08 a0),((),()))) (Eq (false,((),())) ((X08 a0),((),())))) (Eq (false,((),())) ((X08 a0),((),())))) (Eq (false,((),())) ((X08 a0),((),())))) (Eq (false,((),())) ((X08 a0),((),()))))) (X02 (a0.2.2.2.2.1==(2:Int)) (eS [(1,.box 2 0)] [(1,.box 2 0)]∧((skI a0 0 a0.1 a0.2.1 a0.2.2.1 a0.2.2.2.1 a0.2.2.2.2.1 a0.2.2.2.2.2.1 a0.2.2.2.2.2.2.1 a0.2.2.2.2.2.2.2.1 a0.2.2.2.2.2.2.2.2.1 a0.2.2.2.2.2.2.2.2.2.1 a0.2.2.2.2.2.2.2.2.2.2.1 a0.2.2.2.2.2.2.2.2.2.2.2.1 a0.2.2.2.2.2.2.2.2.2.2.2.2)∧∀(y8:(Int×U1q)),(skI a0 y8.1 y8.2.1 y8.2.2.1 y8.2.2.2.1 y8.2.2.2.2.1 y8.2.2.2.2.2.1 y8.2.2.2.2.2.2.1 y8.2.2.2.2.2.2.2.1 y8.2.2.2.2.2.2.2.2.1 y8.2.2.2.2.2.2.2.2.2.1 y8.2.2.2.2.2.2.2.2.2.2.1 y8.2.2.2.2.2.2.2.2.2.2.2.1 y8.2.2.2.2.2.2.2.2.2.2.2.2.1 y8.2.2.2.2.2.2.2.2.2.2.2.2.2)→(X02 (decide (y8.1<(ln y8.2.2.2.2.2.2.2.2.2.2.2.1))) (0≤y8.1∧(y8.1<(ln y8.2.2.2.2.2.2.2.2.2.2.2.1)∧(True∧∀r9,(Eq r9 ((fIn (List.getD y8.2.2.2.2.2.2.2.2.2.2.2.1 (tN y8.1) 0) 0 (wI (y8.2.2.1 - (1:Int)))),((),())))→(X02 (!r9.1) (Eq (false,((),())) ((X08 a0),((),()))) (X02 (decide (y8.1>(0:Int))) (0≤(wI (y8.1 - (1:Int)))∧((wI (y8.1 - (1:Int)))<(ln y8.2.2.2.2.2.2.2.2.2.2.2.1)∧(0≤y8.1∧(y8.1<(ln y8.2.2.2.2.2.2.2.2.2.2.2.1)∧(X02 (decide ((List.getD y8.2.2.2.2.2.2.2.2.2.2.2.1 (tN (wI (y8.1 - (1:Int)))) 0)≥(List.getD y8.2.2.2.2.2.2.2.2.2.2.2.1 (tN y8.1) 0))) (Eq (false,((),())) ((X08 a0),((),()))) (eS [(1,.box 2 0)] [(1,.box 2 0)]∧(skI a0 (wI (y8.1+(1:Int))) y8.2.1 y8.2.2.1 y8.2.2.2.1 y8.2.2.2.2.1 y8.2.2.2.2.2.1 y8.2.2.2.2.2.2.1 y8.2.2.2.2.2.2.2.1 y8.2.2.2.2.2.2.2.2.1 y8.2.2.2.2.2.2.2.2.2.1 y8.2.2.2.2.2.2.2.2.2.2.1 y8.2.2.2.2.2.2.2.2.2.2.2.1 y8.2.2.2.2.2.2.2.2.2.2.2.2.1 y8.2.2.2.2.2.2.2.2.2.2.2.2.2)∧(skM a0 (wI (y8.1+(1:Int))) y8.2.1 y8.2.2.1 y8.2.2.2.1 y8.2.2.2.2.1 y8.2.2.2.2.2.1 y8.2.2.2.2.2.2.1 y8.2.2.2.2.2.2.2.1 y8.2.2.2.2.2.2.2.2.1 y8.2.2.2.2.2.2.2.2.2.1 y8.2.2.2.2.2.2.2.2.2.2.1 y8.2.2.2.2.2.2.2.2.2.2.2.1 y8.2.2.2.2.2.2.2.2.2.2.2.2.1 y8.2.2.2.2.2.2.2.2.2.2.2.2.2)<(skM a0 y8.1 y8.2.1 y8.2.2.1 y8.2.2.2.1 y8.2.2.2.2.1 y8.2.2.2.2.2.1 y8.2.2.2.2.2.2.1 y8.2.2.2.2.2.2.2.1 y8.2.2.2.2.2.2.2.2.1 y8.2.2.2.2.2.2.2.2.2.1 y8.2.2.2.2.2.2.2.2.2.2.1 y8.2.2.2.2.2.2.2.2.2.2.2.1 y8.2.2.2.2.2.2.2.2.2.2.2.2.1 y8.2.2.2.2.2.2.2.2.2.2.2.2.2))))))) (eS [(1,.box 2 0)] [(1,.box 2 0)]∧(skI a0 (wI (y8.1+(1:Int))) y8.2.1 y8.2.2.1 y8.2.2.2.1 y8.2.2.2.2.1 y8.2.2.2.2.2.1 y8.2.2.2.2.2.2.1 y8.2.2.2.2.2.2.2.1 y8.2.2.2.2.2.2.2.2.1 y8.2.2.2.2.2.2.2.2.2.1 y8.2.2.2.2.2.2.2.2.2.2.1 y8.2.2.2.2.2.2.2.2.2.2.2.1 y8.2.2.2.2.2.2.2.2.2.2.2.2.1 y8.2.2.2.2.2.2.2.2.2.2.2.2.2)∧(skM a0 (wI (y8.1+(1:Int))) y8.2.1 y8.2.2.1 y8.2.2.2.1 y8.2.2.2.2.1 y8.2.2.2.2.2.1 y8.2.2.2.2.2.2.1 y8.2.2.2.2.2.2.2.1 y8.2.2.2.2.2.2.2.2.1 y8.2.2.2.2.2.2.2.2.2.1 y8.2.2.2.2.2.2.2.2.2.2.1 y8.2.2.2.2.2.2.2.2.2.2.2.1 y8.2.2.2.2.2.2.2.2.2.2.2.2.1 y8.2.2.2.2.2.2.2.2.2.2.2.2.2)<(skM a0 y8.1 y8.2.1 y8.2.2.1 y8.2.2.2.1 y8.2.2.2.2.1 y8.2.2.2.2.2.1 y8.2.2.2.2.2.2.1 y8.2.2.2.2.2.2.2.1 y8.2.2.2.2.2.2.2.2.1 y8.2.2.2.2.2.2.2.2.2.1 y8.2.2.2.2.2.2.2.2.2.2.1 y8.2.2.2.2.2.2.2.2.2.2.2.1 y8.2.2.2.2.2.2.2.2.2.2.2.2.1 y8.2.2.2.2.2.2.2.2.2.2.2.2.2))))))) (X02 (decide (y8.2.2.2.1≥(1:Int))) (X02 (y8.2.2.2.2.1==y8.2.1) (X02 (y8.2.2.2.2.2.2.1==((-1):Int)) (True∧∀r10,(Eq r10 ((Xdy y8.2.2.2.2.2.2.2.2.2.2.2.1 y8.2.1),((),())))→(X02 r10.1 (X02 (decide ((wI ((2:Int)*(ln y8.2.2.2.2.2.2.2.2.2.2.2.1)))≤y8.2.2.1)) (X02 ((ln y8.2.2.2.2.2.2.2.2.2.2.2.2.1)==(0:Int)) (Eq (((ln y8.2.2.2.2.2.2.2.2.2.2.2.2.2)==(0:Int)),((),())) ((X08 a0),((),()))) (Eq (false,((),())) ((X08 a0),((),())))) (Eq (false,((),())) ((X08 a0),((),())))) (Eq (false,((),())) ((X08 a0),((),()))))) (Eq (false,((),())) ((X08 a0),((),())))) (Eq (false,((),())) ((X08 a0),((),())))) (Eq (false,((),())) ((X08 a0),((),()))))))) (X02 (a0.2.2.2.2.1==(3:Int)) (X02 (decide (a0.2.2.1<(1:Int))) (Eq (false,((),())) ((X08 a0),((),()))) (X02 (a0.2.2.2.1 !=a0.1) (Eq (false,((),())) ((X08 a0),((),()))) (X02 (a0.2.2.2.2.2.1 !=a0.1) (Eq (false,((),())) ((X08 a0),((),()))) (X02 (decide ((ln a0.2.2.2.2.2.2.2.2.2.2.1)>(0:Int))) (Eq (false,((),())) ((X08 a0),((),()))) (X02 ((ln a0.2.2.2.2.2.2.2.2.2.2.2.1)!=a0.2.1) (Eq (false,((),())) ((X08 a0),((),()))) (X02 ((ln a0.2.2.2.2.2.2.2.2.2.2.2.2)!=a0.2.1) (Eq (false,((),())) ((X08 a0),((),()))) (0≤a0.1∧(a0.1<(ln a0.2.2.2.2.2.2.2.2.2.2.2.2)∧(True∧∀r11,(Eq r11 ((X05 (a0.1,(a0.2.1,(a0.2.2.1,(a0.2.2.2.1,(a0.2.2.2.2.1,(a0.2.2.2.2.2.1,(a0.2.2.2.2.2.2.1,(a0.2.2.2.2.2.2.2.1,(a0.2.2.2.2.2.2.2.2.1,(a0.2.2.2.2.2.2.2.2.2.1,(a0.2.2.2.2.2.2.2.2.2.2.1,(a0.2.2.2.2.2.2.2.2.2.2.2.1,a0.2.2.2.2.2.2.2.2.2.2.2.2))))))))))))),((),())))→(X02 ((List.getD a0.2.2.2.2.2.2.2.2.2.2.2.2 (tN a0.1) 0)!=r11.1) (Eq (false,((),())) ((X08 a0),((),()))) (eS [(1,.box 2 0)] [(1,.box 2 0)]∧((ldI a0 0 a0.1 a0.2.1 a0.2.2.1 a0.2.2.2.1 a0.2.2.2.2.1 a0.2.2.2.2.2.1 a0.2.2.2.2.2.2.1 a0.2.2.2.2.2.2.2.1 a0.2.2.2.2.2.2.2.2.1 a0.2.2.2.2.2.2.2.2.2.1 a0.2.2.2.2.2.2.2.2.2.2.1 a0.2.2.2.2.2.2.2.2.2.2.2.1 a0.2.2.2.2.2.2.2.2.2.2.2.2)∧∀(y12:(Int×U1q)),(ldI a0 y12.1 y12.2.1 y12.2.2.1 y12.2.2.2.1 y12.2.2.2.2.1 y12.2.2.2.2.2.1 y12.2.2.2.2.2.2.1 y12.2.2.2.2.2.2.2.1 y12.2.2.2.2.2.2.2.2.1 y12.2.2.2.2.2.2.2.2.2.1 y12.2.2.2.2.2.2.2.2.2.2.1 y12.2.2.2.2.2.2.2.2.2.2.2.1 y12.2.2.2.2.2.2.2.2.2.2.2.2.1 y12.2.2.2.2.2.2.2.2.2.2.2.2.2)→(X02 (decide (y12.1<y12.2.2.1)) (0≤y12.1∧(y12.1<(ln y12.2.2.2.2.2.2.2.2.2.2.2.2.2)∧(X02 (decide ((List.getD y12.2.2.2.2.2.2.2.2.2.2.2.2.2 (tN y12.1) 0)<(0:Int))) (Eq (false,((),())) ((X08 a0),((),()))) (0≤y12.1∧(y12.1<(ln y12.2.2.2.2.2.2.2.2.2.2.2.2.1)∧(0≤y12.1∧(y12.1<(ln y12.2.2.2.2.2.2.2.2.2.2.2.2.2)∧(X02 (decide ((List.getD y12.2.2.2.2.2.2.2.2.2.2.2.2.1 (tN y12.1) 0)≤(List.getD y12.2.2.2.2.2.2.2.2.2.2.2.2.2 (tN y12.1) 0))) (Eq (false,((),())) ((X08 a0),((),()))) (0≤y12.1∧(y12.1<(ln y12.2.2.2.2.2.2.2.2.2.2.2.2.1)∧(True∧∀r13,(Eq r13 ((X05 (y12.2.1,(y12.2.2.1,(y12.2.2.2.1,(y12.2.2.2.2.1,(y12.2.2.2.2.2.1,(y12.2.2.2.2.2.2.1,(y12.2.2.2.2.2.2.2.1,(y12.2.2.2.2.2.2.2.2.1,(y12.2.2.2.2.2.2.2.2.2.1,(y12.2.2.2.2.2.2.2.2.2.2.1,(y12.2.2.2.2.2.2.2.2.2.2.2.1,(y12.2.2.2.2.2.2.2.2.2.2.2.2.1,y12.2.2.2.2.2.2.2.2.2.2.2.2.2))))))))))))),((),())))→(X02 (decide ((List.getD y12.2.2.2.2.2.2.2.2.2.2.2.2.1 (tN y12.1) 0)>(wI (r13.1+(1:Int))))) (Eq (false,((),())) ((X08 a0),((),()))) (eS [(1,.box 2 0)] [(1,.box 2 0)]∧(ldI a0 (wI (y12.1+(1:Int))) y12.2.1 y12.2.2.1 y12.2.2.2.1 y12.2.2.2.2.1 y12.2.2.2.2.2.1 y12.2.2.2.2.2.2.1 y12.2.2.2.2.2.2.2.1 y12.2.2.2.2.2.2.2.2.1 y12.2.2.2.2.2.2.2.2.2.1 y12.2.2.2.2.2.2.2.2.2.2.1 y12.2.2.2.2.2.2.2.2.2.2.2.1 y12.2.2.2.2.2.2.2.2.2.2.2.2.1 y12.2.2.2.2.2.2.2.2.2.2.2.2.2)∧(ldM a0 (wI (y12.1+(1:Int))) y12.2.1 y12.2.2.1 y12.2.2.2.1 y12.2.2.2.2.1 y12.2.2.2.2.2.1 y12.2.2.2.2.2.2.1 y12.2.2.2.2.2.2.2.1 y12.2.2.2.2.2.2.2.2.1 y12.2.2.2.2.2.2.2.2.2.1 y12.2.2.2.2.2.2.2.2.2.2.1 y12.2.2.2.2.2.2.2.2.2.2.2.1 y12.2.2.2.2.2.2.2.2.2.2.2.2.1 y12.2.2.2.2.2.2.2.2.2.2.2.2.2)<(ldM a0 y12.1 y12.2.1 y12.2.2.1 y12.2.2.2.1 y12.2.2.2.2.1 y12.2.2.2.2.2.1 y12.2.2.2.2.2.2.1 y12.2.2.2.2.2.2.2.1 y12.2.2.2.2.2.2.2.2.1 y12.2.2.2.2.2.2.2.2.2.1 y12.2.2.2.2.2.2.2.2.2.2.1 y12.2.2.2.2.2.2.2.2.2.2.2.1 y12.2.2.2.2.2.2.2.2.2.2.2.2.1 y12.2.2.2.2.2.2.2.2.2.2.2.2.2)))))))))))))) (Eq (true,((),())) ((X08 a0),((),())))))))))))))))) (Eq (false,((),())) ((X08 a0),((),())))))))))))))))))
def X1i.L(a0:U1q):Nat→Option X0w:=fun p=>Go.Proofs.Ytakllifahpfmpaa.Bv.look p [(7538,{kp:={hold:=[1],slots:=[3],boxes:=[2],rows:=[]},T:=(.pair (.int .i64) T0q),I:=fun st y=>skI a0 y.1 y.2.1 y.2.2.1 y.2.2.2.1 y.2.2.2.2.1 y.2.2.2.2.2.1 y.2.2.2.2.2.2.1 y.2.2.2.2.2.2.2.1 y.2.2.2.2.2.2.2.2.1 y.2.2.2.2.2.2.2.2.2.1 y.2.2.2.2.2.2.2.2.2.2.1 y.2.2.2.2.2.2.2.2.2.2.2.1 y.2.2.2.2.2.2.2.2.2.2.2.2.1 y.2.2.2.2.2.2.2.2.2.2.2.2.2,μ:=fun st y=>skM a0 y.1 y.2.1 y.2.2.1 y.2.2.2.1 y.2.2.2.2.1 y.2.2.2.2.2.1 y.2.2.2.2.2.2.1 y.2.2.2.2.2.2.2.1 y.2.2.2.2.2.2.2.2.1 y.2.2.2.2.2.2.2.2.2.1 y.2.2.2.2.2.2.2.2.2.2.1 y.2.2.2.2.2.2.2.2.2.2.2.1 y.2.2.2.2.2.2.2.2.2.2.2.2.1 y.2.2.2.2.2.2.2.2.2.2.2.2.2}),(60394,{kp:={hold:=[1],slots:=[4],boxes:=[2],rows:=[]},T:=(.pair (.int .i64) T0q),I:=fun st y=>ldI a0 y.1 y.2.1 y.2.2.1 y.2.2.2.1 y.2.2.2.2.1 y.2.2.2.2.2.1 y.2.2.2.2.2.2.1 y.2.2.2.2.2.2.2.1 y.2.2.2.2.2.2.2.2.1 y.2.2.2.2.2.2.2.2.2.1 y.2.2.2.2.2.2.2.2.2.2.1 y.2.2.2.2.2.2.2.2.2.2.2.1 y.2.2.2.2.2.2.2.2.2.2.2.2.1 y.2.2.2.2.2.2.2.2.2.2.2.2.2,μ:=fun st y=>ldM a0 y.1 y.2.1 y.2.2.1 y.2.2.2.1 y.2.2.2.2.1 y.2.2.2.2.2.1 y.2.2.2.2.2.2.1 y.2.2.2.2.2.2.2.1 y.2.2.2.2.2.2.2.2.1 y.2.2.2.2.2.2.2.2.2.1 y.2.2.2.2.2.2.2.2.2.2.1 y.2.2.2.2.2.2.2.2.2.2.2.1 y.2.2.2.2.2.2.2.2.2.2.2.2.1 y.2.2.2.2.2.2.2.2.2.2.2.2.2})]
theorem X1i.pure(a0:U1q)(h:(X2P a0))(hw:Wf X4z.A a0):X1i.F a0:=by
 delta X1i.F ln tN wI eS
 have hpc:X2P a0:=h
 obtain⟨p0,p1,p2,p3⟩:=h
 obtain⟨c0,c1,c2,c3,c4,c5,c6,c7,c8,c9,c10,c11,c12⟩:=a0
 simp only at p0 p1 p2 p3
 have hW:fIn c1 1 5=true→IntKind.wrap .i64 (c1 - 1)=c1 - 1:=fun h=>by
  have:=X2W.1 h
  exact w64 (by omega) (by omega)
 have e10:c10=[]↔c10.length=0:=List.length_eq_zero_iff.symm
 have e11:c11=[]↔c11.length=0:=List.length_eq_zero_iff.symm
 have e12:c12=[]↔c12.length=0:=List.length_eq_zero_iff.symm
 have hz:((c10.length:Int)+(c11.length:Int)+(c12.length:Int)==0)=(decide (c10=[])&&(decide (c11=[])&&decide (c12=[]))):=by
  rw[Bool.eq_iff_iff];simp only[beq_iff_eq,Bool.and_eq_true,decide_eq_true_eq,e10,e11,e12];omega
 have hz2:((c11.length:Int)+(c12.length:Int)==0)=(decide (c11=[])&&decide (c12=[])):=by
  rw[Bool.eq_iff_iff];simp only[beq_iff_eq,Bool.and_eq_true,decide_eq_true_eq,e11,e12];omega
 have hz3:((c12.length:Int)==0)=decide (c12=[]):=by
  rw[Bool.eq_iff_iff];simp only[beq_iff_eq,decide_eq_true_eq,e12];omega
 have hW2:IntKind.wrap .i64 (2*(c10.length:Int))=2*(c10.length:Int):=w64 (by omega) (by omega)
 simp only[Bs,B0,B1,Prod.mk.injEq,X04,skI,skM,ldI,ldM,Prod.eta,Prod.forall,and_imp]
 repeat' (with_reducible (first | (refine And.intro ?_ ?_) | (intro hsub;subst hsub) | intro _))
 all_goals (try simp (disch:=omega) only[w64,wu8,tn0,tn1,tm1,tm2,List.length_append,List.length_cons,List.length_nil,hz,hz2,hz3]at*)
 all_goals (try simp (disch:=omega) only[w64,wu8,tn0,tn1,tm1,tm2,List.length_append,List.length_cons,List.length_nil,hz,hz2,hz3]at*)
 all_goals (try omega)
 all_goals (try grind[X08,X3S,XcX,X2W,X3j,X05,X8Q,X7d,Xib,XhS,XhA,Xhj])
 · rename_i g1 g2 g3 i g4 g5 g6 g7 g8 g9 g10 all has g11 g12
   have hs:=(XdT (c:=(c3,c1,c2,c3,2,-1,c6,c7,c8,c9,c10,c11,c12)) p1).2 ⟨fun j hj=>all j (by simp only at hj;omega),has,g12⟩
   grind[X08,X3S,XcX,X2W,X3j]
 · rename_i g1 g2 g3 i g4 g5 g6 g7 g8 g9 g10 all has g12
   have hs:X8Q (c3,c1,c2,c3,2,-1,c6,c7,c8,c9,c10,c11,c12)=false:=Bool.eq_false_iff.2 fun h=>g12 ((XdT p1).1 h).2.2
   grind[X08,X3S,XcX,X2W,X3j]
 · rename_i g1 g2 g3 g4 g5 g6 g7 g8 g9 g10 i g11 g12 all g13 g14 g15
   have hs:X7d (c5,(c11.length:Int),c2,c5,3,c5,c6,c7,c8,c9,c10,c11,c12)=false:=Bool.eq_false_iff.2 fun h=>by
    have:=(XdL.1 h).2.2.1 i.toNat (by simp only;omega)
    simp only[XhS,Bool.and_eq_true,decide_eq_true_eq]at this;omega
   grind[X08,X3S,XcX]
 · rename_i g1 g2 g3 g4 g5 g6 g7 g8 g9 g10 i g11 g12 all g13 g15
   have hs:X7d (c5,(c11.length:Int),c2,c5,3,c5,c6,c7,c8,c9,c10,c11,c12)=true:=XdL.2 ⟨rfl,g9,fun j hj=>all j (by simp only at hj;omega),g10⟩
   have hw2:IntKind.wrap .i64 ((c11.length:Int) - 1)=(c11.length:Int) - 1:=w64 (by omega) (by omega)
   grind[X08,X3S,XcX,X2W,X3j]
theorem X1i.eq:EqS X4z Try.f16 [4] [X0E.e,X2m.e,X1I.e,X1T.e,X1K.e] [] (fun i x=>X1i.L x) (fun i x=>X1i.F x):=by intro i x;kernel_rfl
theorem X1i.ok:X0z Try.prog 16 X4z:=X2I X1i.eq Try.func16 rfl (by kernel_rfl) fun i x h hi hw=>X1i.pure x h hw
def X1i.e:GE:=⟨16,X4z,⟨_,Try.func16,rfl,rfl⟩,X1i.ok⟩
end Go.Proofs.Ytakllifahpfmpaa.B
