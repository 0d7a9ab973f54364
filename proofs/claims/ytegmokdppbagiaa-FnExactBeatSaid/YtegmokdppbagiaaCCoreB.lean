/- Cores:right or not;copies. -/
import Derived.Test.YtegmokdppbagiaaCCore
set_option maxRecDepth 100000
set_option linter.unusedVariables false
set_option linter.unusedSimpArgs false
namespace Go.Proofs.Ytegmokdppbagiaa.B
open Go Go.Proofs.Ytegmokdppbagiaa.Bv
def XbD{α:Type}(l:List α):Prop:=l.length≤1099511627776
def fId{α:Type}(l:List α):List α:=l
def X0s:Con:={A:=(.list T5q),shA:=[.one],R:=(.list T5q),shR:=[(false,1)],fresh:=[(0,101)],pre:=fun _ a=>(XbD a),f:=some fun _ a=>((fId a),((),()))}
def X02.F(a0:(List U4q)):Prop:=(∀(b1:Bool),(b1=true→a0=[])→(X03 b1 (Eq (([]:(List U4q)),((),())) ((fId a0),((),()))) (List.length ([]:List U4q)+List.length a0≤9223372036854775807∧((List.length ([]:List U4q)+List.length a0)*24≤140737488355328∧(Eq ((([]:List U4q)++a0),((),())) ((fId a0),((),())))))))
theorem X02.pure(a0:(List U4q))(h:(XbD a0))(hw:Wf X0s.A a0):X02.F a0:=by
 unfold X02.F
 have hp:a0.length≤1099511627776:=h
 simp only[Bs,B0,B1,Prod.mk.injEq,X04,fId,XbD]
 repeat' (with_reducible (first | (refine And.intro ?_ ?_) | intro _))
 all_goals (try simp (disch:=omega) only[w64,wu8,tn0,tn1,tm1,tm2,List.length_append,List.length_cons,List.length_nil]at*)
 all_goals (try simp (disch:=omega) only[w64,wu8,tn0,tn1,tm1,tm2,List.length_append,List.length_cons,List.length_nil]at*)
 all_goals (try omega)
 all_goals (try grind[])
 all_goals (try simp_all)
theorem X02.eq:EqS X0s Try.f103 [47] [] [] noL (fun i x=>X02.F x):=by intro i x;kernel_rfl
theorem X02.ok:X0I Try.prog 103 X0s:=X35 X02.eq Try.func103 rfl (by kernel_rfl) fun i x h hi hw=>X02.pure x h hw
def X02.e:GE:=⟨103,X0s,⟨_,Try.func103,rfl,rfl⟩,X02.ok⟩
def X1H:Con:={A:=T6q,shA:=[.one],R:=T6q,shR:=[(false,1)],fresh:=[(0,3)],pre:=fun _ a=>(XbD a),f:=some fun _ a=>((fId a),((),()))}
def X0e.F(a0:(List Int)):Prop:=(∀(b1:Bool),(b1=true→a0=[])→(X03 b1 (Eq (([]:(List Int)),((),())) ((fId a0),((),()))) (List.length ([]:List Int)+List.length a0≤9223372036854775807∧((List.length ([]:List Int)+List.length a0)*8≤140737488355328∧(Eq ((([]:List Int)++a0),((),())) ((fId a0),((),())))))))
theorem X0e.pure(a0:(List Int))(h:(XbD a0))(hw:Wf X1H.A a0):X0e.F a0:=by
 unfold X0e.F
 have hp:a0.length≤1099511627776:=h
 simp only[Bs,B0,B1,Prod.mk.injEq,X04,fId,XbD]
 repeat' (with_reducible (first | (refine And.intro ?_ ?_) | intro _))
 all_goals (try simp (disch:=omega) only[w64,wu8,tn0,tn1,tm1,tm2,List.length_append,List.length_cons,List.length_nil]at*)
 all_goals (try simp (disch:=omega) only[w64,wu8,tn0,tn1,tm1,tm2,List.length_append,List.length_cons,List.length_nil]at*)
 all_goals (try omega)
 all_goals (try grind[])
 all_goals (try simp_all)
theorem X0e.eq:EqS X1H Try.f104 [43] [] [] noL (fun i x=>X0e.F x):=by intro i x;kernel_rfl
theorem X0e.ok:X0I Try.prog 104 X1H:=X35 X0e.eq Try.func104 rfl (by kernel_rfl) fun i x h hi hw=>X0e.pure x h hw
def X0e.e:GE:=⟨104,X1H,⟨_,Try.func104,rfl,rfl⟩,X0e.ok⟩
def X6h:Con:={A:=T0q,shA:=[.agg 13],R:=T8q,shR:=[(true,5)],fresh:=[(4,101)],pre:=fun _ a=>(X21 a),f:=some fun _ a=>((X6t a),((),()))}
def X3f.F(a0:U1q):Prop:=((XbD a0.2.2.2.2.2.2.2.2.1)∧∀r1,(Eq r1 ((fId a0.2.2.2.2.2.2.2.2.1),((),())))→(Eq ((a0.2.2.1,(a0.2.2.2.1,(a0.2.2.2.2.2.2.1,(a0.2.2.2.2.2.2.2.1,r1.1)))),((),())) ((X6t a0),((),()))))
theorem X3f.pure(a0:U1q)(h:(X21 a0))(hw:Wf X6h.A a0):X3f.F a0:=by
 unfold X3f.F
 obtain⟨p0,p1,p2,p3⟩:=h
 simp only[Bs,B0,B1,Prod.mk.injEq,X04,X6t,fId,X21,XbD]
 repeat' (with_reducible (first | (refine And.intro ?_ ?_) | intro _))
 all_goals (try simp (disch:=omega) only[w64,wu8,tn0,tn1,tm1,tm2,List.length_append,List.length_cons,List.length_nil]at*)
 all_goals (try simp (disch:=omega) only[w64,wu8,tn0,tn1,tm1,tm2,List.length_append,List.length_cons,List.length_nil]at*)
 all_goals (try omega)
 all_goals (try grind[])
theorem X3f.eq:EqS X6h Try.f100 [127] [X02.e] [] noL (fun i x=>X3f.F x):=by intro i x;kernel_rfl
theorem X3f.ok:X0I Try.prog 100 X6h:=X35 X3f.eq Try.func100 rfl (by kernel_rfl) fun i x h hi hw=>X3f.pure x h hw
def X3f.e:GE:=⟨100,X6h,⟨_,Try.func100,rfl,rfl⟩,X3f.ok⟩
def X44:Con:={A:=T0q,shA:=[.agg 13],R:=T8q,shR:=[(true,5)],fresh:=[(4,101)],pre:=fun _ a=>(X21 a),f:=some fun _ a=>((X6t a),((),()))}
def X1z.F(a0:U1q):Prop:=(List.length ([]:List U4q)+List.length a0.2.2.2.2.2.2.2.2.1≤9223372036854775807∧((List.length ([]:List U4q)+List.length a0.2.2.2.2.2.2.2.2.1)*24≤140737488355328∧(Eq ((a0.2.2.1,(a0.2.2.2.1,(a0.2.2.2.2.2.2.1,(a0.2.2.2.2.2.2.2.1,(([]:List U4q)++a0.2.2.2.2.2.2.2.2.1))))),((),())) ((X6t a0),((),())))))
theorem X1z.pure(a0:U1q)(h:(X21 a0))(hw:Wf X44.A a0):X1z.F a0:=by
 unfold X1z.F
 obtain⟨p0,p1,p2,p3⟩:=h
 simp only[Bs,B0,B1,Prod.mk.injEq,X04,X6t]
 repeat' (with_reducible (first | (refine And.intro ?_ ?_) | intro _))
 all_goals (try simp (disch:=omega) only[w64,wu8,tn0,tn1,tm1,tm2,List.length_append,List.length_cons,List.length_nil]at*)
 all_goals (try simp (disch:=omega) only[w64,wu8,tn0,tn1,tm1,tm2,List.length_append,List.length_cons,List.length_nil]at*)
 all_goals (try omega)
 all_goals (try grind[])
theorem X1z.eq:EqS X44 Try.f94 [127] [] [] noL (fun i x=>X1z.F x):=by intro i x;kernel_rfl
theorem X1z.ok:X0I Try.prog 94 X44:=X35 X1z.eq Try.func94 rfl (by kernel_rfl) fun i x h hi hw=>X1z.pure x h hw
def X1z.e:GE:=⟨94,X44,⟨_,Try.func94,rfl,rfl⟩,X1z.ok⟩
theorem XcE{c:X2Z}(h:c.2.2.2.2.2.2.2.2.2.2.1.length≤1099511627776):X82 c=true↔(∀j,j<c.2.2.2.2.2.2.2.2.2.2.1.length→XgO c j=true)∧XcZ c.2.2.2.2.2.2.2.2.2.2.1 c.1=true∧2*(c.2.2.2.2.2.2.2.2.2.2.1.length:Int)≤c.2.1:=by
 unfold X82
 rw[w64 (x:=2*(c.2.2.2.2.2.2.2.2.2.2.1.length:Int)) (by omega) (by omega)]
 simp only[Bool.and_eq_true,List.all_eq_true,List.mem_range,Bool.not_eq_true',decide_eq_false_iff_not,gt_iff_lt,Int.not_lt]
theorem XaH{c:X2Z}:X6C c=true↔(c.2.2.2.2.2.2.2.2.2.2.2.1.length:Int)=c.2.1∧(c.2.2.2.2.2.2.2.2.2.2.2.2.length:Int)=c.2.1∧(∀j,j<c.2.2.2.2.2.2.2.2.2.2.2.1.length→Xg2 c j=true)∧c.2.2.2.2.2.2.2.2.2.2.2.2.getD c.1.toNat 0=X0t c:=by
 unfold X6C
 simp only[Bool.and_eq_true,List.all_eq_true,List.mem_range,decide_eq_true_eq]
def Xb2(c:X2Z):Bool:=if c.2.2.2.2.1=1 then fIn c.2.2.2.2.2.1 (-1) (c.2.1 - 1)&&(decide (c.2.2.2.2.2.1≠c.1)&&(decide (c.2.2.2.2.2.2.2.2.2.2.1=[])&&(decide (c.2.2.2.2.2.2.2.2.2.2.2.1=[])&&decide (c.2.2.2.2.2.2.2.2.2.2.2.2=[]))))
 else if c.2.2.2.2.1=2 then decide (1≤c.2.2.1)&&(decide (c.2.2.2.1=c.1)&&(decide (c.2.2.2.2.2.1= -1)&&(X82 c&&(decide (c.2.2.2.2.2.2.2.2.2.2.2.1=[])&&decide (c.2.2.2.2.2.2.2.2.2.2.2.2=[])))))
 else if c.2.2.2.2.1=3 then decide (1≤c.2.2.1)&&(decide (c.2.2.2.1=c.1)&&(decide (c.2.2.2.2.2.1=c.1)&&(decide (c.2.2.2.2.2.2.2.2.2.2.1=[])&&X6C c)))
 else false
def X3V(c:X2Z):Bool:=fIn c.2.1 1 5&&(X3e c c.1&&(X22 (X6t c)&&(decide (c.2.2.2.1<c.2.1)&&fIn c.2.2.2.2.2.2.2.2.2.1 c.2.2.2.2.2.2.1 (X0t c))))
def X06(c:X2Z):Bool:=X3V c&&Xb2 c
def X43:Con:={A:=T0q,shA:=[.agg 13],R:=.bool,shR:=[(false,1)],pre:=fun _ a=>(X21 a),f:=some fun _ a=>((X06 a),((),()))}
def X1D.F(a0:U1q):Prop:=(True∧∀r1,(Eq r1 ((fIn a0.2.1 1 5),((),())))→(X03 (!r1.1) (Eq (false,((),())) ((X06 a0),((),()))) (True∧∀r2,(Eq r2 ((X3e (a0.1,(a0.2.1,(a0.2.2.1,(a0.2.2.2.1,(a0.2.2.2.2.1,(a0.2.2.2.2.2.1,(a0.2.2.2.2.2.2.1,(a0.2.2.2.2.2.2.2.1,(a0.2.2.2.2.2.2.2.2.1,(a0.2.2.2.2.2.2.2.2.2.1,(a0.2.2.2.2.2.2.2.2.2.2.1,(a0.2.2.2.2.2.2.2.2.2.2.2.1,a0.2.2.2.2.2.2.2.2.2.2.2.2)))))))))))) a0.1),((),())))→(X03 (!r2.1) (Eq (false,((),())) ((X06 a0),((),()))) ((X21 (a0.1,(a0.2.1,(a0.2.2.1,(a0.2.2.2.1,(a0.2.2.2.2.1,(a0.2.2.2.2.2.1,(a0.2.2.2.2.2.2.1,(a0.2.2.2.2.2.2.2.1,(a0.2.2.2.2.2.2.2.2.1,(a0.2.2.2.2.2.2.2.2.2.1,(a0.2.2.2.2.2.2.2.2.2.2.1,(a0.2.2.2.2.2.2.2.2.2.2.2.1,a0.2.2.2.2.2.2.2.2.2.2.2.2)))))))))))))∧∀r3,(Eq r3 ((X6t (a0.1,(a0.2.1,(a0.2.2.1,(a0.2.2.2.1,(a0.2.2.2.2.1,(a0.2.2.2.2.2.1,(a0.2.2.2.2.2.2.1,(a0.2.2.2.2.2.2.2.1,(a0.2.2.2.2.2.2.2.2.1,(a0.2.2.2.2.2.2.2.2.2.1,(a0.2.2.2.2.2.2.2.2.2.2.1,(a0.2.2.2.2.2.2.2.2.2.2.2.1,a0.2.2.2.2.2.2.2.2.2.2.2.2))))))))))))),((),())))→(True∧∀r4,(Eq r4 ((X22 (r3.1.1,(r3.1.2.1,(r3.1.2.2.1,(r3.1.2.2.2.1,r3.1.2.2.2.2))))),((),())))→(X03 (!r4.1) (Eq (false,((),())) ((X06 a0),((),()))) (X03 (decide (a0.2.2.2.1≥a0.2.1)) (Eq (false,((),())) ((X06 a0),((),()))) (True∧∀r5,(Eq r5 ((X0t (a0.1,(a0.2.1,(a0.2.2.1,(a0.2.2.2.1,(a0.2.2.2.2.1,(a0.2.2.2.2.2.1,(a0.2.2.2.2.2.2.1,(a0.2.2.2.2.2.2.2.1,(a0.2.2.2.2.2.2.2.2.1,(a0.2.2.2.2.2.2.2.2.2.1,(a0.2.2.2.2.2.2.2.2.2.2.1,(a0.2.2.2.2.2.2.2.2.2.2.2.1,a0.2.2.2.2.2.2.2.2.2.2.2.2))))))))))))),((),())))→(True∧∀r6,(Eq r6 ((fIn a0.2.2.2.2.2.2.2.2.2.1 a0.2.2.2.2.2.2.1 r5.1),((),())))→(X03 (!r6.1) (Eq (false,((),())) ((X06 a0),((),()))) (X03 (a0.2.2.2.2.1==(1:Int)) (X03 (a0.2.2.2.2.2.1==((-1):Int)) (Eq (((wI ((wI ((ln a0.2.2.2.2.2.2.2.2.2.2.1)+(ln a0.2.2.2.2.2.2.2.2.2.2.2.1)))+(ln a0.2.2.2.2.2.2.2.2.2.2.2.2)))==(0:Int)),((),())) ((X06 a0),((),()))) (True∧∀r7,(Eq r7 ((X3e (a0.1,(a0.2.1,(a0.2.2.1,(a0.2.2.2.1,(a0.2.2.2.2.1,(a0.2.2.2.2.2.1,(a0.2.2.2.2.2.2.1,(a0.2.2.2.2.2.2.2.1,(a0.2.2.2.2.2.2.2.2.1,(a0.2.2.2.2.2.2.2.2.2.1,(a0.2.2.2.2.2.2.2.2.2.2.1,(a0.2.2.2.2.2.2.2.2.2.2.2.1,a0.2.2.2.2.2.2.2.2.2.2.2.2)))))))))))) a0.2.2.2.2.2.1),((),())))→(X03 r7.1 (X03 (a0.2.2.2.2.2.1 !=a0.1) (Eq (((wI ((wI ((ln a0.2.2.2.2.2.2.2.2.2.2.1)+(ln a0.2.2.2.2.2.2.2.2.2.2.2.1)))+(ln a0.2.2.2.2.2.2.2.2.2.2.2.2)))==(0:Int)),((),())) ((X06 a0),((),()))) (Eq (false,((),())) ((X06 a0),((),())))) (Eq (false,((),())) ((X06 a0),((),())))))) (X03 (a0.2.2.2.2.1==(2:Int)) (X03 (decide (a0.2.2.1≥(1:Int))) (X03 (a0.2.2.2.1==a0.1) (X03 (a0.2.2.2.2.2.1==((-1):Int)) ((X21 (a0.1,(a0.2.1,(a0.2.2.1,(a0.2.2.2.1,(a0.2.2.2.2.1,(a0.2.2.2.2.2.1,(a0.2.2.2.2.2.2.1,(a0.2.2.2.2.2.2.2.1,(a0.2.2.2.2.2.2.2.2.1,(a0.2.2.2.2.2.2.2.2.2.1,(a0.2.2.2.2.2.2.2.2.2.2.1,(a0.2.2.2.2.2.2.2.2.2.2.2.1,a0.2.2.2.2.2.2.2.2.2.2.2.2)))))))))))))∧∀r8,(Eq r8 ((X82 (a0.1,(a0.2.1,(a0.2.2.1,(a0.2.2.2.1,(a0.2.2.2.2.1,(a0.2.2.2.2.2.1,(a0.2.2.2.2.2.2.1,(a0.2.2.2.2.2.2.2.1,(a0.2.2.2.2.2.2.2.2.1,(a0.2.2.2.2.2.2.2.2.2.1,(a0.2.2.2.2.2.2.2.2.2.2.1,(a0.2.2.2.2.2.2.2.2.2.2.2.1,a0.2.2.2.2.2.2.2.2.2.2.2.2))))))))))))),((),())))→(X03 r8.1 (Eq (((wI ((ln a0.2.2.2.2.2.2.2.2.2.2.2.1)+(ln a0.2.2.2.2.2.2.2.2.2.2.2.2)))==(0:Int)),((),())) ((X06 a0),((),()))) (Eq (false,((),())) ((X06 a0),((),()))))) (Eq (false,((),())) ((X06 a0),((),())))) (Eq (false,((),())) ((X06 a0),((),())))) (Eq (false,((),())) ((X06 a0),((),())))) (X03 (a0.2.2.2.2.1==(3:Int)) (X03 (decide (a0.2.2.1≥(1:Int))) (X03 (a0.2.2.2.1==a0.1) (X03 (a0.2.2.2.2.2.1==a0.1) (X03 ((ln a0.2.2.2.2.2.2.2.2.2.2.1)==(0:Int)) ((XeZ (a0.1,(a0.2.1,(a0.2.2.1,(a0.2.2.2.1,(a0.2.2.2.2.1,(a0.2.2.2.2.2.1,(a0.2.2.2.2.2.2.1,(a0.2.2.2.2.2.2.2.1,(a0.2.2.2.2.2.2.2.2.1,(a0.2.2.2.2.2.2.2.2.2.1,(a0.2.2.2.2.2.2.2.2.2.2.1,(a0.2.2.2.2.2.2.2.2.2.2.2.1,a0.2.2.2.2.2.2.2.2.2.2.2.2)))))))))))))∧∀r9,(Eq r9 ((X6C (a0.1,(a0.2.1,(a0.2.2.1,(a0.2.2.2.1,(a0.2.2.2.2.1,(a0.2.2.2.2.2.1,(a0.2.2.2.2.2.2.1,(a0.2.2.2.2.2.2.2.1,(a0.2.2.2.2.2.2.2.2.1,(a0.2.2.2.2.2.2.2.2.2.1,(a0.2.2.2.2.2.2.2.2.2.2.1,(a0.2.2.2.2.2.2.2.2.2.2.2.1,a0.2.2.2.2.2.2.2.2.2.2.2.2))))))))))))),((),())))→(Eq (r9.1,((),())) ((X06 a0),((),())))) (Eq (false,((),())) ((X06 a0),((),())))) (Eq (false,((),())) ((X06 a0),((),())))) (Eq (false,((),())) ((X06 a0),((),())))) (Eq (false,((),())) ((X06 a0),((),())))) (Eq (false,((),())) ((X06 a0),((),())))))))))))))))))
theorem X1D.pure(a0:U1q)(h:(X21 a0))(hw:Wf X43.A a0):X1D.F a0:=by
 delta X1D.F ln wI
 have hpc:X21 a0:=h
 obtain⟨p0,p1,p2,p3⟩:=h
 obtain⟨c0,c1,c2,c3,c4,c5,c6,c7,c8,c9,c10,c11,c12⟩:=a0
 simp only at p0 p1 p2 p3
 have hW:fIn c1 1 5=true→IntKind.wrap .i64 (c1 - 1)=c1 - 1:=fun h=>by
  have:=X30.1 h
  exact w64 (by omega) (by omega)
 have e10:c10=[]↔c10.length=0:=List.length_eq_zero_iff.symm
 have e11:c11=[]↔c11.length=0:=List.length_eq_zero_iff.symm
 have e12:c12=[]↔c12.length=0:=List.length_eq_zero_iff.symm
 have hz:((c10.length:Int)+(c11.length:Int)+(c12.length:Int)==0)=(decide (c10=[])&&(decide (c11=[])&&decide (c12=[]))):=by
  rw[Bool.eq_iff_iff];simp only[beq_iff_eq,Bool.and_eq_true,decide_eq_true_eq,e10,e11,e12];omega
 have hz2:((c11.length:Int)+(c12.length:Int)==0)=(decide (c11=[])&&decide (c12=[])):=by
  rw[Bool.eq_iff_iff];simp only[beq_iff_eq,Bool.and_eq_true,decide_eq_true_eq,e11,e12];omega
 have hz3:((c12.length:Int)==0)=decide (c12=[]):=by
  rw[Bool.eq_iff_iff];simp only[beq_iff_eq,decide_eq_true_eq,e12];omega
 have hW2:IntKind.wrap .i64 (2*(c10.length:Int))=2*(c10.length:Int):=w64 (by omega) (by omega)
 simp only[Bs,B0,B1,Prod.mk.injEq,X04,XeZ,Prod.eta,X3e]
 repeat' (with_reducible (first | (refine And.intro ?_ ?_) | intro _))
 all_goals (try simp (disch:=omega) only[w64,wu8,tn0,tn1,tm1,tm2,List.length_append,List.length_cons,List.length_nil,hz,hz2,hz3]at*)
 all_goals (try simp (disch:=omega) only[w64,wu8,tn0,tn1,tm1,tm2,List.length_append,List.length_cons,List.length_nil,hz,hz2,hz3]at*)
 all_goals (try omega)
 all_goals (try grind[X06,X3V,Xb2,X30,X3e,X0t])
theorem X1D.eq:EqS X43 Try.f52 [4] [X14.e,X1k.e,X1o.e,X1W.e,X3f.e,X1a.e,X19.e] [] noL (fun i x=>X1D.F x):=by intro i x;kernel_rfl
theorem X1D.ok:X0I Try.prog 52 X43:=X35 X1D.eq Try.func52 rfl (by kernel_rfl) fun i x h hi hw=>X1D.pure x h hw
def X1D.e:GE:=⟨52,X43,⟨_,Try.func52,rfl,rfl⟩,X1D.ok⟩
def X4c:Con:={A:=T0q,shA:=[.agg 13],R:=.bool,shR:=[(false,1)],pre:=fun _ a=>(X21 a),f:=some fun _ a=>((X06 a),((),()))}
def X1b.F(a0:U1q):Prop:=(True∧∀r1,(Eq r1 ((fIn a0.2.1 1 5),((),())))→(X03 (!r1.1) (Eq (false,((),())) ((X06 a0),((),()))) (True∧∀r2,(Eq r2 ((fIn a0.1 0 (wI (a0.2.1 - (1:Int)))),((),())))→(X03 (!r2.1) (Eq (false,((),())) ((X06 a0),((),()))) ((X21 (a0.1,(a0.2.1,(a0.2.2.1,(a0.2.2.2.1,(a0.2.2.2.2.1,(a0.2.2.2.2.2.1,(a0.2.2.2.2.2.2.1,(a0.2.2.2.2.2.2.2.1,(a0.2.2.2.2.2.2.2.2.1,(a0.2.2.2.2.2.2.2.2.2.1,(a0.2.2.2.2.2.2.2.2.2.2.1,(a0.2.2.2.2.2.2.2.2.2.2.2.1,a0.2.2.2.2.2.2.2.2.2.2.2.2)))))))))))))∧∀r3,(Eq r3 ((X6t (a0.1,(a0.2.1,(a0.2.2.1,(a0.2.2.2.1,(a0.2.2.2.2.1,(a0.2.2.2.2.2.1,(a0.2.2.2.2.2.2.1,(a0.2.2.2.2.2.2.2.1,(a0.2.2.2.2.2.2.2.2.1,(a0.2.2.2.2.2.2.2.2.2.1,(a0.2.2.2.2.2.2.2.2.2.2.1,(a0.2.2.2.2.2.2.2.2.2.2.2.1,a0.2.2.2.2.2.2.2.2.2.2.2.2))))))))))))),((),())))→(True∧∀r4,(Eq r4 ((X22 (r3.1.1,(r3.1.2.1,(r3.1.2.2.1,(r3.1.2.2.2.1,r3.1.2.2.2.2))))),((),())))→(X03 (!r4.1) (Eq (false,((),())) ((X06 a0),((),()))) (X03 (decide (a0.2.2.2.1≥a0.2.1)) (Eq (false,((),())) ((X06 a0),((),()))) (True∧∀r5,(Eq r5 ((X0t (a0.1,(a0.2.1,(a0.2.2.1,(a0.2.2.2.1,(a0.2.2.2.2.1,(a0.2.2.2.2.2.1,(a0.2.2.2.2.2.2.1,(a0.2.2.2.2.2.2.2.1,(a0.2.2.2.2.2.2.2.2.1,(a0.2.2.2.2.2.2.2.2.2.1,(a0.2.2.2.2.2.2.2.2.2.2.1,(a0.2.2.2.2.2.2.2.2.2.2.2.1,a0.2.2.2.2.2.2.2.2.2.2.2.2))))))))))))),((),())))→(True∧∀r6,(Eq r6 ((fIn a0.2.2.2.2.2.2.2.2.2.1 a0.2.2.2.2.2.2.1 r5.1),((),())))→(X03 (!r6.1) (Eq (false,((),())) ((X06 a0),((),()))) (X03 (a0.2.2.2.2.1==(1:Int)) (True∧∀r7,(Eq r7 ((fIn a0.2.2.2.2.2.1 (-1) (wI (a0.2.1 - (1:Int)))),((),())))→(X03 r7.1 (X03 (a0.2.2.2.2.2.1 !=a0.1) (X03 ((ln a0.2.2.2.2.2.2.2.2.2.2.1)==(0:Int)) (X03 ((ln a0.2.2.2.2.2.2.2.2.2.2.2.1)==(0:Int)) (Eq (((ln a0.2.2.2.2.2.2.2.2.2.2.2.2)==(0:Int)),((),())) ((X06 a0),((),()))) (Eq (false,((),())) ((X06 a0),((),())))) (Eq (false,((),())) ((X06 a0),((),())))) (Eq (false,((),())) ((X06 a0),((),())))) (Eq (false,((),())) ((X06 a0),((),()))))) (X03 (a0.2.2.2.2.1==(2:Int)) (eS [(1,.box 2 0)] [(1,.box 2 0)]∧((skI a0 0 a0.1 a0.2.1 a0.2.2.1 a0.2.2.2.1 a0.2.2.2.2.1 a0.2.2.2.2.2.1 a0.2.2.2.2.2.2.1 a0.2.2.2.2.2.2.2.1 a0.2.2.2.2.2.2.2.2.1 a0.2.2.2.2.2.2.2.2.2.1 a0.2.2.2.2.2.2.2.2.2.2.1 a0.2.2.2.2.2.2.2.2.2.2.2.1 a0.2.2.2.2.2.2.2.2.2.2.2.2)∧∀(y8:(Int×U1q)),(skI a0 y8.1 y8.2.1 y8.2.2.1 y8.2.2.2.1 y8.2.2.2.2.1 y8.2.2.2.2.2.1 y8.2.2.2.2.2.2.1 y8.2.2.2.2.2.2.2.1 y8.2.2.2.2.2.2.2.2.1 y8.2.2.2.2.2.2.2.2.2.1 y8.2.2.2.2.2.2.2.2.2.2.1 y8.2.2.2.2.2.2.2.2.2.2.2.1 y8.2.2.2.2.2.2.2.2.2.2.2.2.1 y8.2.2.2.2.2.2.2.2.2.2.2.2.2)→(X03 (decide (y8.1<(ln y8.2.2.2.2.2.2.2.2.2.2.2.1))) (0≤y8.1∧(y8.1<(ln y8.2.2.2.2.2.2.2.2.2.2.2.1)∧(True∧∀r9,(Eq r9 ((fIn (List.getD y8.2.2.2.2.2.2.2.2.2.2.2.1 (tN y8.1) 0) 0 (wI (y8.2.2.1 - (1:Int)))),((),())))→(X03 (!r9.1) (Eq (false,((),())) ((X06 a0),((),()))) (X03 (decide (y8.1>(0:Int))) (0≤(wI (y8.1 - (1:Int)))∧((wI (y8.1 - (1:Int)))<(ln y8.2.2.2.2.2.2.2.2.2.2.2.1)∧(0≤y8.1∧(y8.1<(ln y8.2.2.2.2.2.2.2.2.2.2.2.1)∧(X03 (decide ((List.getD y8.2.2.2.2.2.2.2.2.2.2.2.1 (tN (wI (y8.1 - (1:Int)))) 0)≥(List.getD y8.2.2.2.2.2.2.2.2.2.2.2.1 (tN y8.1) 0))) (Eq (false,((),())) ((X06 a0),((),()))) (eS [(1,.box 2 0)] [(1,.box 2 0)]∧(skI a0 (wI (y8.1+(1:Int))) y8.2.1 y8.2.2.1 y8.2.2.2.1 y8.2.2.2.2.1 y8.2.2.2.2.2.1 y8.2.2.2.2.2.2.1 y8.2.2.2.2.2.2.2.1 y8.2.2.2.2.2.2.2.2.1 y8.2.2.2.2.2.2.2.2.2.1 y8.2.2.2.2.2.2.2.2.2.2.1 y8.2.2.2.2.2.2.2.2.2.2.2.1 y8.2.2.2.2.2.2.2.2.2.2.2.2.1 y8.2.2.2.2.2.2.2.2.2.2.2.2.2)∧(skM a0 (wI (y8.1+(1:Int))) y8.2.1 y8.2.2.1 y8.2.2.2.1 y8.2.2.2.2.1 y8.2.2.2.2.2.1 y8.2.2.2.2.2.2.1 y8.2.2.2.2.2.2.2.1 y8.2.2.2.2.2.2.2.2.1 y8.2.2.2.2.2.2.2.2.2.1 y8.2.2.2.2.2.2.2.2.2.2.1 y8.2.2.2.2.2.2.2.2.2.2.2.1 y8.2.2.2.2.2.2.2.2.2.2.2.2.1 y8.2.2.2.2.2.2.2.2.2.2.2.2.2)<(skM a0 y8.1 y8.2.1 y8.2.2.1 y8.2.2.2.1 y8.2.2.2.2.1 y8.2.2.2.2.2.1 y8.2.2.2.2.2.2.1 y8.2.2.2.2.2.2.2.1 y8.2.2.2.2.2.2.2.2.1 y8.2.2.2.2.2.2.2.2.2.1 y8.2.2.2.2.2.2.2.2.2.2.1 y8.2.2.2.2.2.2.2.2.2.2.2.1 y8.2.2.2.2.2.2.2.2.2.2.2.2.1 y8.2.2.2.2.2.2.2.2.2.2.2.2.2))))))) (eS [(1,.box 2 0)] [(1,.box 2 0)]∧(skI a0 (wI (y8.1+(1:Int))) y8.2.1 y8.2.2.1 y8.2.2.2.1 y8.2.2.2.2.1 y8.2.2.2.2.2.1 y8.2.2.2.2.2.2.1 y8.2.2.2.2.2.2.2.1 y8.2.2.2.2.2.2.2.2.1 y8.2.2.2.2.2.2.2.2.2.1 y8.2.2.2.2.2.2.2.2.2.2.1 y8.2.2.2.2.2.2.2.2.2.2.2.1 y8.2.2.2.2.2.2.2.2.2.2.2.2.1 y8.2.2.2.2.2.2.2.2.2.2.2.2.2)∧(skM a0 (wI (y8.1+(1:Int))) y8.2.1 y8.2.2.1 y8.2.2.2.1 y8.2.2.2.2.1 y8.2.2.2.2.2.1 y8.2.2.2.2.2.2.1 y8.2.2.2.2.2.2.2.1 y8.2.2.2.2.2.2.2.2.1 y8.2.2.2.2.2.2.2.2.2.1 y8.2.2.2.2.2.2.2.2.2.2.1 y8.2.2.2.2.2.2.2.2.2.2.2.1 y8.2.2.2.2.2.2.2.2.2.2.2.2.1 y8.2.2.2.2.2.2.2.2.2.2.2.2.2)<(skM a0 y8.1 y8.2.1 y8.2.2.1 y8.2.2.2.1 y8.2.2.2.2.1 y8.2.2.2.2.2.1 y8.2.2.2.2.2.2.1 y8.2.2.2.2.2.2.2.1 y8.2.2.2.2.2.2.2.2.1 y8.2.2.2.2.2.2.2.2.2.1 y8.2.2.2.2.2.2.2.2.2.2.1 y8.2.2.2.2.2.2.2.2.2.2.2.1 y8.2.2.2.2.2.2.2.2.2.2.2.2.1 y8.2.2.2.2.2.2.2.2.2.2.2.2.2))))))) (X03 (decide (y8.2.2.2.1≥(1:Int))) (X03 (y8.2.2.2.2.1==y8.2.1) (X03 (y8.2.2.2.2.2.2.1==((-1):Int)) (True∧∀r10,(Eq r10 ((XcZ y8.2.2.2.2.2.2.2.2.2.2.2.1 y8.2.1),((),())))→(X03 r10.1 (X03 (decide ((wI ((2:Int)*(ln y8.2.2.2.2.2.2.2.2.2.2.2.1)))≤y8.2.2.1)) (X03 ((ln y8.2.2.2.2.2.2.2.2.2.2.2.2.1)==(0:Int)) (Eq (((ln y8.2.2.2.2.2.2.2.2.2.2.2.2.2)==(0:Int)),((),())) ((X06 a0),((),()))) (Eq (false,((),())) ((X06 a0),((),())))) (Eq (false,((),())) ((X06 a0),((),())))) (Eq (false,((),())) ((X06 a0),((),()))))) (Eq (false,((),())) ((X06 a0),((),())))) (Eq (false,((),())) ((X06 a0),((),())))) (Eq (false,((),())) ((X06 a0),((),()))))))) (X03 (a0.2.2.2.2.1==(3:Int)) (X03 (decide (a0.2.2.1<(1:Int))) (Eq (false,((),())) ((X06 a0),((),()))) (X03 (a0.2.2.2.1 !=a0.1) (Eq (false,((),())) ((X06 a0),((),()))) (X03 (a0.2.2.2.2.2.1 !=a0.1) (Eq (false,((),())) ((X06 a0),((),()))) (X03 (decide ((ln a0.2.2.2.2.2.2.2.2.2.2.1)>(0:Int))) (Eq (false,((),())) ((X06 a0),((),()))) (X03 ((ln a0.2.2.2.2.2.2.2.2.2.2.2.1)!=a0.2.1) (Eq (false,((),())) ((X06 a0),((),()))) (X03 ((ln a0.2.2.2.2.2.2.2.2.2.2.2.2)!=a0.2.1) (Eq (false,((),())) ((X06 a0),((),()))) (0≤a0.1∧(a0.1<(ln a0.2.2.2.2.2.2.2.2.2.2.2.2)∧(True∧∀r11,(Eq r11 ((X0t (a0.1,(a0.2.1,(a0.2.2.1,(a0.2.2.2.1,(a0.2.2.2.2.1,(a0.2.2.2.2.2.1,(a0.2.2.2.2.2.2.1,(a0.2.2.2.2.2.2.2.1,(a0.2.2.2.2.2.2.2.2.1,(a0.2.2.2.2.2.2.2.2.2.1,(a0.2.2.2.2.2.2.2.2.2.2.1,(a0.2.2.2.2.2.2.2.2.2.2.2.1,a0.2.2.2.2.2.2.2.2.2.2.2.2))))))))))))),((),())))→(X03 ((List.getD a0.2.2.2.2.2.2.2.2.2.2.2.2 (tN a0.1) 0)!=r11.1) (Eq (false,((),())) ((X06 a0),((),()))) (eS [(1,.box 2 0)] [(1,.box 2 0)]∧((ldI a0 0 a0.1 a0.2.1 a0.2.2.1 a0.2.2.2.1 a0.2.2.2.2.1 a0.2.2.2.2.2.1 a0.2.2.2.2.2.2.1 a0.2.2.2.2.2.2.2.1 a0.2.2.2.2.2.2.2.2.1 a0.2.2.2.2.2.2.2.2.2.1 a0.2.2.2.2.2.2.2.2.2.2.1 a0.2.2.2.2.2.2.2.2.2.2.2.1 a0.2.2.2.2.2.2.2.2.2.2.2.2)∧∀(y12:(Int×U1q)),(ldI a0 y12.1 y12.2.1 y12.2.2.1 y12.2.2.2.1 y12.2.2.2.2.1 y12.2.2.2.2.2.1 y12.2.2.2.2.2.2.1 y12.2.2.2.2.2.2.2.1 y12.2.2.2.2.2.2.2.2.1 y12.2.2.2.2.2.2.2.2.2.1 y12.2.2.2.2.2.2.2.2.2.2.1 y12.2.2.2.2.2.2.2.2.2.2.2.1 y12.2.2.2.2.2.2.2.2.2.2.2.2.1 y12.2.2.2.2.2.2.2.2.2.2.2.2.2)→(X03 (decide (y12.1<y12.2.2.1)) (0≤y12.1∧(y12.1<(ln y12.2.2.2.2.2.2.2.2.2.2.2.2.2)∧(X03 (decide ((List.getD y12.2.2.2.2.2.2.2.2.2.2.2.2.2 (tN y12.1) 0)<(0:Int))) (Eq (false,((),())) ((X06 a0),((),()))) (0≤y12.1∧(y12.1<(ln y12.2.2.2.2.2.2.2.2.2.2.2.2.1)∧(0≤y12.1∧(y12.1<(ln y12.2.2.2.2.2.2.2.2.2.2.2.2.2)∧(X03 (decide ((List.getD y12.2.2.2.2.2.2.2.2.2.2.2.2.1 (tN y12.1) 0)≤(List.getD y12.2.2.2.2.2.2.2.2.2.2.2.2.2 (tN y12.1) 0))) (Eq (false,((),())) ((X06 a0),((),()))) (0≤y12.1∧(y12.1<(ln y12.2.2.2.2.2.2.2.2.2.2.2.2.1)∧(True∧∀r13,(Eq r13 ((X0t (y12.2.1,(y12.2.2.1,(y12.2.2.2.1,(y12.2.2.2.2.1,(y12.2.2.2.2.2.1,(y12.2.2.2.2.2.2.1,(y12.2.2.2.2.2.2.2.1,(y12.2.2.2.2.2.2.2.2.1,(y12.2.2.2.2.2.2.2.2.2.1,(y12.2.2.2.2.2.2.2.2.2.2.1,(y12.2.2.2.2.2.2.2.2.2.2.2.1,(y12.2.2.2.2.2.2.2.2.2.2.2.2.1,y12.2.2.2.2.2.2.2.2.2.2.2.2.2))))))))))))),((),())))→(X03 (decide ((List.getD y12.2.2.2.2.2.2.2.2.2.2.2.2.1 (tN y12.1) 0)>(wI (r13.1+(1:Int))))) (Eq (false,((),())) ((X06 a0),((),()))) (eS [(1,.box 2 0)] [(1,.box 2 0)]∧(ldI a0 (wI (y12.1+(1:Int))) y12.2.1 y12.2.2.1 y12.2.2.2.1 y12.2.2.2.2.1 y12.2.2.2.2.2.1 y12.2.2.2.2.2.2.1 y12.2.2.2.2.2.2.2.1 y12.2.2.2.2.2.2.2.2.1 y12.2.2.2.2.2.2.2.2.2.1 y12.2.2.2.2.2.2.2.2.2.2.1 y12.2.2.2.2.2.2.2.2.2.2.2.1 y12.2.2.2.2.2.2.2.2.2.2.2.2.1 y12.2.2.2.2.2.2.2.2.2.2.2.2.2)∧(ldM a0 (wI (y12.1+(1:Int))) y12.2.1 y12.2.2.1 y12.2.2.2.1 y12.2.2.2.2.1 y12.2.2.2.2.2.1 y12.2.2.2.2.2.2.1 y12.2.2.2.2.2.2.2.1 y12.2.2.2.2.2.2.2.2.1 y12.2.2.2.2.2.2.2.2.2.1 y12.2.2.2.2.2.2.2.2.2.2.1 y12.2.2.2.2.2.2.2.2.2.2.2.1 y12.2.2.2.2.2.2.2.2.2.2.2.2.1 y12.2.2.2.2.2.2.2.2.2.2.2.2.2)<(ldM a0 y12.1 y12.2.1 y12.2.2.1 y12.2.2.2.1 y12.2.2.2.2.1 y12.2.2.2.2.2.1 y12.2.2.2.2.2.2.1 y12.2.2.2.2.2.2.2.1 y12.2.2.2.2.2.2.2.2.1 y12.2.2.2.2.2.2.2.2.2.1 y12.2.2.2.2.2.2.2.2.2.2.1 y12.2.2.2.2.2.2.2.2.2.2.2.1 y12.2.2.2.2.2.2.2.2.2.2.2.2.1 y12.2.2.2.2.2.2.2.2.2.2.2.2.2)))))))))))))) (Eq (true,((),())) ((X06 a0),((),())))))))))))))))) (Eq (false,((),())) ((X06 a0),((),())))))))))))))))))
def X1b.L(a0:U1q):Nat→Option X0l:=fun p=>Go.Proofs.Ytegmokdppbagiaa.Bv.look p [(7538,{kp:={hold:=[1],slots:=[3],boxes:=[2],rows:=[]},T:=(.pair (.int .i64) T0q),I:=fun st y=>skI a0 y.1 y.2.1 y.2.2.1 y.2.2.2.1 y.2.2.2.2.1 y.2.2.2.2.2.1 y.2.2.2.2.2.2.1 y.2.2.2.2.2.2.2.1 y.2.2.2.2.2.2.2.2.1 y.2.2.2.2.2.2.2.2.2.1 y.2.2.2.2.2.2.2.2.2.2.1 y.2.2.2.2.2.2.2.2.2.2.2.1 y.2.2.2.2.2.2.2.2.2.2.2.2.1 y.2.2.2.2.2.2.2.2.2.2.2.2.2,μ:=fun st y=>skM a0 y.1 y.2.1 y.2.2.1 y.2.2.2.1 y.2.2.2.2.1 y.2.2.2.2.2.1 y.2.2.2.2.2.2.1 y.2.2.2.2.2.2.2.1 y.2.2.2.2.2.2.2.2.1 y.2.2.2.2.2.2.2.2.2.1 y.2.2.2.2.2.2.2.2.2.2.1 y.2.2.2.2.2.2.2.2.2.2.2.1 y.2.2.2.2.2.2.2.2.2.2.2.2.1 y.2.2.2.2.2.2.2.2.2.2.2.2.2}),(60394,{kp:={hold:=[1],slots:=[4],boxes:=[2],rows:=[]},T:=(.pair (.int .i64) T0q),I:=fun st y=>ldI a0 y.1 y.2.1 y.2.2.1 y.2.2.2.1 y.2.2.2.2.1 y.2.2.2.2.2.1 y.2.2.2.2.2.2.1 y.2.2.2.2.2.2.2.1 y.2.2.2.2.2.2.2.2.1 y.2.2.2.2.2.2.2.2.2.1 y.2.2.2.2.2.2.2.2.2.2.1 y.2.2.2.2.2.2.2.2.2.2.2.1 y.2.2.2.2.2.2.2.2.2.2.2.2.1 y.2.2.2.2.2.2.2.2.2.2.2.2.2,μ:=fun st y=>ldM a0 y.1 y.2.1 y.2.2.1 y.2.2.2.1 y.2.2.2.2.1 y.2.2.2.2.2.1 y.2.2.2.2.2.2.1 y.2.2.2.2.2.2.2.1 y.2.2.2.2.2.2.2.2.1 y.2.2.2.2.2.2.2.2.2.1 y.2.2.2.2.2.2.2.2.2.2.1 y.2.2.2.2.2.2.2.2.2.2.2.1 y.2.2.2.2.2.2.2.2.2.2.2.2.1 y.2.2.2.2.2.2.2.2.2.2.2.2.2})]
theorem X1b.pure(a0:U1q)(h:(X21 a0))(hw:Wf X4c.A a0):X1b.F a0:=by
 delta X1b.F ln tN wI eS
 have hpc:X21 a0:=h
 obtain⟨p0,p1,p2,p3⟩:=h
 obtain⟨c0,c1,c2,c3,c4,c5,c6,c7,c8,c9,c10,c11,c12⟩:=a0
 simp only at p0 p1 p2 p3
 have hW:fIn c1 1 5=true→IntKind.wrap .i64 (c1 - 1)=c1 - 1:=fun h=>by
  have:=X30.1 h
  exact w64 (by omega) (by omega)
 have e10:c10=[]↔c10.length=0:=List.length_eq_zero_iff.symm
 have e11:c11=[]↔c11.length=0:=List.length_eq_zero_iff.symm
 have e12:c12=[]↔c12.length=0:=List.length_eq_zero_iff.symm
 have hz:((c10.length:Int)+(c11.length:Int)+(c12.length:Int)==0)=(decide (c10=[])&&(decide (c11=[])&&decide (c12=[]))):=by
  rw[Bool.eq_iff_iff];simp only[beq_iff_eq,Bool.and_eq_true,decide_eq_true_eq,e10,e11,e12];omega
 have hz2:((c11.length:Int)+(c12.length:Int)==0)=(decide (c11=[])&&decide (c12=[])):=by
  rw[Bool.eq_iff_iff];simp only[beq_iff_eq,Bool.and_eq_true,decide_eq_true_eq,e11,e12];omega
 have hz3:((c12.length:Int)==0)=decide (c12=[]):=by
  rw[Bool.eq_iff_iff];simp only[beq_iff_eq,decide_eq_true_eq,e12];omega
 have hW2:IntKind.wrap .i64 (2*(c10.length:Int))=2*(c10.length:Int):=w64 (by omega) (by omega)
 simp only[Bs,B0,B1,Prod.mk.injEq,X04,skI,skM,ldI,ldM,Prod.eta,Prod.forall,and_imp]
 repeat' (with_reducible (first | (refine And.intro ?_ ?_) | (intro hsub;subst hsub) | intro _))
 all_goals (try simp (disch:=omega) only[w64,wu8,tn0,tn1,tm1,tm2,List.length_append,List.length_cons,List.length_nil,hz,hz2,hz3]at*)
 all_goals (try simp (disch:=omega) only[w64,wu8,tn0,tn1,tm1,tm2,List.length_append,List.length_cons,List.length_nil,hz,hz2,hz3]at*)
 all_goals (try omega)
 all_goals (try grind[X06,X3V,Xb2,X30,X3e,X0t,X82,X6C,XgO,Xg2,Xgq,Xgn])
 · rename_i g1 g2 g3 i g4 g5 g6 g7 g8 g9 g10 all has g11 g12
   have hs:=(XcE (c:=(c3,c1,c2,c3,2,-1,c6,c7,c8,c9,c10,c11,c12)) p1).2 ⟨fun j hj=>all j (by simp only at hj;omega),has,g12⟩
   grind[X06,X3V,Xb2,X30,X3e]
 · rename_i g1 g2 g3 i g4 g5 g6 g7 g8 g9 g10 all has g12
   have hs:X82 (c3,c1,c2,c3,2,-1,c6,c7,c8,c9,c10,c11,c12)=false:=Bool.eq_false_iff.2 fun h=>g12 ((XcE p1).1 h).2.2
   grind[X06,X3V,Xb2,X30,X3e]
 · rename_i g1 g2 g3 g4 g5 g6 g7 g8 g9 g10 i g11 g12 all g13 g14 g15
   have hs:X6C (c5,(c11.length:Int),c2,c5,3,c5,c6,c7,c8,c9,c10,c11,c12)=false:=Bool.eq_false_iff.2 fun h=>by
    have:=(XaH.1 h).2.2.1 i.toNat (by simp only;omega)
    simp only[Xg2,Bool.and_eq_true,decide_eq_true_eq]at this;omega
   grind[X06,X3V,Xb2]
 · rename_i g1 g2 g3 g4 g5 g6 g7 g8 g9 g10 i g11 g12 all g13 g15
   have hs:X6C (c5,(c11.length:Int),c2,c5,3,c5,c6,c7,c8,c9,c10,c11,c12)=true:=XaH.2 ⟨rfl,g9,fun j hj=>all j (by simp only at hj;omega),g10⟩
   have hw2:IntKind.wrap .i64 ((c11.length:Int) - 1)=(c11.length:Int) - 1:=w64 (by omega) (by omega)
   grind[X06,X3V,Xb2,X30,X3e]
theorem X1b.eq:EqS X4c Try.f47 [4] [X13.e,X1U.e,X1u.e,X1z.e,X1t.e] [] (fun i x=>X1b.L x) (fun i x=>X1b.F x):=by intro i x;kernel_rfl
theorem X1b.ok:X0I Try.prog 47 X4c:=X35 X1b.eq Try.func47 rfl (by kernel_rfl) fun i x h hi hw=>X1b.pure x h hw
def X1b.e:GE:=⟨47,X4c,⟨_,Try.func47,rfl,rfl⟩,X1b.ok⟩
end Go.Proofs.Ytegmokdppbagiaa.B
