/- Cores:right or not;copies. -/
import Derived.Test.YtegmokdppbagiaaCCore
set_option maxRecDepth 100000
set_option linter.unusedVariables false
set_option linter.unusedSimpArgs false
namespace Go.Proofs.Ytegmokdppbagiaa.B
open Go Go.Proofs.Ytegmokdppbagiaa.Bv
def XbZ{α:Type}(l:List α):Prop:=l.length≤1099511627776
def fId{α:Type}(l:List α):List α:=l
def X0u:Con:={A:=(.list T5q),shA:=[.one],R:=(.list T5q),shR:=[(false,1)],fresh:=[(0,101)],pre:=fun _ a=>(XbZ a),f:=some fun _ a=>((fId a),((),()))}
def X03.F(a0:(List U4q)):Prop:=(∀(b1:Bool),(b1=true→a0=[])→(X02 b1 (Eq (([]:(List U4q)),((),())) ((fId a0),((),()))) (List.length ([]:List U4q)+List.length a0≤9223372036854775807∧((List.length ([]:List U4q)+List.length a0)*24≤140737488355328∧(Eq ((([]:List U4q)++a0),((),())) ((fId a0),((),())))))))
theorem X03.pure(a0:(List U4q))(h:(XbZ a0))(hw:Wf X0u.A a0):X03.F a0:=by
 unfold X03.F
 have hp:a0.length≤1099511627776:=h
 simp only[Bs,B0,B1,Prod.mk.injEq,X04,fId,XbZ]
 repeat' (with_reducible (first | (refine And.intro ?_ ?_) | intro _))
 all_goals (try simp (disch:=omega) only[w64,wu8,tn0,tn1,tm1,tm2,List.length_append,List.length_cons,List.length_nil]at*)
 all_goals (try simp (disch:=omega) only[w64,wu8,tn0,tn1,tm1,tm2,List.length_append,List.length_cons,List.length_nil]at*)
 all_goals (try omega)
 all_goals (try grind[])
 all_goals (try simp_all)
theorem X03.eq:EqS X0u Try.f103 [47] [] [] noL (fun i x=>X03.F x):=by intro i x;kernel_rfl
theorem X03.ok:X0D Try.prog 103 X0u:=X2U X03.eq Try.func103 rfl (by kernel_rfl) fun i x h hi hw=>X03.pure x h hw
def X03.e:GE:=⟨103,X0u,⟨_,Try.func103,rfl,rfl⟩,X03.ok⟩
def X1R:Con:={A:=T6q,shA:=[.one],R:=T6q,shR:=[(false,1)],fresh:=[(0,3)],pre:=fun _ a=>(XbZ a),f:=some fun _ a=>((fId a),((),()))}
def X0f.F(a0:(List Int)):Prop:=(∀(b1:Bool),(b1=true→a0=[])→(X02 b1 (Eq (([]:(List Int)),((),())) ((fId a0),((),()))) (List.length ([]:List Int)+List.length a0≤9223372036854775807∧((List.length ([]:List Int)+List.length a0)*8≤140737488355328∧(Eq ((([]:List Int)++a0),((),())) ((fId a0),((),())))))))
theorem X0f.pure(a0:(List Int))(h:(XbZ a0))(hw:Wf X1R.A a0):X0f.F a0:=by
 unfold X0f.F
 have hp:a0.length≤1099511627776:=h
 simp only[Bs,B0,B1,Prod.mk.injEq,X04,fId,XbZ]
 repeat' (with_reducible (first | (refine And.intro ?_ ?_) | intro _))
 all_goals (try simp (disch:=omega) only[w64,wu8,tn0,tn1,tm1,tm2,List.length_append,List.length_cons,List.length_nil]at*)
 all_goals (try simp (disch:=omega) only[w64,wu8,tn0,tn1,tm1,tm2,List.length_append,List.length_cons,List.length_nil]at*)
 all_goals (try omega)
 all_goals (try grind[])
 all_goals (try simp_all)
theorem X0f.eq:EqS X1R Try.f104 [43] [] [] noL (fun i x=>X0f.F x):=by intro i x;kernel_rfl
theorem X0f.ok:X0D Try.prog 104 X1R:=X2U X0f.eq Try.func104 rfl (by kernel_rfl) fun i x h hi hw=>X0f.pure x h hw
def X0f.e:GE:=⟨104,X1R,⟨_,Try.func104,rfl,rfl⟩,X0f.ok⟩
def X6E:Con:={A:=T0q,shA:=[.agg 13],R:=XhD,shR:=[(true,5)],fresh:=[(4,101)],pre:=fun _ a=>(X2G a),f:=some fun _ a=>((X6O a),((),()))}
def X3l.F(a0:U1q):Prop:=((XbZ a0.2.2.2.2.2.2.2.2.1)∧∀r1,(Eq r1 ((fId a0.2.2.2.2.2.2.2.2.1),((),())))→(Eq ((a0.2.2.1,(a0.2.2.2.1,(a0.2.2.2.2.2.2.1,(a0.2.2.2.2.2.2.2.1,r1.1)))),((),())) ((X6O a0),((),()))))
theorem X3l.pure(a0:U1q)(h:(X2G a0))(hw:Wf X6E.A a0):X3l.F a0:=by
 unfold X3l.F
 obtain⟨p0,p1,p2,p3⟩:=h
 simp only[Bs,B0,B1,Prod.mk.injEq,X04,X6O,fId,X2G,XbZ]
 repeat' (with_reducible (first | (refine And.intro ?_ ?_) | intro _))
 all_goals (try simp (disch:=omega) only[w64,wu8,tn0,tn1,tm1,tm2,List.length_append,List.length_cons,List.length_nil]at*)
 all_goals (try simp (disch:=omega) only[w64,wu8,tn0,tn1,tm1,tm2,List.length_append,List.length_cons,List.length_nil]at*)
 all_goals (try omega)
 all_goals (try grind[])
theorem X3l.eq:EqS X6E Try.f100 [127] [X03.e] [] noL (fun i x=>X3l.F x):=by intro i x;kernel_rfl
theorem X3l.ok:X0D Try.prog 100 X6E:=X2U X3l.eq Try.func100 rfl (by kernel_rfl) fun i x h hi hw=>X3l.pure x h hw
def X3l.e:GE:=⟨100,X6E,⟨_,Try.func100,rfl,rfl⟩,X3l.ok⟩
def X4t:Con:={A:=T0q,shA:=[.agg 13],R:=XhD,shR:=[(true,5)],fresh:=[(4,101)],pre:=fun _ a=>(X2G a),f:=some fun _ a=>((X6O a),((),()))}
def X1K.F(a0:U1q):Prop:=(List.length ([]:List U4q)+List.length a0.2.2.2.2.2.2.2.2.1≤9223372036854775807∧((List.length ([]:List U4q)+List.length a0.2.2.2.2.2.2.2.2.1)*24≤140737488355328∧(Eq ((a0.2.2.1,(a0.2.2.2.1,(a0.2.2.2.2.2.2.1,(a0.2.2.2.2.2.2.2.1,(([]:List U4q)++a0.2.2.2.2.2.2.2.2.1))))),((),())) ((X6O a0),((),())))))
theorem X1K.pure(a0:U1q)(h:(X2G a0))(hw:Wf X4t.A a0):X1K.F a0:=by
 unfold X1K.F
 obtain⟨p0,p1,p2,p3⟩:=h
 simp only[Bs,B0,B1,Prod.mk.injEq,X04,X6O]
 repeat' (with_reducible (first | (refine And.intro ?_ ?_) | intro _))
 all_goals (try simp (disch:=omega) only[w64,wu8,tn0,tn1,tm1,tm2,List.length_append,List.length_cons,List.length_nil]at*)
 all_goals (try simp (disch:=omega) only[w64,wu8,tn0,tn1,tm1,tm2,List.length_append,List.length_cons,List.length_nil]at*)
 all_goals (try omega)
 all_goals (try grind[])
theorem X1K.eq:EqS X4t Try.f94 [127] [] [] noL (fun i x=>X1K.F x):=by intro i x;kernel_rfl
theorem X1K.ok:X0D Try.prog 94 X4t:=X2U X1K.eq Try.func94 rfl (by kernel_rfl) fun i x h hi hw=>X1K.pure x h hw
def X1K.e:GE:=⟨94,X4t,⟨_,Try.func94,rfl,rfl⟩,X1K.ok⟩
theorem XcY{c:X1Q}(h:c.2.2.2.2.2.2.2.2.2.2.1.length≤1099511627776):X8r c=true↔(∀j,j<c.2.2.2.2.2.2.2.2.2.2.1.length→XhO c j=true)∧Xd1 c.2.2.2.2.2.2.2.2.2.2.1 c.1=true∧2*(c.2.2.2.2.2.2.2.2.2.2.1.length:Int)≤c.2.1:=by
 unfold X8r
 rw[w64 (x:=2*(c.2.2.2.2.2.2.2.2.2.2.1.length:Int)) (by omega) (by omega)]
 simp only[Bool.and_eq_true,List.all_eq_true,List.mem_range,Bool.not_eq_true',decide_eq_false_iff_not,gt_iff_lt,Int.not_lt]
theorem X8x{c:X1Q}:X70 c=true↔(c.2.2.2.2.2.2.2.2.2.2.2.1.length:Int)=c.2.1∧(c.2.2.2.2.2.2.2.2.2.2.2.2.length:Int)=c.2.1∧(∀j,j<c.2.2.2.2.2.2.2.2.2.2.2.1.length→Xh1 c j=true)∧c.2.2.2.2.2.2.2.2.2.2.2.2.getD c.1.toNat 0=X05 c:=by
 unfold X70
 simp only[Bool.and_eq_true,List.all_eq_true,List.mem_range,decide_eq_true_eq]
def XaZ(c:X1Q):Bool:=if c.2.2.2.2.1=1 then fIn c.2.2.2.2.2.1 (-1) (c.2.1 - 1)&&(decide (c.2.2.2.2.2.1≠c.1)&&(decide (c.2.2.2.2.2.2.2.2.2.2.1=[])&&(decide (c.2.2.2.2.2.2.2.2.2.2.2.1=[])&&decide (c.2.2.2.2.2.2.2.2.2.2.2.2=[]))))
 else if c.2.2.2.2.1=2 then decide (1≤c.2.2.1)&&(decide (c.2.2.2.1=c.1)&&(decide (c.2.2.2.2.2.1= -1)&&(X8r c&&(decide (c.2.2.2.2.2.2.2.2.2.2.2.1=[])&&decide (c.2.2.2.2.2.2.2.2.2.2.2.2=[])))))
 else if c.2.2.2.2.1=3 then decide (1≤c.2.2.1)&&(decide (c.2.2.2.1=c.1)&&(decide (c.2.2.2.2.2.1=c.1)&&(decide (c.2.2.2.2.2.2.2.2.2.2.1=[])&&X70 c)))
 else false
def X3s(c:X1Q):Bool:=fIn c.2.1 1 5&&(X2M c c.1&&(X2g (X6O c)&&(decide (c.2.2.2.1<c.2.1)&&fIn c.2.2.2.2.2.2.2.2.2.1 c.2.2.2.2.2.2.1 (X05 c))))
def X06(c:X1Q):Bool:=X3s c&&XaZ c
def X4w:Con:={A:=T0q,shA:=[.agg 13],R:=.bool,shR:=[(false,1)],pre:=fun _ a=>(X2G a),f:=some fun _ a=>((X06 a),((),()))}
def X1E.F(a0:U1q):Prop:=(True∧∀r1,(Eq r1 ((fIn a0.2.1 1 5),((),())))→(X02 (!r1.1) (Eq (false,((),())) ((X06 a0),((),()))) (True∧∀r2,(Eq r2 ((X2M (a0.1,(a0.2.1,(a0.2.2.1,(a0.2.2.2.1,(a0.2.2.2.2.1,(a0.2.2.2.2.2.1,(a0.2.2.2.2.2.2.1,(a0.2.2.2.2.2.2.2.1,(a0.2.2.2.2.2.2.2.2.1,(a0.2.2.2.2.2.2.2.2.2.1,(a0.2.2.2.2.2.2.2.2.2.2.1,(a0.2.2.2.2.2.2.2.2.2.2.2.1,a0.2.2.2.2.2.2.2.2.2.2.2.2)))))))))))) a0.1),((),())))→(X02 (!r2.1) (Eq (false,((),())) ((X06 a0),((),()))) ((X2G (a0.1,(a0.2.1,(a0.2.2.1,(a0.2.2.2.1,(a0.2.2.2.2.1,(a0.2.2.2.2.2.1,(a0.2.2.2.2.2.2.1,(a0.2.2.2.2.2.2.2.1,(a0.2.2.2.2.2.2.2.2.1,(a0.2.2.2.2.2.2.2.2.2.1,(a0.2.2.2.2.2.2.2.2.2.2.1,(a0.2.2.2.2.2.2.2.2.2.2.2.1,a0.2.2.2.2.2.2.2.2.2.2.2.2)))))))))))))∧∀r3,(Eq r3 ((X6O (a0.1,(a0.2.1,(a0.2.2.1,(a0.2.2.2.1,(a0.2.2.2.2.1,(a0.2.2.2.2.2.1,(a0.2.2.2.2.2.2.1,(a0.2.2.2.2.2.2.2.1,(a0.2.2.2.2.2.2.2.2.1,(a0.2.2.2.2.2.2.2.2.2.1,(a0.2.2.2.2.2.2.2.2.2.2.1,(a0.2.2.2.2.2.2.2.2.2.2.2.1,a0.2.2.2.2.2.2.2.2.2.2.2.2))))))))))))),((),())))→(True∧∀r4,(Eq r4 ((X2g (r3.1.1,(r3.1.2.1,(r3.1.2.2.1,(r3.1.2.2.2.1,r3.1.2.2.2.2))))),((),())))→(X02 (!r4.1) (Eq (false,((),())) ((X06 a0),((),()))) (X02 (decide (a0.2.2.2.1≥a0.2.1)) (Eq (false,((),())) ((X06 a0),((),()))) (True∧∀r5,(Eq r5 ((X05 (a0.1,(a0.2.1,(a0.2.2.1,(a0.2.2.2.1,(a0.2.2.2.2.1,(a0.2.2.2.2.2.1,(a0.2.2.2.2.2.2.1,(a0.2.2.2.2.2.2.2.1,(a0.2.2.2.2.2.2.2.2.1,(a0.2.2.2.2.2.2.2.2.2.1,(a0.2.2.2.2.2.2.2.2.2.2.1,(a0.2.2.2.2.2.2.2.2.2.2.2.1,a0.2.2.2.2.2.2.2.2.2.2.2.2))))))))))))),((),())))→(True∧∀r6,(Eq r6 ((fIn a0.2.2.2.2.2.2.2.2.2.1 a0.2.2.2.2.2.2.1 r5.1),((),())))→(X02 (!r6.1) (Eq (false,((),())) ((X06 a0),((),()))) (X02 (a0.2.2.2.2.1==(1:Int)) (X02 (a0.2.2.2.2.2.1==((-1):Int)) (Eq (((wI ((wI ((ln a0.2.2.2.2.2.2.2.2.2.2.1)+(ln a0.2.2.2.2.2.2.2.2.2.2.2.1)))+(ln a0.2.2.2.2.2.2.2.2.2.2.2.2)))==(0:Int)),((),())) ((X06 a0),((),()))) (True∧∀r7,(Eq r7 ((X2M (a0.1,(a0.2.1,(a0.2.2.1,(a0.2.2.2.1,(a0.2.2.2.2.1,(a0.2.2.2.2.2.1,(a0.2.2.2.2.2.2.1,(a0.2.2.2.2.2.2.2.1,(a0.2.2.2.2.2.2.2.2.1,(a0.2.2.2.2.2.2.2.2.2.1,(a0.2.2.2.2.2.2.2.2.2.2.1,(a0.2.2.2.2.2.2.2.2.2.2.2.1,a0.2.2.2.2.2.2.2.2.2.2.2.2)))))))))))) a0.2.2.2.2.2.1),((),())))→(X02 r7.1 (X02 (a0.2.2.2.2.2.1 !=a0.1) (Eq (((wI ((wI ((ln a0.2.2.2.2.2.2.2.2.2.2.1)+(ln a0.2.2.2.2.2.2.2.2.2.2.2.1)))+(ln a0.2.2.2.2.2.2.2.2.2.2.2.2)))==(0:Int)),((),())) ((X06 a0),((),()))) (Eq (false,((),())) ((X06 a0),((),())))) (Eq (false,((),())) ((X06 a0),((),())))))) (X02 (a0.2.2.2.2.1==(2:Int)) (X02 (decide (a0.2.2.1≥(1:Int))) (X02 (a0.2.2.2.1==a0.1) (X02 (a0.2.2.2.2.2.1==((-1):Int)) ((X2G (a0.1,(a0.2.1,(a0.2.2.1,(a0.2.2.2.1,(a0.2.2.2.2.1,(a0.2.2.2.2.2.1,(a0.2.2.2.2.2.2.1,(a0.2.2.2.2.2.2.2.1,(a0.2.2.2.2.2.2.2.2.1,(a0.2.2.2.2.2.2.2.2.2.1,(a0.2.2.2.2.2.2.2.2.2.2.1,(a0.2.2.2.2.2.2.2.2.2.2.2.1,a0.2.2.2.2.2.2.2.2.2.2.2.2)))))))))))))∧∀r8,(Eq r8 ((X8r (a0.1,(a0.2.1,(a0.2.2.1,(a0.2.2.2.1,(a0.2.2.2.2.1,(a0.2.2.2.2.2.1,(a0.2.2.2.2.2.2.1,(a0.2.2.2.2.2.2.2.1,(a0.2.2.2.2.2.2.2.2.1,(a0.2.2.2.2.2.2.2.2.2.1,(a0.2.2.2.2.2.2.2.2.2.2.1,(a0.2.2.2.2.2.2.2.2.2.2.2.1,a0.2.2.2.2.2.2.2.2.2.2.2.2))))))))))))),((),())))→(X02 r8.1 (Eq (((wI ((ln a0.2.2.2.2.2.2.2.2.2.2.2.1)+(ln a0.2.2.2.2.2.2.2.2.2.2.2.2)))==(0:Int)),((),())) ((X06 a0),((),()))) (Eq (false,((),())) ((X06 a0),((),()))))) (Eq (false,((),())) ((X06 a0),((),())))) (Eq (false,((),())) ((X06 a0),((),())))) (Eq (false,((),())) ((X06 a0),((),())))) (X02 (a0.2.2.2.2.1==(3:Int)) (X02 (decide (a0.2.2.1≥(1:Int))) (X02 (a0.2.2.2.1==a0.1) (X02 (a0.2.2.2.2.2.1==a0.1) (X02 ((ln a0.2.2.2.2.2.2.2.2.2.2.1)==(0:Int)) ((XfU (a0.1,(a0.2.1,(a0.2.2.1,(a0.2.2.2.1,(a0.2.2.2.2.1,(a0.2.2.2.2.2.1,(a0.2.2.2.2.2.2.1,(a0.2.2.2.2.2.2.2.1,(a0.2.2.2.2.2.2.2.2.1,(a0.2.2.2.2.2.2.2.2.2.1,(a0.2.2.2.2.2.2.2.2.2.2.1,(a0.2.2.2.2.2.2.2.2.2.2.2.1,a0.2.2.2.2.2.2.2.2.2.2.2.2)))))))))))))∧∀r9,(Eq r9 ((X70 (a0.1,(a0.2.1,(a0.2.2.1,(a0.2.2.2.1,(a0.2.2.2.2.1,(a0.2.2.2.2.2.1,(a0.2.2.2.2.2.2.1,(a0.2.2.2.2.2.2.2.1,(a0.2.2.2.2.2.2.2.2.1,(a0.2.2.2.2.2.2.2.2.2.1,(a0.2.2.2.2.2.2.2.2.2.2.1,(a0.2.2.2.2.2.2.2.2.2.2.2.1,a0.2.2.2.2.2.2.2.2.2.2.2.2))))))))))))),((),())))→(Eq (r9.1,((),())) ((X06 a0),((),())))) (Eq (false,((),())) ((X06 a0),((),())))) (Eq (false,((),())) ((X06 a0),((),())))) (Eq (false,((),())) ((X06 a0),((),())))) (Eq (false,((),())) ((X06 a0),((),())))) (Eq (false,((),())) ((X06 a0),((),())))))))))))))))))
theorem X1E.pure(a0:U1q)(h:(X2G a0))(hw:Wf X4w.A a0):X1E.F a0:=by
 delta X1E.F ln wI
 have hpc:X2G a0:=h
 obtain⟨p0,p1,p2,p3⟩:=h
 obtain⟨c0,c1,c2,c3,c4,c5,c6,c7,c8,c9,c10,c11,c12⟩:=a0
 simp only at p0 p1 p2 p3
 have hW:fIn c1 1 5=true→IntKind.wrap .i64 (c1 - 1)=c1 - 1:=fun h=>by
  have:=X34.1 h
  exact w64 (by omega) (by omega)
 have e10:c10=[]↔c10.length=0:=List.length_eq_zero_iff.symm
 have e11:c11=[]↔c11.length=0:=List.length_eq_zero_iff.symm
 have e12:c12=[]↔c12.length=0:=List.length_eq_zero_iff.symm
 have hz:((c10.length:Int)+(c11.length:Int)+(c12.length:Int)==0)=(decide (c10=[])&&(decide (c11=[])&&decide (c12=[]))):=by
  rw[Bool.eq_iff_iff];simp only[beq_iff_eq,Bool.and_eq_true,decide_eq_true_eq,e10,e11,e12];omega
 have hz2:((c11.length:Int)+(c12.length:Int)==0)=(decide (c11=[])&&decide (c12=[])):=by
  rw[Bool.eq_iff_iff];simp only[beq_iff_eq,Bool.and_eq_true,decide_eq_true_eq,e11,e12];omega
 have hz3:((c12.length:Int)==0)=decide (c12=[]):=by
  rw[Bool.eq_iff_iff];simp only[beq_iff_eq,decide_eq_true_eq,e12];omega
 have hW2:IntKind.wrap .i64 (2*(c10.length:Int))=2*(c10.length:Int):=w64 (by omega) (by omega)
 simp only[Bs,B0,B1,Prod.mk.injEq,X04,XfU,Prod.eta,X2M]
 repeat' (with_reducible (first | (refine And.intro ?_ ?_) | intro _))
 all_goals (try simp (disch:=omega) only[w64,wu8,tn0,tn1,tm1,tm2,List.length_append,List.length_cons,List.length_nil,hz,hz2,hz3]at*)
 all_goals (try simp (disch:=omega) only[w64,wu8,tn0,tn1,tm1,tm2,List.length_append,List.length_cons,List.length_nil,hz,hz2,hz3]at*)
 all_goals (try omega)
 all_goals (try grind[X06,X3s,XaZ,X34,X2M,X05])
theorem X1E.eq:EqS X4w Try.f52 [4] [X0A.e,X1k.e,X1u.e,X26.e,X3l.e,X1b.e,X1g.e] [] noL (fun i x=>X1E.F x):=by intro i x;kernel_rfl
theorem X1E.ok:X0D Try.prog 52 X4w:=X2U X1E.eq Try.func52 rfl (by kernel_rfl) fun i x h hi hw=>X1E.pure x h hw
def X1E.e:GE:=⟨52,X4w,⟨_,Try.func52,rfl,rfl⟩,X1E.ok⟩
def X4u:Con:={A:=T0q,shA:=[.agg 13],R:=.bool,shR:=[(false,1)],pre:=fun _ a=>(X2G a),f:=some fun _ a=>((X06 a),((),()))}
def X1c.F(a0:U1q):Prop:=(True∧∀r1,(Eq r1 ((fIn a0.2.1 1 5),((),())))→(X02 (!r1.1) (Eq (false,((),())) ((X06 a0),((),()))) (True∧∀r2,(Eq r2 ((fIn a0.1 0 (wI (a0.2.1 - (1:Int)))),((),())))→(X02 (!r2.1) (Eq (false,((),())) ((X06 a0),((),()))) ((X2G (a0.1,(a0.2.1,(a0.2.2.1,(a0.2.2.2.1,(a0.2.2.2.2.1,(a0.2.2.2.2.2.1,(a0.2.2.2.2.2.2.1,(a0.2.2.2.2.2.2.2.1,(a0.2.2.2.2.2.2.2.2.1,(a0.2.2.2.2.2.2.2.2.2.1,(a0.2.2.2.2.2.2.2.2.2.2.1,(a0.2.2.2.2.2.2.2.2.2.2.2.1,a0.2.2.2.2.2.2.2.2.2.2.2.2)))))))))))))∧∀r3,(Eq r3 ((X6O (a0.1,(a0.2.1,(a0.2.2.1,(a0.2.2.2.1,(a0.2.2.2.2.1,(a0.2.2.2.2.2.1,(a0.2.2.2.2.2.2.1,(a0.2.2.2.2.2.2.2.1,(a0.2.2.2.2.2.2.2.2.1,(a0.2.2.2.2.2.2.2.2.2.1,(a0.2.2.2.2.2.2.2.2.2.2.1,(a0.2.2.2.2.2.2.2.2.2.2.2.1,a0.2.2.2.2.2.2.2.2.2.2.2.2))))))))))))),((),())))→(True∧∀r4,(Eq r4 ((X2g (r3.1.1,(r3.1.2.1,(r3.1.2.2.1,(r3.1.2.2.2.1,r3.1.2.2.2.2))))),((),())))→(X02 (!r4.1) (Eq (false,((),())) ((X06 a0),((),()))) (X02 (decide (a0.2.2.2.1≥a0.2.1)) (Eq (false,((),())) ((X06 a0),((),()))) (True∧∀r5,(Eq r5 ((X05 (a0.1,(a0.2.1,(a0.2.2.1,(a0.2.2.2.1,(a0.2.2.2.2.1,(a0.2.2.2.2.2.1,(a0.2.2.2.2.2.2.1,(a0.2.2.2.2.2.2.2.1,(a0.2.2.2.2.2.2.2.2.1,(a0.2.2.2.2.2.2.2.2.2.1,(a0.2.2.2.2.2.2.2.2.2.2.1,(a0.2.2.2.2.2.2.2.2.2.2.2.1,a0.2.2.2.2.2.2.2.2.2.2.2.2))))))))))))),((),())))→(True∧∀r6,(Eq r6 ((fIn a0.2.2.2.2.2.2.2.2.2.1 a0.2.2.2.2.2.2.1 r5.1),((),())))→(X02 (!r6.1) (Eq (false,((),())) ((X06 a0),((),()))) (X02 (a0.2.2.2.2.1==(1:Int)) (True∧∀r7,(Eq r7 ((fIn a0.2.2.2.2.2.1 (-1) (wI (a0.2.1 - (1:Int)))),((),())))→(X02 r7.1 (X02 (a0.2.2.2.2.2.1 !=a0.1) (X02 ((ln a0.2.2.2.2.2.2.2.2.2.2.1)==(0:Int)) (X02 ((ln a0.2.2.2.2.2.2.2.2.2.2.2.1)==(0:Int)) (Eq (((ln a0.2.2.2.2.2.2.2.2.2.2.2.2)==(0:Int)),((),())) ((X06 a0),((),()))) (Eq (false,((),())) ((X06 a0),((),())))) (Eq (false,((),())) ((X06 a0),((),())))) (Eq (false,((),())) ((X06 a0),((),())))) (Eq (false,((),())) ((X06 a0),((),()))))) (X02 (a0.2.2.2.2.1==(2:Int)) (eS [(1,.box 2 0)] [(1,.box 2 0)]∧((skI a0 0 a0.1 a0.2.1 a0.2.2.1 a0.2.2.2.1 a0.2.2.2.2.1 a0.2.2.2.2.2.1 a0.2.2.2.2.2.2.1 a0.2.2.2.2.2.2.2.1 a0.2.2.2.2.2.2.2.2.1 a0.2.2.2.2.2.2.2.2.2.1 a0.2.2.2.2.2.2.2.2.2.2.1 a0.2.2.2.2.2.2.2.2.2.2.2.1 a0.2.2.2.2.2.2.2.2.2.2.2.2)∧∀(y8:(Int×U1q)),(skI a0 y8.1 y8.2.1 y8.2.2.1 y8.2.2.2.1 y8.2.2.2.2.1 y8.2.2.2.2.2.1 y8.2.2.2.2.2.2.1 y8.2.2.2.2.2.2.2.1 y8.2.2.2.2.2.2.2.2.1 y8.2.2.2.2.2.2.2.2.2.1 y8.2.2.2.2.2.2.2.2.2.2.1 y8.2.2.2.2.2.2.2.2.2.2.2.1 y8.2.2.2.2.2.2.2.2.2.2.2.2.1 y8.2.2.2.2.2.2.2.2.2.2.2.2.2)→(X02 (decide (y8.1<(ln y8.2.2.2.2.2.2.2.2.2.2.2.1))) (0≤y8.1∧(y8.1<(ln y8.2.2.2.2.2.2.2.2.2.2.2.1)∧(True∧∀r9,(Eq r9 ((fIn (List.getD y8.2.2.2.2.2.2.2.2.2.2.2.1 (tN y8.1) 0) 0 (wI (y8.2.2.1 - (1:Int)))),((),())))→(X02 (!r9.1) (Eq (false,((),())) ((X06 a0),((),()))) (X02 (decide (y8.1>(0:Int))) (0≤(wI (y8.1 - (1:Int)))∧((wI (y8.1 - (1:Int)))<(ln y8.2.2.2.2.2.2.2.2.2.2.2.1)∧(0≤y8.1∧(y8.1<(ln y8.2.2.2.2.2.2.2.2.2.2.2.1)∧(X02 (decide ((List.getD y8.2.2.2.2.2.2.2.2.2.2.2.1 (tN (wI (y8.1 - (1:Int)))) 0)≥(List.getD y8.2.2.2.2.2.2.2.2.2.2.2.1 (tN y8.1) 0))) (Eq (false,((),())) ((X06 a0),((),()))) (eS [(1,.box 2 0)] [(1,.box 2 0)]∧(skI a0 (wI (y8.1+(1:Int))) y8.2.1 y8.2.2.1 y8.2.2.2.1 y8.2.2.2.2.1 y8.2.2.2.2.2.1 y8.2.2.2.2.2.2.1 y8.2.2.2.2.2.2.2.1 y8.2.2.2.2.2.2.2.2.1 y8.2.2.2.2.2.2.2.2.2.1 y8.2.2.2.2.2.2.2.2.2.2.1 y8.2.2.2.2.2.2.2.2.2.2.2.1 y8.2.2.2.2.2.2.2.2.2.2.2.2.1 y8.2.2.2.2.2.2.2.2.2.2.2.2.2)∧(skM a0 (wI (y8.1+(1:Int))) y8.2.1 y8.2.2.1 y8.2.2.2.1 y8.2.2.2.2.1 y8.2.2.2.2.2.1 y8.2.2.2.2.2.2.1 y8.2.2.2.2.2.2.2.1 y8.2.2.2.2.2.2.2.2.1 y8.2.2.2.2.2.2.2.2.2.1 y8.2.2.2.2.2.2.2.2.2.2.1 y8.2.2.2.2.2.2.2.2.2.2.2.1 y8.2.2.2.2.2.2.2.2.2.2.2.2.1 y8.2.2.2.2.2.2.2.2.2.2.2.2.2)<(skM a0 y8.1 y8.2.1 y8.2.2.1 y8.2.2.2.1 y8.2.2.2.2.1 y8.2.2.2.2.2.1 y8.2.2.2.2.2.2.1 y8.2.2.2.2.2.2.2.1 y8.2.2.2.2.2.2.2.2.1 y8.2.2.2.2.2.2.2.2.2.1 y8.2.2.2.2.2.2.2.2.2.2.1 y8.2.2.2.2.2.2.2.2.2.2.2.1 y8.2.2.2.2.2.2.2.2.2.2.2.2.1 y8.2.2.2.2.2.2.2.2.2.2.2.2.2))))))) (eS [(1,.box 2 0)] [(1,.box 2 0)]∧(skI a0 (wI (y8.1+(1:Int))) y8.2.1 y8.2.2.1 y8.2.2.2.1 y8.2.2.2.2.1 y8.2.2.2.2.2.1 y8.2.2.2.2.2.2.1 y8.2.2.2.2.2.2.2.1 y8.2.2.2.2.2.2.2.2.1 y8.2.2.2.2.2.2.2.2.2.1 y8.2.2.2.2.2.2.2.2.2.2.1 y8.2.2.2.2.2.2.2.2.2.2.2.1 y8.2.2.2.2.2.2.2.2.2.2.2.2.1 y8.2.2.2.2.2.2.2.2.2.2.2.2.2)∧(skM a0 (wI (y8.1+(1:Int))) y8.2.1 y8.2.2.1 y8.2.2.2.1 y8.2.2.2.2.1 y8.2.2.2.2.2.1 y8.2.2.2.2.2.2.1 y8.2.2.2.2.2.2.2.1 y8.2.2.2.2.2.2.2.2.1 y8.2.2.2.2.2.2.2.2.2.1 y8.2.2.2.2.2.2.2.2.2.2.1 y8.2.2.2.2.2.2.2.2.2.2.2.1 y8.2.2.2.2.2.2.2.2.2.2.2.2.1 y8.2.2.2.2.2.2.2.2.2.2.2.2.2)<(skM a0 y8.1 y8.2.1 y8.2.2.1 y8.2.2.2.1 y8.2.2.2.2.1 y8.2.2.2.2.2.1 y8.2.2.2.2.2.2.1 y8.2.2.2.2.2.2.2.1 y8.2.2.2.2.2.2.2.2.1 y8.2.2.2.2.2.2.2.2.2.1 y8.2.2.2.2.2.2.2.2.2.2.1 y8.2.2.2.2.2.2.2.2.2.2.2.1 y8.2.2.2.2.2.2.2.2.2.2.2.2.1 y8.2.2.2.2.2.2.2.2.2.2.2.2.2))))))) (X02 (decide (y8.2.2.2.1≥(1:Int))) (X02 (y8.2.2.2.2.1==y8.2.1) (X02 (y8.2.2.2.2.2.2.1==((-1):Int)) (True∧∀r10,(Eq r10 ((Xd1 y8.2.2.2.2.2.2.2.2.2.2.2.1 y8.2.1),((),())))→(X02 r10.1 (X02 (decide ((wI ((2:Int)*(ln y8.2.2.2.2.2.2.2.2.2.2.2.1)))≤y8.2.2.1)) (X02 ((ln y8.2.2.2.2.2.2.2.2.2.2.2.2.1)==(0:Int)) (Eq (((ln y8.2.2.2.2.2.2.2.2.2.2.2.2.2)==(0:Int)),((),())) ((X06 a0),((),()))) (Eq (false,((),())) ((X06 a0),((),())))) (Eq (false,((),())) ((X06 a0),((),())))) (Eq (false,((),())) ((X06 a0),((),()))))) (Eq (false,((),())) ((X06 a0),((),())))) (Eq (false,((),())) ((X06 a0),((),())))) (Eq (false,((),())) ((X06 a0),((),()))))))) (X02 (a0.2.2.2.2.1==(3:Int)) (X02 (decide (a0.2.2.1<(1:Int))) (Eq (false,((),())) ((X06 a0),((),()))) (X02 (a0.2.2.2.1 !=a0.1) (Eq (false,((),())) ((X06 a0),((),()))) (X02 (a0.2.2.2.2.2.1 !=a0.1) (Eq (false,((),())) ((X06 a0),((),()))) (X02 (decide ((ln a0.2.2.2.2.2.2.2.2.2.2.1)>(0:Int))) (Eq (false,((),())) ((X06 a0),((),()))) (X02 ((ln a0.2.2.2.2.2.2.2.2.2.2.2.1)!=a0.2.1) (Eq (false,((),())) ((X06 a0),((),()))) (X02 ((ln a0.2.2.2.2.2.2.2.2.2.2.2.2)!=a0.2.1) (Eq (false,((),())) ((X06 a0),((),()))) (0≤a0.1∧(a0.1<(ln a0.2.2.2.2.2.2.2.2.2.2.2.2)∧(True∧∀r11,(Eq r11 ((X05 (a0.1,(a0.2.1,(a0.2.2.1,(a0.2.2.2.1,(a0.2.2.2.2.1,(a0.2.2.2.2.2.1,(a0.2.2.2.2.2.2.1,(a0.2.2.2.2.2.2.2.1,(a0.2.2.2.2.2.2.2.2.1,(a0.2.2.2.2.2.2.2.2.2.1,(a0.2.2.2.2.2.2.2.2.2.2.1,(a0.2.2.2.2.2.2.2.2.2.2.2.1,a0.2.2.2.2.2.2.2.2.2.2.2.2))))))))))))),((),())))→(X02 ((List.getD a0.2.2.2.2.2.2.2.2.2.2.2.2 (tN a0.1) 0)!=r11.1) (Eq (false,((),())) ((X06 a0),((),()))) (eS [(1,.box 2 0)] [(1,.box 2 0)]∧((ldI a0 0 a0.1 a0.2.1 a0.2.2.1 a0.2.2.2.1 a0.2.2.2.2.1 a0.2.2.2.2.2.1 a0.2.2.2.2.2.2.1 a0.2.2.2.2.2.2.2.1 a0.2.2.2.2.2.2.2.2.1 a0.2.2.2.2.2.2.2.2.2.1 a0.2.2.2.2.2.2.2.2.2.2.1 a0.2.2.2.2.2.2.2.2.2.2.2.1 a0.2.2.2.2.2.2.2.2.2.2.2.2)∧∀(y12:(Int×U1q)),(ldI a0 y12.1 y12.2.1 y12.2.2.1 y12.2.2.2.1 y12.2.2.2.2.1 y12.2.2.2.2.2.1 y12.2.2.2.2.2.2.1 y12.2.2.2.2.2.2.2.1 y12.2.2.2.2.2.2.2.2.1 y12.2.2.2.2.2.2.2.2.2.1 y12.2.2.2.2.2.2.2.2.2.2.1 y12.2.2.2.2.2.2.2.2.2.2.2.1 y12.2.2.2.2.2.2.2.2.2.2.2.2.1 y12.2.2.2.2.2.2.2.2.2.2.2.2.2)→(X02 (decide (y12.1<y12.2.2.1)) (0≤y12.1∧(y12.1<(ln y12.2.2.2.2.2.2.2.2.2.2.2.2.2)∧(X02 (decide ((List.getD y12.2.2.2.2.2.2.2.2.2.2.2.2.2 (tN y12.1) 0)<(0:Int))) (Eq (false,((),())) ((X06 a0),((),()))) (0≤y12.1∧(y12.1<(ln y12.2.2.2.2.2.2.2.2.2.2.2.2.1)∧(0≤y12.1∧(y12.1<(ln y12.2.2.2.2.2.2.2.2.2.2.2.2.2)∧(X02 (decide ((List.getD y12.2.2.2.2.2.2.2.2.2.2.2.2.1 (tN y12.1) 0)≤(List.getD y12.2.2.2.2.2.2.2.2.2.2.2.2.2 (tN y12.1) 0))) (Eq (false,((),())) ((X06 a0),((),()))) (0≤y12.1∧(y12.1<(ln y12.2.2.2.2.2.2.2.2.2.2.2.2.1)∧(True∧∀r13,(Eq r13 ((X05 (y12.2.1,(y12.2.2.1,(y12.2.2.2.1,(y12.2.2.2.2.1,(y12.2.2.2.2.2.1,(y12.2.2.2.2.2.2.1,(y12.2.2.2.2.2.2.2.1,(y12.2.2.2.2.2.2.2.2.1,(y12.2.2.2.2.2.2.2.2.2.1,(y12.2.2.2.2.2.2.2.2.2.2.1,(y12.2.2.2.2.2.2.2.2.2.2.2.1,(y12.2.2.2.2.2.2.2.2.2.2.2.2.1,y12.2.2.2.2.2.2.2.2.2.2.2.2.2))))))))))))),((),())))→(X02 (decide ((List.getD y12.2.2.2.2.2.2.2.2.2.2.2.2.1 (tN y12.1) 0)>(wI (r13.1+(1:Int))))) (Eq (false,((),())) ((X06 a0),((),()))) (eS [(1,.box 2 0)] [(1,.box 2 0)]∧(ldI a0 (wI (y12.1+(1:Int))) y12.2.1 y12.2.2.1 y12.2.2.2.1 y12.2.2.2.2.1 y12.2.2.2.2.2.1 y12.2.2.2.2.2.2.1 y12.2.2.2.2.2.2.2.1 y12.2.2.2.2.2.2.2.2.1 y12.2.2.2.2.2.2.2.2.2.1 y12.2.2.2.2.2.2.2.2.2.2.1 y12.2.2.2.2.2.2.2.2.2.2.2.1 y12.2.2.2.2.2.2.2.2.2.2.2.2.1 y12.2.2.2.2.2.2.2.2.2.2.2.2.2)∧(ldM a0 (wI (y12.1+(1:Int))) y12.2.1 y12.2.2.1 y12.2.2.2.1 y12.2.2.2.2.1 y12.2.2.2.2.2.1 y12.2.2.2.2.2.2.1 y12.2.2.2.2.2.2.2.1 y12.2.2.2.2.2.2.2.2.1 y12.2.2.2.2.2.2.2.2.2.1 y12.2.2.2.2.2.2.2.2.2.2.1 y12.2.2.2.2.2.2.2.2.2.2.2.1 y12.2.2.2.2.2.2.2.2.2.2.2.2.1 y12.2.2.2.2.2.2.2.2.2.2.2.2.2)<(ldM a0 y12.1 y12.2.1 y12.2.2.1 y12.2.2.2.1 y12.2.2.2.2.1 y12.2.2.2.2.2.1 y12.2.2.2.2.2.2.1 y12.2.2.2.2.2.2.2.1 y12.2.2.2.2.2.2.2.2.1 y12.2.2.2.2.2.2.2.2.2.1 y12.2.2.2.2.2.2.2.2.2.2.1 y12.2.2.2.2.2.2.2.2.2.2.2.1 y12.2.2.2.2.2.2.2.2.2.2.2.2.1 y12.2.2.2.2.2.2.2.2.2.2.2.2.2)))))))))))))) (Eq (true,((),())) ((X06 a0),((),())))))))))))))))) (Eq (false,((),())) ((X06 a0),((),())))))))))))))))))
def X1c.L(a0:U1q):Nat→Option X0i:=fun p=>Go.Proofs.Ytegmokdppbagiaa.Bv.look p [(7538,{kp:={hold:=[1],slots:=[3],boxes:=[2],rows:=[]},T:=(.pair (.int .i64) T0q),I:=fun st y=>skI a0 y.1 y.2.1 y.2.2.1 y.2.2.2.1 y.2.2.2.2.1 y.2.2.2.2.2.1 y.2.2.2.2.2.2.1 y.2.2.2.2.2.2.2.1 y.2.2.2.2.2.2.2.2.1 y.2.2.2.2.2.2.2.2.2.1 y.2.2.2.2.2.2.2.2.2.2.1 y.2.2.2.2.2.2.2.2.2.2.2.1 y.2.2.2.2.2.2.2.2.2.2.2.2.1 y.2.2.2.2.2.2.2.2.2.2.2.2.2,μ:=fun st y=>skM a0 y.1 y.2.1 y.2.2.1 y.2.2.2.1 y.2.2.2.2.1 y.2.2.2.2.2.1 y.2.2.2.2.2.2.1 y.2.2.2.2.2.2.2.1 y.2.2.2.2.2.2.2.2.1 y.2.2.2.2.2.2.2.2.2.1 y.2.2.2.2.2.2.2.2.2.2.1 y.2.2.2.2.2.2.2.2.2.2.2.1 y.2.2.2.2.2.2.2.2.2.2.2.2.1 y.2.2.2.2.2.2.2.2.2.2.2.2.2}),(60394,{kp:={hold:=[1],slots:=[4],boxes:=[2],rows:=[]},T:=(.pair (.int .i64) T0q),I:=fun st y=>ldI a0 y.1 y.2.1 y.2.2.1 y.2.2.2.1 y.2.2.2.2.1 y.2.2.2.2.2.1 y.2.2.2.2.2.2.1 y.2.2.2.2.2.2.2.1 y.2.2.2.2.2.2.2.2.1 y.2.2.2.2.2.2.2.2.2.1 y.2.2.2.2.2.2.2.2.2.2.1 y.2.2.2.2.2.2.2.2.2.2.2.1 y.2.2.2.2.2.2.2.2.2.2.2.2.1 y.2.2.2.2.2.2.2.2.2.2.2.2.2,μ:=fun st y=>ldM a0 y.1 y.2.1 y.2.2.1 y.2.2.2.1 y.2.2.2.2.1 y.2.2.2.2.2.1 y.2.2.2.2.2.2.1 y.2.2.2.2.2.2.2.1 y.2.2.2.2.2.2.2.2.1 y.2.2.2.2.2.2.2.2.2.1 y.2.2.2.2.2.2.2.2.2.2.1 y.2.2.2.2.2.2.2.2.2.2.2.1 y.2.2.2.2.2.2.2.2.2.2.2.2.1 y.2.2.2.2.2.2.2.2.2.2.2.2.2})]
theorem X1c.pure(a0:U1q)(h:(X2G a0))(hw:Wf X4u.A a0):X1c.F a0:=by
 delta X1c.F ln tN wI eS
 have hpc:X2G a0:=h
 obtain⟨p0,p1,p2,p3⟩:=h
 obtain⟨c0,c1,c2,c3,c4,c5,c6,c7,c8,c9,c10,c11,c12⟩:=a0
 simp only at p0 p1 p2 p3
 have hW:fIn c1 1 5=true→IntKind.wrap .i64 (c1 - 1)=c1 - 1:=fun h=>by
  have:=X34.1 h
  exact w64 (by omega) (by omega)
 have e10:c10=[]↔c10.length=0:=List.length_eq_zero_iff.symm
 have e11:c11=[]↔c11.length=0:=List.length_eq_zero_iff.symm
 have e12:c12=[]↔c12.length=0:=List.length_eq_zero_iff.symm
 have hz:((c10.length:Int)+(c11.length:Int)+(c12.length:Int)==0)=(decide (c10=[])&&(decide (c11=[])&&decide (c12=[]))):=by
  rw[Bool.eq_iff_iff];simp only[beq_iff_eq,Bool.and_eq_true,decide_eq_true_eq,e10,e11,e12];omega
 have hz2:((c11.length:Int)+(c12.length:Int)==0)=(decide (c11=[])&&decide (c12=[])):=by
  rw[Bool.eq_iff_iff];simp only[beq_iff_eq,Bool.and_eq_true,decide_eq_true_eq,e11,e12];omega
 have hz3:((c12.length:Int)==0)=decide (c12=[]):=by
  rw[Bool.eq_iff_iff];simp only[beq_iff_eq,decide_eq_true_eq,e12];omega
 have hW2:IntKind.wrap .i64 (2*(c10.length:Int))=2*(c10.length:Int):=w64 (by omega) (by omega)
 simp only[Bs,B0,B1,Prod.mk.injEq,X04,skI,skM,ldI,ldM,Prod.eta,Prod.forall,and_imp]
 repeat' (with_reducible (first | (refine And.intro ?_ ?_) | (intro hsub;subst hsub) | intro _))
 all_goals (try simp (disch:=omega) only[w64,wu8,tn0,tn1,tm1,tm2,List.length_append,List.length_cons,List.length_nil,hz,hz2,hz3]at*)
 all_goals (try simp (disch:=omega) only[w64,wu8,tn0,tn1,tm1,tm2,List.length_append,List.length_cons,List.length_nil,hz,hz2,hz3]at*)
 all_goals (try omega)
 all_goals (try grind[X06,X3s,XaZ,X34,X2M,X05,X8r,X70,XhO,Xh1,XgT,XgO])
 · rename_i g1 g2 g3 i g4 g5 g6 g7 g8 g9 g10 all has g11 g12
   have hs:=(XcY (c:=(c3,c1,c2,c3,2,-1,c6,c7,c8,c9,c10,c11,c12)) p1).2 ⟨fun j hj=>all j (by simp only at hj;omega),has,g12⟩
   grind[X06,X3s,XaZ,X34,X2M]
 · rename_i g1 g2 g3 i g4 g5 g6 g7 g8 g9 g10 all has g12
   have hs:X8r (c3,c1,c2,c3,2,-1,c6,c7,c8,c9,c10,c11,c12)=false:=Bool.eq_false_iff.2 fun h=>g12 ((XcY p1).1 h).2.2
   grind[X06,X3s,XaZ,X34,X2M]
 · rename_i g1 g2 g3 g4 g5 g6 g7 g8 g9 g10 i g11 g12 all g13 g14 g15
   have hs:X70 (c5,(c11.length:Int),c2,c5,3,c5,c6,c7,c8,c9,c10,c11,c12)=false:=Bool.eq_false_iff.2 fun h=>by
    have:=(X8x.1 h).2.2.1 i.toNat (by simp only;omega)
    simp only[Xh1,Bool.and_eq_true,decide_eq_true_eq]at this;omega
   grind[X06,X3s,XaZ]
 · rename_i g1 g2 g3 g4 g5 g6 g7 g8 g9 g10 i g11 g12 all g13 g15
   have hs:X70 (c5,(c11.length:Int),c2,c5,3,c5,c6,c7,c8,c9,c10,c11,c12)=true:=X8x.2 ⟨rfl,g9,fun j hj=>all j (by simp only at hj;omega),g10⟩
   have hw2:IntKind.wrap .i64 ((c11.length:Int) - 1)=(c11.length:Int) - 1:=w64 (by omega) (by omega)
   grind[X06,X3s,XaZ,X34,X2M]
theorem X1c.eq:EqS X4u Try.f47 [4] [X0E.e,X23.e,X1B.e,X1K.e,X1C.e] [] (fun i x=>X1c.L x) (fun i x=>X1c.F x):=by intro i x;kernel_rfl
theorem X1c.ok:X0D Try.prog 47 X4u:=X2U X1c.eq Try.func47 rfl (by kernel_rfl) fun i x h hi hw=>X1c.pure x h hw
def X1c.e:GE:=⟨47,X4u,⟨_,Try.func47,rfl,rfl⟩,X1c.ok⟩
end Go.Proofs.Ytegmokdppbagiaa.B
