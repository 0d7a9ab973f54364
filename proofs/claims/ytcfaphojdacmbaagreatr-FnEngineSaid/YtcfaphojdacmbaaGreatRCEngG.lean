/- Engines:flushed,packed. -/
import Derived.Test.YtcfaphojdacmbaaGreatRCEngF
set_option maxRecDepth 100000
set_option linter.unusedVariables false
set_option linter.unusedSimpArgs false
namespace Go.Proofs.YtcfaphojdacmbaaGreatR.B
open Go Go.Proofs.YtcfaphojdacmbaaGreatR.Bv
def X6W:Con:={A:=T9q,shA:=[.one],R:=(.list .str),shR:=[(false,1)],fresh:=[(0,9)],pre:=fun _ a=>(X27 a),f:=some fun _ a=>((XgU a),((),()))}
def X2N.F(a0:(List U1q)):Prop:=(X00 ((ln a0)==(0:Int)) (Eq (([]:(List U5q)),((),())) ((XgU a0),((),()))) ((X27 a0)∧∀r1,(Eq r1 ((X0j a0),((),())))→(Eq ([r1.1],((),())) ((XgU a0),((),())))))
theorem X2N.pure(a0:(List U1q))(h:(X27 a0))(hw:Wf X6W.A a0):X2N.F a0:=by
 delta X2N.F ln
 simp only[Bs,B0,B1,Prod.mk.injEq,X01,Prod.eta]
 have hp:X27 a0:=h
 refine⟨fun h1=>?_,fun h1=>⟨hp,?_⟩⟩
 · have:a0=[]:=List.length_eq_zero_iff.1 (by omega)
   rw[this];rfl
 · unfold XgU;rw[if_neg (fun e=>h1 (by rw[e];rfl))]
theorem X2N.eq:EqS X6W Tryz.f99 [26] [X1q.e] [] noL (fun i x=>X2N.F x):=by intro i x;kernel_rfl
theorem X2N.ok:X0l Tryz.prog 99 X6W:=X2b X2N.eq Tryz.func99 rfl (by kernel_rfl) fun i x h hi hw=>X2N.pure x h hw
def X2N.e:GE:=⟨99,X6W,⟨_,Tryz.func99,rfl,rfl⟩,X2N.ok⟩
def pFl(e:Eng):Prop:=X9X 4 e
def Xrb(e:Eng):Prop:=X9X 5 e
def X76:Con:={A:=T4q,shA:=[.agg 3],R:=T4q,shR:=[(true,3)],fresh:=[(1,83),(2,9)],pre:=fun _ a=>(pFl a),f:=some fun _ a=>((fFl a),((),()))}
def X2s.F(a0:U3q):Prop:=((Xlv (a0.1,(a0.2.1,a0.2.2)))∧∀r1,(Eq r1 ((Xls (a0.1,(a0.2.1,a0.2.2))),((),())))→(X00 (decide ((ln r1.1.2.1)>(0:Int))) ((X27 r1.1.2.1)∧∀r2,(Eq r2 ((X0j r1.1.2.1),((),())))→(List.length r1.1.2.2+List.length [r2.1]≤9223372036854775807∧((List.length r1.1.2.2+List.length [r2.1])*16≤140737488355328∧(X00 (decide ((ln (r1.1.2.2++[r2.1]))>(4:Int))) ((Xb6 (r1.1.1,(([]:(List U1q)),(r1.1.2.2++[r2.1]))))∧∀r3,(Eq r3 ((X0c (r1.1.1,(([]:(List U1q)),(r1.1.2.2++[r2.1])))),((),())))→((X27 r3.1.1)∧∀r4,(Eq r4 ((XgU r3.1.1),((),())))→(Eq ((r1.1.1,(([]:(List U1q)),r4.1)),((),())) ((fFl a0),((),()))))) (Eq ((r1.1.1,(([]:(List U1q)),(r1.1.2.2++[r2.1]))),((),())) ((fFl a0),((),()))))))) (X00 (decide ((ln r1.1.2.2)>(4:Int))) ((Xb6 (r1.1.1,(r1.1.2.1,r1.1.2.2)))∧∀r5,(Eq r5 ((X0c (r1.1.1,(r1.1.2.1,r1.1.2.2))),((),())))→((X27 r5.1.1)∧∀r6,(Eq r6 ((XgU r5.1.1),((),())))→(Eq ((r1.1.1,(r1.1.2.1,r6.1)),((),())) ((fFl a0),((),()))))) (Eq ((r1.1.1,(r1.1.2.1,r1.1.2.2)),((),())) ((fFl a0),((),()))))))
theorem X2s.pure(a0:U3q)(h:(pFl a0))(hw:Wf X76.A a0):X2s.F a0:=by
 delta X2s.F ln
 simp only[Bs,B0,B1,Prod.mk.injEq,X01,Prod.eta,Xls]
 have G:X9X 4 a0:=h
 obtain⟨f1,f2,f3⟩:=Xgx G
 have P:=f1.E (by omega)
 have S5:=X9t f1.pl
 have hle:=G.le
 have yes:4<(Xdf a0).2.2.length→X7h (Xdf a0)=fFl a0:=fun h=>by unfold fFl;rw[if_pos h]
 have no:¬4<(Xdf a0).2.2.length→Xdf a0=fFl a0:=fun h=>by unfold fFl;rw[if_neg h]
 have e1:a0.2.1≠[]→Xdf a0=(a0.1,[],a0.2.2++[X0j a0.2.1]):=fun h=>by unfold Xdf;rw[if_neg h]
 have e2:a0.2.1=[]→Xdf a0=a0:=fun h=>by unfold Xdf;rw[if_pos h]
 refine⟨XpO G,fun h1=>?_,fun h1=>?_⟩
 · have hne:a0.2.1≠[]:=fun e=>by rw[e]at h1;simp at h1
   rw[e1 hne]at f1 P S5 yes no
   simp only[List.length_append,List.length_cons,List.length_nil]at yes no
   refine⟨X9t G.ca,by omega,by omega,fun h2=>?_,fun h2=>no (by omega)⟩
   exact⟨P,S5,yes (by omega)⟩
 · have he:a0.2.1=[]:=List.length_eq_zero_iff.1 (by omega)
   rw[e2 he]at yes no
   refine⟨fun h2=>?_,fun h2=>no (by omega)⟩
   exfalso;omega
theorem X2s.eq:EqS X76 Tryz.f94 [28] [X1a.e,X2Z.e,X2N.e,X1q.e] [] noL (fun i x=>X2s.F x):=by intro i x;kernel_rfl
theorem X2s.ok:X0l Tryz.prog 94 X76:=X2b X2s.eq Tryz.func94 rfl (by kernel_rfl) fun i x h hi hw=>X2s.pure x h hw
def X2s.e:GE:=⟨94,X76,⟨_,Tryz.func94,rfl,rfl⟩,X2s.ok⟩
def X7E:Con:={A:=T4q,shA:=[.agg 3],R:=T4q,shR:=[(true,3)],fresh:=[(2,9)],pre:=fun _ a=>(Xrb a),f:=some fun _ a=>((X7h a),((),()))}
def X3j.F(a0:U3q):Prop:=((XoG (a0.1,(a0.2.1,a0.2.2)))∧∀r1,(Eq r1 ((Xhg (a0.1,(a0.2.1,a0.2.2))),((),())))→((Xo3 r1.1.1 a0.1)∧∀r2,(Eq r2 ((Xlm r1.1.1 a0.1),((),())))→((X27 r2.1)∧∀r3,(Eq r3 ((X0j r2.1),((),())))→(X00 (!(r3.1==[])) (List.length ([]:List U5q)+List.length [r3.1]≤9223372036854775807∧((List.length ([]:List U5q)+List.length [r3.1])*16≤140737488355328∧(Eq ((a0.1,(a0.2.1,(([]:List U5q)++[r3.1]))),((),())) ((X7h a0),((),()))))) (Eq ((a0.1,(a0.2.1,([]:(List U5q)))),((),())) ((X7h a0),((),())))))))
theorem X3j.pure(a0:U3q)(h:(Xrb a0))(hw:Wf X7E.A a0):X3j.F a0:=by
 unfold X3j.F
 simp only[Bs,B0,B1,Prod.mk.injEq,X01,Prod.eta]
 have G:X9X 5 a0:=h
 obtain⟨l1,l2,l3,l4⟩:=Xlt G (by omega)
 rw[l2];simp only;rw[l4]
 refine⟨l1,l3,X9t G.pl,fun h1=>?_,fun h1=>?_⟩
 · have X:(a0.1,a0.2.1,[X0j (X0c a0).1])=X7h a0:=by
    unfold X7h XgU;rw[if_neg (fun e=>h1 ((XjF G.pl).2 e))]
   first | exact X | exact⟨by omega,by omega,X⟩
 · unfold X7h XgU;rw[if_pos ((XjF G.pl).1 h1)]
theorem X3j.eq:EqS X7E Tryz.f205 [28] [X1g.e,X1p.e,X0N.e] [] noL (fun i x=>X3j.F x):=by intro i x;kernel_rfl
theorem X3j.ok:X0l Tryz.prog 205 X7E:=X2b X3j.eq Tryz.func205 rfl (by kernel_rfl) fun i x h hi hw=>X3j.pure x h hw
def X3j.e:GE:=⟨205,X7E,⟨_,Tryz.func205,rfl,rfl⟩,X3j.ok⟩
def X6g:Con:={A:=T4q,shA:=[.agg 3],ownA:=[(2,9)],R:=T4q,shR:=[(true,3)],fresh:=[(2,9)],pre:=fun _ a=>(pFl a),f:=some fun _ a=>((fFl a),((),()))}
def X2e.F(a0:U3q):Prop:=(X00 (decide ((ln a0.2.1)>(0:Int))) ((X27 a0.2.1)∧∀r1,(Eq r1 ((X0j a0.2.1),((),())))→(List.length a0.2.2+List.length [r1.1]≤9223372036854775807∧((List.length a0.2.2+List.length [r1.1])*16≤140737488355328∧(X00 (decide ((ln (a0.2.2++[r1.1]))>(4:Int))) ((Xrb (a0.1,(([]:(List U1q)),(a0.2.2++[r1.1]))))∧∀r2,(Eq r2 ((X7h (a0.1,(([]:(List U1q)),(a0.2.2++[r1.1])))),((),())))→(Eq ((r2.1.1,(r2.1.2.1,r2.1.2.2)),((),())) ((fFl a0),((),())))) (Eq ((a0.1,(([]:(List U1q)),(a0.2.2++[r1.1]))),((),())) ((fFl a0),((),()))))))) (X00 (decide ((ln a0.2.2)>(4:Int))) ((Xrb (a0.1,(a0.2.1,a0.2.2)))∧∀r3,(Eq r3 ((X7h (a0.1,(a0.2.1,a0.2.2))),((),())))→(Eq ((r3.1.1,(r3.1.2.1,r3.1.2.2)),((),())) ((fFl a0),((),())))) (Eq ((a0.1,(a0.2.1,a0.2.2)),((),())) ((fFl a0),((),())))))
theorem X2e.pure(a0:U3q)(h:(pFl a0))(hw:Wf X6g.A a0):X2e.F a0:=by
 delta X2e.F ln
 simp only[Bs,B0,B1,Prod.mk.injEq,X01,Prod.eta]
 have G:X9X 4 a0:=h
 obtain⟨f1,f2,f3⟩:=Xgx G
 have P:=f1.E (by omega)
 have S5:=X9t f1.pl
 have hle:=G.le
 have yes:4<(Xdf a0).2.2.length→X7h (Xdf a0)=fFl a0:=fun h=>by unfold fFl;rw[if_pos h]
 have no:¬4<(Xdf a0).2.2.length→Xdf a0=fFl a0:=fun h=>by unfold fFl;rw[if_neg h]
 have e1:a0.2.1≠[]→Xdf a0=(a0.1,[],a0.2.2++[X0j a0.2.1]):=fun h=>by unfold Xdf;rw[if_neg h]
 have e2:a0.2.1=[]→Xdf a0=a0:=fun h=>by unfold Xdf;rw[if_pos h]
 refine⟨fun h1=>?_,fun h1=>?_⟩
 · have hne:a0.2.1≠[]:=fun e=>by rw[e]at h1;simp at h1
   rw[e1 hne]at f1 P S5 yes no
   simp only[List.length_append,List.length_cons,List.length_nil]at yes no
   refine⟨X9t G.ca,by omega,by omega,fun h2=>?_,fun h2=>no (by omega)⟩
   exact⟨f1,yes (by omega)⟩
 · have he:a0.2.1=[]:=List.length_eq_zero_iff.1 (by omega)
   rw[e2 he]at yes no
   refine⟨fun h2=>?_,fun h2=>no (by omega)⟩
   exfalso;omega
theorem X2e.eq:EqS X6g Tryz.f126 [28] [X0N.e,X3j.e] [] noL (fun i x=>X2e.F x):=by intro i x;kernel_rfl
theorem X2e.ok:X0l Tryz.prog 126 X6g:=X2b X2e.eq Tryz.func126 rfl (by kernel_rfl) fun i x h hi hw=>X2e.pure x h hw
def X2e.e:GE:=⟨126,X6g,⟨_,Tryz.func126,rfl,rfl⟩,X2e.ok⟩
def X8j:Con:={A:=T4q,shA:=[.agg 3],R:=T4q,shR:=[(true,3)],fresh:=[(1,83),(2,9)],pre:=fun _ a=>(X5P a),f:=some fun _ a=>((X7q a),((),()))}
def X49.F(a0:U3q):Prop:=((X5P (a0.1,(a0.2.1,a0.2.2)))∧∀r1,(Eq r1 ((X13 (a0.1,(a0.2.1,a0.2.2))),((),())))→(X00 (!r1.1) (Eq ((0,(([]:(List U1q)),([]:(List U5q)))),((),())) ((X7q a0),((),()))) ((pFl (a0.1,(a0.2.1,a0.2.2)))∧∀r2,(Eq r2 ((fFl (a0.1,(a0.2.1,a0.2.2))),((),())))→(Eq ((r2.1.1,(r2.1.2.1,r2.1.2.2)),((),())) ((X7q a0),((),()))))))
theorem X49.pure(a0:U3q)(h:(X5P a0))(hw:Wf X8j.A a0):X49.F a0:=by
 unfold X49.F
 simp only[Bs,B0,B1,Prod.mk.injEq,X01,Prod.eta]
 have hp:X5P a0:=h
 refine⟨hp,fun h1=>?_,fun h1=>?_⟩
 · unfold X7q;rw[if_neg (by rw[h1];decide)];rfl
 have G:=X6n h1 hp
 obtain⟨g1,g2,g3⟩:=Xf0 G
 have X:X7q a0=fFl a0:=by unfold X7q;rw[if_pos h1]
 rw[X]
 exact⟨G,rfl⟩
theorem X49.eq:EqS X8j Tryz.f31 [28] [X2s.e,X25.e] [] noL (fun i x=>X49.F x):=by intro i x;kernel_rfl
theorem X49.ok:X0l Tryz.prog 31 X8j:=X2b X49.eq Tryz.func31 rfl (by kernel_rfl) fun i x h hi hw=>X49.pure x h hw
def X49.e:GE:=⟨31,X8j,⟨_,Tryz.func31,rfl,rfl⟩,X49.ok⟩
def X9u:Con:={A:=T4q,shA:=[.agg 3],R:=T4q,shR:=[(true,3)],fresh:=[(1,83),(2,9)],pre:=fun _ a=>(X5P a),f:=some fun _ a=>((X8Y a),((),()))}
def X4O.F(a0:U3q):Prop:=((X5P (a0.1,(a0.2.1,a0.2.2)))∧∀r1,(Eq r1 ((X13 (a0.1,(a0.2.1,a0.2.2))),((),())))→(X00 (!r1.1) (Eq ((0,(([]:(List U1q)),([]:(List U5q)))),((),())) ((X8Y a0),((),()))) ((pFl (a0.1,(a0.2.1,a0.2.2)))∧∀r2,(Eq r2 ((fFl (a0.1,(a0.2.1,a0.2.2))),((),())))→((Xb6 (r2.1.1,(r2.1.2.1,r2.1.2.2)))∧∀r3,(Eq r3 ((X0c (r2.1.1,(r2.1.2.1,r2.1.2.2))),((),())))→((X27 r3.1.1)∧∀r4,(Eq r4 ((XgU r3.1.1),((),())))→(Eq ((r2.1.1,(r2.1.2.1,r4.1)),((),())) ((X8Y a0),((),()))))))))
theorem X4O.pure(a0:U3q)(h:(X5P a0))(hw:Wf X9u.A a0):X4O.F a0:=by
 unfold X4O.F
 simp only[Bs,B0,B1,Prod.mk.injEq,X01,Prod.eta]
 have hp:X5P a0:=h
 refine⟨hp,fun h1=>?_,fun h1=>?_⟩
 · unfold X8Y;rw[if_neg (by rw[h1];decide)];rfl
 have G:=X6n h1 hp
 obtain⟨g1,g2,g3⟩:=Xf0 G
 have X:X8Y a0=X7h (fFl a0):=by unfold X8Y;rw[if_pos h1]
 rw[X]
 exact⟨G,g1.E (by omega),X9t g1.pl,rfl⟩
theorem X4O.eq:EqS X9u Tryz.f32 [28] [X2s.e,X25.e,X2Z.e,X2N.e] [] noL (fun i x=>X4O.F x):=by intro i x;kernel_rfl
theorem X4O.ok:X0l Tryz.prog 32 X9u:=X2b X4O.eq Tryz.func32 rfl (by kernel_rfl) fun i x h hi hw=>X4O.pure x h hw
def X4O.e:GE:=⟨32,X9u,⟨_,Tryz.func32,rfl,rfl⟩,X4O.ok⟩
end Go.Proofs.YtcfaphojdacmbaaGreatR.B
