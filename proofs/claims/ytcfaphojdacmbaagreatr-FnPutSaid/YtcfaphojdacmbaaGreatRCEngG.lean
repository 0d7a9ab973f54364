/- Engines:flushed,packed. -/
import Derived.Test.YtcfaphojdacmbaaGreatRCEngF
set_option maxRecDepth 100000
set_option linter.unusedVariables false
set_option linter.unusedSimpArgs false
namespace Go.Proofs.YtcfaphojdacmbaaGreatR.B
open Go Go.Proofs.YtcfaphojdacmbaaGreatR.Bv
def X6U:Con:={A:=T9q,shA:=[.one],R:=Xcb,shR:=[(false,1)],fresh:=[(0,9)],pre:=fun _ a=>(X2c a),f:=some fun _ a=>((Xh0 a),((),()))}
def X37.F(a0:(List U1q)):Prop:=(X00 ((ln a0)==(0:Int)) (Eq (([]:(List U5q)),((),())) ((Xh0 a0),((),()))) ((X2c a0)∧∀r1,(Eq r1 ((X0j a0),((),())))→(Eq ([r1.1],((),())) ((Xh0 a0),((),())))))
theorem X37.pure(a0:(List U1q))(h:(X2c a0))(hw:Wf X6U.A a0):X37.F a0:=by
 delta X37.F ln
 simp only[Bs,B0,B1,Prod.mk.injEq,X01,Prod.eta]
 have hp:X2c a0:=h
 refine⟨fun h1=>?_,fun h1=>⟨hp,?_⟩⟩
 · have:a0=[]:=List.length_eq_zero_iff.1 (by omega)
   rw[this];rfl
 · unfold Xh0;rw[if_neg (fun e=>h1 (by rw[e];rfl))]
theorem X37.eq:EqS X6U Tryz.f99 [26] [X1p.e] [] noL (fun i x=>X37.F x):=by intro i x;kernel_rfl
theorem X37.ok:X0l Tryz.prog 99 X6U:=X2d X37.eq Tryz.func99 rfl (by kernel_rfl) fun i x h hi hw=>X37.pure x h hw
def X37.e:GE:=⟨99,X6U,⟨_,Tryz.func99,rfl,rfl⟩,X37.ok⟩
def pFl(e:Eng):Prop:=X9G 4 e
def Xrb(e:Eng):Prop:=X9G 5 e
def X6R:Con:={A:=T4q,shA:=[.agg 3],R:=T4q,shR:=[(true,3)],fresh:=[(1,83),(2,9)],pre:=fun _ a=>(pFl a),f:=some fun _ a=>((fFl a),((),()))}
def X33.F(a0:U3q):Prop:=((Xn7 (a0.1,(a0.2.1,a0.2.2)))∧∀r1,(Eq r1 ((Xl5 (a0.1,(a0.2.1,a0.2.2))),((),())))→(X00 (decide ((ln r1.1.2.1)>(0:Int))) ((X2c r1.1.2.1)∧∀r2,(Eq r2 ((X0j r1.1.2.1),((),())))→(List.length r1.1.2.2+List.length [r2.1]≤9223372036854775807∧((List.length r1.1.2.2+List.length [r2.1])*16≤140737488355328∧(X00 (decide ((ln (r1.1.2.2++[r2.1]))>(4:Int))) ((Xca (r1.1.1,(([]:(List U1q)),(r1.1.2.2++[r2.1]))))∧∀r3,(Eq r3 ((X0c (r1.1.1,(([]:(List U1q)),(r1.1.2.2++[r2.1])))),((),())))→((X2c r3.1.1)∧∀r4,(Eq r4 ((Xh0 r3.1.1),((),())))→(Eq ((r1.1.1,(([]:(List U1q)),r4.1)),((),())) ((fFl a0),((),()))))) (Eq ((r1.1.1,(([]:(List U1q)),(r1.1.2.2++[r2.1]))),((),())) ((fFl a0),((),()))))))) (X00 (decide ((ln r1.1.2.2)>(4:Int))) ((Xca (r1.1.1,(r1.1.2.1,r1.1.2.2)))∧∀r5,(Eq r5 ((X0c (r1.1.1,(r1.1.2.1,r1.1.2.2))),((),())))→((X2c r5.1.1)∧∀r6,(Eq r6 ((Xh0 r5.1.1),((),())))→(Eq ((r1.1.1,(r1.1.2.1,r6.1)),((),())) ((fFl a0),((),()))))) (Eq ((r1.1.1,(r1.1.2.1,r1.1.2.2)),((),())) ((fFl a0),((),()))))))
theorem X33.pure(a0:U3q)(h:(pFl a0))(hw:Wf X6R.A a0):X33.F a0:=by
 delta X33.F ln
 simp only[Bs,B0,B1,Prod.mk.injEq,X01,Prod.eta,Xl5]
 have G:X9G 4 a0:=h
 obtain⟨f1,f2,f3⟩:=Xgh G
 have P:=f1.E (by omega)
 have S5:=Xan f1.pl
 have hle:=G.le
 have yes:4<(Xdo a0).2.2.length→X83 (Xdo a0)=fFl a0:=fun h=>by unfold fFl;rw[if_pos h]
 have no:¬4<(Xdo a0).2.2.length→Xdo a0=fFl a0:=fun h=>by unfold fFl;rw[if_neg h]
 have e1:a0.2.1≠[]→Xdo a0=(a0.1,[],a0.2.2++[X0j a0.2.1]):=fun h=>by unfold Xdo;rw[if_neg h]
 have e2:a0.2.1=[]→Xdo a0=a0:=fun h=>by unfold Xdo;rw[if_pos h]
 refine⟨Xq2 G,fun h1=>?_,fun h1=>?_⟩
 · have hne:a0.2.1≠[]:=fun e=>by rw[e]at h1;simp at h1
   rw[e1 hne]at f1 P S5 yes no
   simp only[List.length_append,List.length_cons,List.length_nil]at yes no
   refine⟨Xan G.ca,by omega,by omega,fun h2=>?_,fun h2=>no (by omega)⟩
   exact⟨P,S5,yes (by omega)⟩
 · have he:a0.2.1=[]:=List.length_eq_zero_iff.1 (by omega)
   rw[e2 he]at yes no
   refine⟨fun h2=>?_,fun h2=>no (by omega)⟩
   exfalso;omega
theorem X33.eq:EqS X6R Tryz.f94 [28] [X1u.e,X3c.e,X37.e,X1p.e] [] noL (fun i x=>X33.F x):=by intro i x;kernel_rfl
theorem X33.ok:X0l Tryz.prog 94 X6R:=X2d X33.eq Tryz.func94 rfl (by kernel_rfl) fun i x h hi hw=>X33.pure x h hw
def X33.e:GE:=⟨94,X6R,⟨_,Tryz.func94,rfl,rfl⟩,X33.ok⟩
def X7w:Con:={A:=T4q,shA:=[.agg 3],R:=T4q,shR:=[(true,3)],fresh:=[(2,9)],pre:=fun _ a=>(Xrb a),f:=some fun _ a=>((X83 a),((),()))}
def X3e.F(a0:U3q):Prop:=((Xna (a0.1,(a0.2.1,a0.2.2)))∧∀r1,(Eq r1 ((Xfp (a0.1,(a0.2.1,a0.2.2))),((),())))→((XmE r1.1.1 a0.1)∧∀r2,(Eq r2 ((Xkf r1.1.1 a0.1),((),())))→((X2c r2.1)∧∀r3,(Eq r3 ((X0j r2.1),((),())))→(X00 (!(r3.1==[])) (List.length ([]:List U5q)+List.length [r3.1]≤9223372036854775807∧((List.length ([]:List U5q)+List.length [r3.1])*16≤140737488355328∧(Eq ((a0.1,(a0.2.1,(([]:List U5q)++[r3.1]))),((),())) ((X83 a0),((),()))))) (Eq ((a0.1,(a0.2.1,([]:(List U5q)))),((),())) ((X83 a0),((),())))))))
theorem X3e.pure(a0:U3q)(h:(Xrb a0))(hw:Wf X7w.A a0):X3e.F a0:=by
 unfold X3e.F
 simp only[Bs,B0,B1,Prod.mk.injEq,X01,Prod.eta]
 have G:X9G 5 a0:=h
 obtain⟨l1,l2,l3,l4⟩:=Xmp G (by omega)
 rw[l2];simp only;rw[l4]
 refine⟨l1,l3,Xan G.pl,fun h1=>?_,fun h1=>?_⟩
 · have X:(a0.1,a0.2.1,[X0j (X0c a0).1])=X83 a0:=by
    unfold X83 Xh0;rw[if_neg (fun e=>h1 ((XjT G.pl).2 e))]
   first | exact X | exact⟨by omega,by omega,X⟩
 · unfold X83 Xh0;rw[if_pos ((XjT G.pl).1 h1)]
theorem X3e.eq:EqS X7w Tryz.f205 [28] [X0J.e,X17.e,X0T.e] [] noL (fun i x=>X3e.F x):=by intro i x;kernel_rfl
theorem X3e.ok:X0l Tryz.prog 205 X7w:=X2d X3e.eq Tryz.func205 rfl (by kernel_rfl) fun i x h hi hw=>X3e.pure x h hw
def X3e.e:GE:=⟨205,X7w,⟨_,Tryz.func205,rfl,rfl⟩,X3e.ok⟩
def X6o:Con:={A:=T4q,shA:=[.agg 3],ownA:=[(2,9)],R:=T4q,shR:=[(true,3)],fresh:=[(2,9)],pre:=fun _ a=>(pFl a),f:=some fun _ a=>((fFl a),((),()))}
def X2a.F(a0:U3q):Prop:=(X00 (decide ((ln a0.2.1)>(0:Int))) ((X2c a0.2.1)∧∀r1,(Eq r1 ((X0j a0.2.1),((),())))→(List.length a0.2.2+List.length [r1.1]≤9223372036854775807∧((List.length a0.2.2+List.length [r1.1])*16≤140737488355328∧(X00 (decide ((ln (a0.2.2++[r1.1]))>(4:Int))) ((Xrb (a0.1,(([]:(List U1q)),(a0.2.2++[r1.1]))))∧∀r2,(Eq r2 ((X83 (a0.1,(([]:(List U1q)),(a0.2.2++[r1.1])))),((),())))→(Eq ((r2.1.1,(r2.1.2.1,r2.1.2.2)),((),())) ((fFl a0),((),())))) (Eq ((a0.1,(([]:(List U1q)),(a0.2.2++[r1.1]))),((),())) ((fFl a0),((),()))))))) (X00 (decide ((ln a0.2.2)>(4:Int))) ((Xrb (a0.1,(a0.2.1,a0.2.2)))∧∀r3,(Eq r3 ((X83 (a0.1,(a0.2.1,a0.2.2))),((),())))→(Eq ((r3.1.1,(r3.1.2.1,r3.1.2.2)),((),())) ((fFl a0),((),())))) (Eq ((a0.1,(a0.2.1,a0.2.2)),((),())) ((fFl a0),((),())))))
theorem X2a.pure(a0:U3q)(h:(pFl a0))(hw:Wf X6o.A a0):X2a.F a0:=by
 delta X2a.F ln
 simp only[Bs,B0,B1,Prod.mk.injEq,X01,Prod.eta]
 have G:X9G 4 a0:=h
 obtain⟨f1,f2,f3⟩:=Xgh G
 have P:=f1.E (by omega)
 have S5:=Xan f1.pl
 have hle:=G.le
 have yes:4<(Xdo a0).2.2.length→X83 (Xdo a0)=fFl a0:=fun h=>by unfold fFl;rw[if_pos h]
 have no:¬4<(Xdo a0).2.2.length→Xdo a0=fFl a0:=fun h=>by unfold fFl;rw[if_neg h]
 have e1:a0.2.1≠[]→Xdo a0=(a0.1,[],a0.2.2++[X0j a0.2.1]):=fun h=>by unfold Xdo;rw[if_neg h]
 have e2:a0.2.1=[]→Xdo a0=a0:=fun h=>by unfold Xdo;rw[if_pos h]
 refine⟨fun h1=>?_,fun h1=>?_⟩
 · have hne:a0.2.1≠[]:=fun e=>by rw[e]at h1;simp at h1
   rw[e1 hne]at f1 P S5 yes no
   simp only[List.length_append,List.length_cons,List.length_nil]at yes no
   refine⟨Xan G.ca,by omega,by omega,fun h2=>?_,fun h2=>no (by omega)⟩
   exact⟨f1,yes (by omega)⟩
 · have he:a0.2.1=[]:=List.length_eq_zero_iff.1 (by omega)
   rw[e2 he]at yes no
   refine⟨fun h2=>?_,fun h2=>no (by omega)⟩
   exfalso;omega
theorem X2a.eq:EqS X6o Tryz.f126 [28] [X0T.e,X3e.e] [] noL (fun i x=>X2a.F x):=by intro i x;kernel_rfl
theorem X2a.ok:X0l Tryz.prog 126 X6o:=X2d X2a.eq Tryz.func126 rfl (by kernel_rfl) fun i x h hi hw=>X2a.pure x h hw
def X2a.e:GE:=⟨126,X6o,⟨_,Tryz.func126,rfl,rfl⟩,X2a.ok⟩
end Go.Proofs.YtcfaphojdacmbaaGreatR.B
