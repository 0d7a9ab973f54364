/- Engines:flushed,packed. -/
import Derived.Test.YtcfaphojdacmbaaGreatRCEngF
set_option maxRecDepth 100000
set_option linter.unusedVariables false
set_option linter.unusedSimpArgs false
namespace Go.Proofs.YtcfaphojdacmbaaGreatR.B
open Go Go.Proofs.YtcfaphojdacmbaaGreatR.Bv
def X6L:Con:={A:=T8q,shA:=[.one],R:=(.list .str),shR:=[(false,1)],fresh:=[(0,9)],pre:=fun _ a=>(X21 a),f:=some fun _ a=>((XfS a),((),()))}
def X2C.F(a0:(List U1q)):Prop:=(X00 ((ln a0)==(0:Int)) (Eq (([]:(List U5q)),((),())) ((XfS a0),((),()))) ((X21 a0)∧∀r1,(Eq r1 ((X0j a0),((),())))→(Eq ([r1.1],((),())) ((XfS a0),((),())))))
theorem X2C.pure(a0:(List U1q))(h:(X21 a0))(hw:Wf X6L.A a0):X2C.F a0:=by
 delta X2C.F ln
 simp only[Bs,B0,B1,Prod.mk.injEq,X01,Prod.eta]
 have hp:X21 a0:=h
 refine⟨fun h1=>?_,fun h1=>⟨hp,?_⟩⟩
 · have:a0=[]:=List.length_eq_zero_iff.1 (by omega)
   rw[this];rfl
 · unfold XfS;rw[if_neg (fun e=>h1 (by rw[e];rfl))]
theorem X2C.eq:EqS X6L Tryz.f99 [26] [X1n.e] [] noL (fun i x=>X2C.F x):=by intro i x;kernel_rfl
theorem X2C.ok:X0n Tryz.prog 99 X6L:=X2g X2C.eq Tryz.func99 rfl (by kernel_rfl) fun i x h hi hw=>X2C.pure x h hw
def X2C.e:GE:=⟨99,X6L,⟨_,Tryz.func99,rfl,rfl⟩,X2C.ok⟩
def pFl(e:Eng):Prop:=X9q 4 e
def Xrc(e:Eng):Prop:=X9q 5 e
def X6I:Con:={A:=T4q,shA:=[.agg 3],R:=T4q,shR:=[(true,3)],fresh:=[(1,83),(2,9)],pre:=fun _ a=>(pFl a),f:=some fun _ a=>((fFl a),((),()))}
def X2E.F(a0:U3q):Prop:=((XmA (a0.1,(a0.2.1,a0.2.2)))∧∀r1,(Eq r1 ((XkQ (a0.1,(a0.2.1,a0.2.2))),((),())))→(X00 (decide ((ln r1.1.2.1)>(0:Int))) ((X21 r1.1.2.1)∧∀r2,(Eq r2 ((X0j r1.1.2.1),((),())))→(List.length r1.1.2.2+List.length [r2.1]≤9223372036854775807∧((List.length r1.1.2.2+List.length [r2.1])*16≤140737488355328∧(X00 (decide ((ln (r1.1.2.2++[r2.1]))>(4:Int))) ((XaT (r1.1.1,(([]:(List U1q)),(r1.1.2.2++[r2.1]))))∧∀r3,(Eq r3 ((X0d (r1.1.1,(([]:(List U1q)),(r1.1.2.2++[r2.1])))),((),())))→((X21 r3.1.1)∧∀r4,(Eq r4 ((XfS r3.1.1),((),())))→(Eq ((r1.1.1,(([]:(List U1q)),r4.1)),((),())) ((fFl a0),((),()))))) (Eq ((r1.1.1,(([]:(List U1q)),(r1.1.2.2++[r2.1]))),((),())) ((fFl a0),((),()))))))) (X00 (decide ((ln r1.1.2.2)>(4:Int))) ((XaT (r1.1.1,(r1.1.2.1,r1.1.2.2)))∧∀r5,(Eq r5 ((X0d (r1.1.1,(r1.1.2.1,r1.1.2.2))),((),())))→((X21 r5.1.1)∧∀r6,(Eq r6 ((XfS r5.1.1),((),())))→(Eq ((r1.1.1,(r1.1.2.1,r6.1)),((),())) ((fFl a0),((),()))))) (Eq ((r1.1.1,(r1.1.2.1,r1.1.2.2)),((),())) ((fFl a0),((),()))))))
theorem X2E.pure(a0:U3q)(h:(pFl a0))(hw:Wf X6I.A a0):X2E.F a0:=by
 delta X2E.F ln
 simp only[Bs,B0,B1,Prod.mk.injEq,X01,Prod.eta,XkQ]
 have G:X9q 4 a0:=h
 obtain⟨f1,f2,f3⟩:=Xgo G
 have P:=f1.E (by omega)
 have S5:=X92 f1.pl
 have hle:=G.le
 have yes:4<(Xd3 a0).2.2.length→X72 (Xd3 a0)=fFl a0:=fun h=>by unfold fFl;rw[if_pos h]
 have no:¬4<(Xd3 a0).2.2.length→Xd3 a0=fFl a0:=fun h=>by unfold fFl;rw[if_neg h]
 have e1:a0.2.1≠[]→Xd3 a0=(a0.1,[],a0.2.2++[X0j a0.2.1]):=fun h=>by unfold Xd3;rw[if_neg h]
 have e2:a0.2.1=[]→Xd3 a0=a0:=fun h=>by unfold Xd3;rw[if_pos h]
 refine⟨XpN G,fun h1=>?_,fun h1=>?_⟩
 · have hne:a0.2.1≠[]:=fun e=>by rw[e]at h1;simp at h1
   rw[e1 hne]at f1 P S5 yes no
   simp only[List.length_append,List.length_cons,List.length_nil]at yes no
   refine⟨X92 G.ca,by omega,by omega,fun h2=>?_,fun h2=>no (by omega)⟩
   exact⟨P,S5,yes (by omega)⟩
 · have he:a0.2.1=[]:=List.length_eq_zero_iff.1 (by omega)
   rw[e2 he]at yes no
   refine⟨fun h2=>?_,fun h2=>no (by omega)⟩
   exfalso;omega
theorem X2E.eq:EqS X6I Tryz.f94 [28] [X1a.e,X2N.e,X2C.e,X1n.e] [] noL (fun i x=>X2E.F x):=by intro i x;kernel_rfl
theorem X2E.ok:X0n Tryz.prog 94 X6I:=X2g X2E.eq Tryz.func94 rfl (by kernel_rfl) fun i x h hi hw=>X2E.pure x h hw
def X2E.e:GE:=⟨94,X6I,⟨_,Tryz.func94,rfl,rfl⟩,X2E.ok⟩
def X7c:Con:={A:=T4q,shA:=[.agg 3],R:=T4q,shR:=[(true,3)],fresh:=[(2,9)],pre:=fun _ a=>(Xrc a),f:=some fun _ a=>((X72 a),((),()))}
def X38.F(a0:U3q):Prop:=((Xn6 (a0.1,(a0.2.1,a0.2.2)))∧∀r1,(Eq r1 ((XfT (a0.1,(a0.2.1,a0.2.2))),((),())))→((Xla r1.1.1 a0.1)∧∀r2,(Eq r2 ((XkM r1.1.1 a0.1),((),())))→((X21 r2.1)∧∀r3,(Eq r3 ((X0j r2.1),((),())))→(X00 (!(r3.1==[])) (List.length ([]:List U5q)+List.length [r3.1]≤9223372036854775807∧((List.length ([]:List U5q)+List.length [r3.1])*16≤140737488355328∧(Eq ((a0.1,(a0.2.1,(([]:List U5q)++[r3.1]))),((),())) ((X72 a0),((),()))))) (Eq ((a0.1,(a0.2.1,([]:(List U5q)))),((),())) ((X72 a0),((),())))))))
theorem X38.pure(a0:U3q)(h:(Xrc a0))(hw:Wf X7c.A a0):X38.F a0:=by
 unfold X38.F
 simp only[Bs,B0,B1,Prod.mk.injEq,X01,Prod.eta]
 have G:X9q 5 a0:=h
 obtain⟨l1,l2,l3,l4⟩:=XkY G (by omega)
 rw[l2];simp only;rw[l4]
 refine⟨l1,l3,X92 G.pl,fun h1=>?_,fun h1=>?_⟩
 · have X:(a0.1,a0.2.1,[X0j (X0d a0).1])=X72 a0:=by
    unfold X72 XfS;rw[if_neg (fun e=>h1 ((Xjl G.pl).2 e))]
   first | exact X | exact⟨by omega,by omega,X⟩
 · unfold X72 XfS;rw[if_pos ((Xjl G.pl).1 h1)]
theorem X38.eq:EqS X7c Tryz.f205 [28] [X0W.e,X14.e,X0R.e] [] noL (fun i x=>X38.F x):=by intro i x;kernel_rfl
theorem X38.ok:X0n Tryz.prog 205 X7c:=X2g X38.eq Tryz.func205 rfl (by kernel_rfl) fun i x h hi hw=>X38.pure x h hw
def X38.e:GE:=⟨205,X7c,⟨_,Tryz.func205,rfl,rfl⟩,X38.ok⟩
def X68:Con:={A:=T4q,shA:=[.agg 3],ownA:=[(2,9)],R:=T4q,shR:=[(true,3)],fresh:=[(2,9)],pre:=fun _ a=>(pFl a),f:=some fun _ a=>((fFl a),((),()))}
def X27.F(a0:U3q):Prop:=(X00 (decide ((ln a0.2.1)>(0:Int))) ((X21 a0.2.1)∧∀r1,(Eq r1 ((X0j a0.2.1),((),())))→(List.length a0.2.2+List.length [r1.1]≤9223372036854775807∧((List.length a0.2.2+List.length [r1.1])*16≤140737488355328∧(X00 (decide ((ln (a0.2.2++[r1.1]))>(4:Int))) ((Xrc (a0.1,(([]:(List U1q)),(a0.2.2++[r1.1]))))∧∀r2,(Eq r2 ((X72 (a0.1,(([]:(List U1q)),(a0.2.2++[r1.1])))),((),())))→(Eq ((r2.1.1,(r2.1.2.1,r2.1.2.2)),((),())) ((fFl a0),((),())))) (Eq ((a0.1,(([]:(List U1q)),(a0.2.2++[r1.1]))),((),())) ((fFl a0),((),()))))))) (X00 (decide ((ln a0.2.2)>(4:Int))) ((Xrc (a0.1,(a0.2.1,a0.2.2)))∧∀r3,(Eq r3 ((X72 (a0.1,(a0.2.1,a0.2.2))),((),())))→(Eq ((r3.1.1,(r3.1.2.1,r3.1.2.2)),((),())) ((fFl a0),((),())))) (Eq ((a0.1,(a0.2.1,a0.2.2)),((),())) ((fFl a0),((),())))))
theorem X27.pure(a0:U3q)(h:(pFl a0))(hw:Wf X68.A a0):X27.F a0:=by
 delta X27.F ln
 simp only[Bs,B0,B1,Prod.mk.injEq,X01,Prod.eta]
 have G:X9q 4 a0:=h
 obtain⟨f1,f2,f3⟩:=Xgo G
 have P:=f1.E (by omega)
 have S5:=X92 f1.pl
 have hle:=G.le
 have yes:4<(Xd3 a0).2.2.length→X72 (Xd3 a0)=fFl a0:=fun h=>by unfold fFl;rw[if_pos h]
 have no:¬4<(Xd3 a0).2.2.length→Xd3 a0=fFl a0:=fun h=>by unfold fFl;rw[if_neg h]
 have e1:a0.2.1≠[]→Xd3 a0=(a0.1,[],a0.2.2++[X0j a0.2.1]):=fun h=>by unfold Xd3;rw[if_neg h]
 have e2:a0.2.1=[]→Xd3 a0=a0:=fun h=>by unfold Xd3;rw[if_pos h]
 refine⟨fun h1=>?_,fun h1=>?_⟩
 · have hne:a0.2.1≠[]:=fun e=>by rw[e]at h1;simp at h1
   rw[e1 hne]at f1 P S5 yes no
   simp only[List.length_append,List.length_cons,List.length_nil]at yes no
   refine⟨X92 G.ca,by omega,by omega,fun h2=>?_,fun h2=>no (by omega)⟩
   exact⟨f1,yes (by omega)⟩
 · have he:a0.2.1=[]:=List.length_eq_zero_iff.1 (by omega)
   rw[e2 he]at yes no
   refine⟨fun h2=>?_,fun h2=>no (by omega)⟩
   exfalso;omega
theorem X27.eq:EqS X68 Tryz.f126 [28] [X0R.e,X38.e] [] noL (fun i x=>X27.F x):=by intro i x;kernel_rfl
theorem X27.ok:X0n Tryz.prog 126 X68:=X2g X27.eq Tryz.func126 rfl (by kernel_rfl) fun i x h hi hw=>X27.pure x h hw
def X27.e:GE:=⟨126,X68,⟨_,Tryz.func126,rfl,rfl⟩,X27.ok⟩
def X9d:Con:={A:=T4q,shA:=[.agg 3],R:=T4q,shR:=[(true,3)],fresh:=[(1,83),(2,9)],pre:=fun _ a=>(X55 a),f:=some fun _ a=>((XaM a),((),()))}
def X4F.F(a0:U3q):Prop:=((X55 (a0.1,(a0.2.1,a0.2.2)))∧∀r1,(Eq r1 ((X0L (a0.1,(a0.2.1,a0.2.2))),((),())))→(X00 (!r1.1) (Eq ((0,(([]:(List U1q)),([]:(List U5q)))),((),())) ((XaM a0),((),()))) ((pFl (a0.1,(a0.2.1,a0.2.2)))∧∀r2,(Eq r2 ((fFl (a0.1,(a0.2.1,a0.2.2))),((),())))→((XaT (r2.1.1,(r2.1.2.1,r2.1.2.2)))∧∀r3,(Eq r3 ((X0d (r2.1.1,(r2.1.2.1,r2.1.2.2))),((),())))→((X21 r3.1.1)∧∀r4,(Eq r4 ((XfS r3.1.1),((),())))→(Eq ((r2.1.1,(r2.1.2.1,r4.1)),((),())) ((XaM a0),((),()))))))))
theorem X4F.pure(a0:U3q)(h:(X55 a0))(hw:Wf X9d.A a0):X4F.F a0:=by
 unfold X4F.F
 simp only[Bs,B0,B1,Prod.mk.injEq,X01,Prod.eta]
 have hp:X55 a0:=h
 refine⟨hp,fun h1=>?_,fun h1=>?_⟩
 · unfold XaM;rw[if_neg (by rw[h1];decide)];rfl
 have G:=X6W h1 hp
 obtain⟨g1,g2,g3⟩:=XgK G
 have X:XaM a0=X72 (fFl a0):=by unfold XaM;rw[if_pos h1]
 rw[X]
 exact⟨G,g1.E (by omega),X92 g1.pl,rfl⟩
theorem X4F.eq:EqS X9d Tryz.f32 [28] [X2E.e,X26.e,X2N.e,X2C.e] [] noL (fun i x=>X4F.F x):=by intro i x;kernel_rfl
theorem X4F.ok:X0n Tryz.prog 32 X9d:=X2g X4F.eq Tryz.func32 rfl (by kernel_rfl) fun i x h hi hw=>X4F.pure x h hw
def X4F.e:GE:=⟨32,X9d,⟨_,Tryz.func32,rfl,rfl⟩,X4F.ok⟩
end Go.Proofs.YtcfaphojdacmbaaGreatR.B
