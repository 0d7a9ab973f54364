/- Engines:flushed,packed. -/
import Derived.Test.YtcfaphojdacmbaaGreatRCEngF
set_option maxRecDepth 100000
set_option linter.unusedVariables false
set_option linter.unusedSimpArgs false
namespace Go.Proofs.YtcfaphojdacmbaaGreatR.B
open Go Go.Proofs.YtcfaphojdacmbaaGreatR.Bv
def X6J:Con:={A:=T8q,shA:=[.one],R:=(.list .str),shR:=[(false,1)],fresh:=[(0,9)],pre:=fun _ a=>(X2i a),f:=some fun _ a=>((XeH a),((),()))}
def X2A.F(a0:(List U1q)):Prop:=(X02 ((ln a0)==(0:Int)) (Eq (([]:(List U5q)),((),())) ((XeH a0),((),()))) ((X2i a0)∧∀r1,(Eq r1 ((X0j a0),((),())))→(Eq ([r1.1],((),())) ((XeH a0),((),())))))
theorem X2A.pure(a0:(List U1q))(h:(X2i a0))(hw:Wf X6J.A a0):X2A.F a0:=by
 delta X2A.F ln
 simp only[Bs,B0,B1,Prod.mk.injEq,X01,Prod.eta]
 have hp:X2i a0:=h
 refine⟨fun h1=>?_,fun h1=>⟨hp,?_⟩⟩
 · have:a0=[]:=List.length_eq_zero_iff.1 (by omega)
   rw[this];rfl
 · unfold XeH;rw[if_neg (fun e=>h1 (by rw[e];rfl))]
theorem X2A.eq:EqS X6J Tryz.f99 [26] [X1j.e] [] noL (fun i x=>X2A.F x):=by intro i x;kernel_rfl
theorem X2A.ok:X0n Tryz.prog 99 X6J:=X2j X2A.eq Tryz.func99 rfl (by kernel_rfl) fun i x h hi hw=>X2A.pure x h hw
def X2A.e:GE:=⟨99,X6J,⟨_,Tryz.func99,rfl,rfl⟩,X2A.ok⟩
def pFl(e:Eng):Prop:=X9j 4 e
def Xqo(e:Eng):Prop:=X9j 5 e
def X6O:Con:={A:=T4q,shA:=[.agg 3],R:=T4q,shR:=[(true,3)],fresh:=[(1,83),(2,9)],pre:=fun _ a=>(pFl a),f:=some fun _ a=>((fFl a),((),()))}
def X2E.F(a0:U3q):Prop:=((Xpr (a0.1,(a0.2.1,a0.2.2)))∧∀r1,(Eq r1 ((Xou (a0.1,(a0.2.1,a0.2.2))),((),())))→(X02 (decide ((ln r1.1.2.1)>(0:Int))) ((X2i r1.1.2.1)∧∀r2,(Eq r2 ((X0j r1.1.2.1),((),())))→(List.length r1.1.2.2+List.length [r2.1]≤9223372036854775807∧((List.length r1.1.2.2+List.length [r2.1])*16≤140737488355328∧(X02 (decide ((ln (r1.1.2.2++[r2.1]))>(4:Int))) ((XaA (r1.1.1,(([]:(List U1q)),(r1.1.2.2++[r2.1]))))∧∀r3,(Eq r3 ((X0f (r1.1.1,(([]:(List U1q)),(r1.1.2.2++[r2.1])))),((),())))→((X2i r3.1.1)∧∀r4,(Eq r4 ((XeH r3.1.1),((),())))→(Eq ((r1.1.1,(([]:(List U1q)),r4.1)),((),())) ((fFl a0),((),()))))) (Eq ((r1.1.1,(([]:(List U1q)),(r1.1.2.2++[r2.1]))),((),())) ((fFl a0),((),()))))))) (X02 (decide ((ln r1.1.2.2)>(4:Int))) ((XaA (r1.1.1,(r1.1.2.1,r1.1.2.2)))∧∀r5,(Eq r5 ((X0f (r1.1.1,(r1.1.2.1,r1.1.2.2))),((),())))→((X2i r5.1.1)∧∀r6,(Eq r6 ((XeH r5.1.1),((),())))→(Eq ((r1.1.1,(r1.1.2.1,r6.1)),((),())) ((fFl a0),((),()))))) (Eq ((r1.1.1,(r1.1.2.1,r1.1.2.2)),((),())) ((fFl a0),((),()))))))
theorem X2E.pure(a0:U3q)(h:(pFl a0))(hw:Wf X6O.A a0):X2E.F a0:=by
 delta X2E.F ln
 simp only[Bs,B0,B1,Prod.mk.injEq,X01,Prod.eta,Xou]
 have G:X9j 4 a0:=h
 obtain⟨f1,f2,f3⟩:=Xgs G
 have P:=f1.E (by omega)
 have S5:=X99 f1.pl
 have hle:=G.le
 have yes:4<(Xcz a0).2.2.length→X5R (Xcz a0)=fFl a0:=fun h=>by unfold fFl;rw[if_pos h]
 have no:¬4<(Xcz a0).2.2.length→Xcz a0=fFl a0:=fun h=>by unfold fFl;rw[if_neg h]
 have e1:a0.2.1≠[]→Xcz a0=(a0.1,[],a0.2.2++[X0j a0.2.1]):=fun h=>by unfold Xcz;rw[if_neg h]
 have e2:a0.2.1=[]→Xcz a0=a0:=fun h=>by unfold Xcz;rw[if_pos h]
 refine⟨Xpl G,fun h1=>?_,fun h1=>?_⟩
 · have hne:a0.2.1≠[]:=fun e=>by rw[e]at h1;simp at h1
   rw[e1 hne]at f1 P S5 yes no
   simp only[List.length_append,List.length_cons,List.length_nil]at yes no
   refine⟨X99 G.ca,by omega,by omega,fun h2=>?_,fun h2=>no (by omega)⟩
   exact⟨P,S5,yes (by omega)⟩
 · have he:a0.2.1=[]:=List.length_eq_zero_iff.1 (by omega)
   rw[e2 he]at yes no
   refine⟨fun h2=>?_,fun h2=>no (by omega)⟩
   exfalso;omega
theorem X2E.eq:EqS X6O Tryz.f94 [28] [X1M.e,X2Q.e,X2A.e,X1j.e] [] noL (fun i x=>X2E.F x):=by intro i x;kernel_rfl
theorem X2E.ok:X0n Tryz.prog 94 X6O:=X2j X2E.eq Tryz.func94 rfl (by kernel_rfl) fun i x h hi hw=>X2E.pure x h hw
def X2E.e:GE:=⟨94,X6O,⟨_,Tryz.func94,rfl,rfl⟩,X2E.ok⟩
def X77:Con:={A:=T4q,shA:=[.agg 3],R:=T4q,shR:=[(true,3)],fresh:=[(2,9)],pre:=fun _ a=>(Xqo a),f:=some fun _ a=>((X5R a),((),()))}
def X36.F(a0:U3q):Prop:=((XnH (a0.1,(a0.2.1,a0.2.2)))∧∀r1,(Eq r1 ((Xg9 (a0.1,(a0.2.1,a0.2.2))),((),())))→((Xm5 r1.1.1 a0.1)∧∀r2,(Eq r2 ((Xkh r1.1.1 a0.1),((),())))→((X2i r2.1)∧∀r3,(Eq r3 ((X0j r2.1),((),())))→(X02 (!(r3.1==[])) (List.length ([]:List U5q)+List.length [r3.1]≤9223372036854775807∧((List.length ([]:List U5q)+List.length [r3.1])*16≤140737488355328∧(Eq ((a0.1,(a0.2.1,(([]:List U5q)++[r3.1]))),((),())) ((X5R a0),((),()))))) (Eq ((a0.1,(a0.2.1,([]:(List U5q)))),((),())) ((X5R a0),((),())))))))
theorem X36.pure(a0:U3q)(h:(Xqo a0))(hw:Wf X77.A a0):X36.F a0:=by
 unfold X36.F
 simp only[Bs,B0,B1,Prod.mk.injEq,X01,Prod.eta]
 have G:X9j 5 a0:=h
 obtain⟨l1,l2,l3,l4⟩:=Xmd G (by omega)
 rw[l2];simp only;rw[l4]
 refine⟨l1,l3,X99 G.pl,fun h1=>?_,fun h1=>?_⟩
 · have X:(a0.1,a0.2.1,[X0j (X0f a0).1])=X5R a0:=by
    unfold X5R XeH;rw[if_neg (fun e=>h1 ((Xjk G.pl).2 e))]
   first | exact X | exact⟨by omega,by omega,X⟩
 · unfold X5R XeH;rw[if_pos ((Xjk G.pl).1 h1)]
theorem X36.eq:EqS X77 Tryz.f205 [28] [X0U.e,X10.e,X0P.e] [] noL (fun i x=>X36.F x):=by intro i x;kernel_rfl
theorem X36.ok:X0n Tryz.prog 205 X77:=X2j X36.eq Tryz.func205 rfl (by kernel_rfl) fun i x h hi hw=>X36.pure x h hw
def X36.e:GE:=⟨205,X77,⟨_,Tryz.func205,rfl,rfl⟩,X36.ok⟩
def X6b:Con:={A:=T4q,shA:=[.agg 3],ownA:=[(2,9)],R:=T4q,shR:=[(true,3)],fresh:=[(2,9)],pre:=fun _ a=>(pFl a),f:=some fun _ a=>((fFl a),((),()))}
def X24.F(a0:U3q):Prop:=(X02 (decide ((ln a0.2.1)>(0:Int))) ((X2i a0.2.1)∧∀r1,(Eq r1 ((X0j a0.2.1),((),())))→(List.length a0.2.2+List.length [r1.1]≤9223372036854775807∧((List.length a0.2.2+List.length [r1.1])*16≤140737488355328∧(X02 (decide ((ln (a0.2.2++[r1.1]))>(4:Int))) ((Xqo (a0.1,(([]:(List U1q)),(a0.2.2++[r1.1]))))∧∀r2,(Eq r2 ((X5R (a0.1,(([]:(List U1q)),(a0.2.2++[r1.1])))),((),())))→(Eq ((r2.1.1,(r2.1.2.1,r2.1.2.2)),((),())) ((fFl a0),((),())))) (Eq ((a0.1,(([]:(List U1q)),(a0.2.2++[r1.1]))),((),())) ((fFl a0),((),()))))))) (X02 (decide ((ln a0.2.2)>(4:Int))) ((Xqo (a0.1,(a0.2.1,a0.2.2)))∧∀r3,(Eq r3 ((X5R (a0.1,(a0.2.1,a0.2.2))),((),())))→(Eq ((r3.1.1,(r3.1.2.1,r3.1.2.2)),((),())) ((fFl a0),((),())))) (Eq ((a0.1,(a0.2.1,a0.2.2)),((),())) ((fFl a0),((),())))))
theorem X24.pure(a0:U3q)(h:(pFl a0))(hw:Wf X6b.A a0):X24.F a0:=by
 delta X24.F ln
 simp only[Bs,B0,B1,Prod.mk.injEq,X01,Prod.eta]
 have G:X9j 4 a0:=h
 obtain⟨f1,f2,f3⟩:=Xgs G
 have P:=f1.E (by omega)
 have S5:=X99 f1.pl
 have hle:=G.le
 have yes:4<(Xcz a0).2.2.length→X5R (Xcz a0)=fFl a0:=fun h=>by unfold fFl;rw[if_pos h]
 have no:¬4<(Xcz a0).2.2.length→Xcz a0=fFl a0:=fun h=>by unfold fFl;rw[if_neg h]
 have e1:a0.2.1≠[]→Xcz a0=(a0.1,[],a0.2.2++[X0j a0.2.1]):=fun h=>by unfold Xcz;rw[if_neg h]
 have e2:a0.2.1=[]→Xcz a0=a0:=fun h=>by unfold Xcz;rw[if_pos h]
 refine⟨fun h1=>?_,fun h1=>?_⟩
 · have hne:a0.2.1≠[]:=fun e=>by rw[e]at h1;simp at h1
   rw[e1 hne]at f1 P S5 yes no
   simp only[List.length_append,List.length_cons,List.length_nil]at yes no
   refine⟨X99 G.ca,by omega,by omega,fun h2=>?_,fun h2=>no (by omega)⟩
   exact⟨f1,yes (by omega)⟩
 · have he:a0.2.1=[]:=List.length_eq_zero_iff.1 (by omega)
   rw[e2 he]at yes no
   refine⟨fun h2=>?_,fun h2=>no (by omega)⟩
   exfalso;omega
theorem X24.eq:EqS X6b Tryz.f126 [28] [X0P.e,X36.e] [] noL (fun i x=>X24.F x):=by intro i x;kernel_rfl
theorem X24.ok:X0n Tryz.prog 126 X6b:=X2j X24.eq Tryz.func126 rfl (by kernel_rfl) fun i x h hi hw=>X24.pure x h hw
def X24.e:GE:=⟨126,X6b,⟨_,Tryz.func126,rfl,rfl⟩,X24.ok⟩
def X80:Con:={A:=T4q,shA:=[.agg 3],R:=T4q,shR:=[(true,3)],fresh:=[(1,83),(2,9)],pre:=fun _ a=>(X6f a),f:=some fun _ a=>((X9Q a),((),()))}
def X3Y.F(a0:U3q):Prop:=((X6f (a0.1,(a0.2.1,a0.2.2)))∧∀r1,(Eq r1 ((X1H (a0.1,(a0.2.1,a0.2.2))),((),())))→(X02 (!r1.1) (Eq ((0,(([]:(List U1q)),([]:(List U5q)))),((),())) ((X9Q a0),((),()))) ((pFl (a0.1,(a0.2.1,a0.2.2)))∧∀r2,(Eq r2 ((fFl (a0.1,(a0.2.1,a0.2.2))),((),())))→(Eq ((r2.1.1,(r2.1.2.1,r2.1.2.2)),((),())) ((X9Q a0),((),()))))))
theorem X3Y.pure(a0:U3q)(h:(X6f a0))(hw:Wf X80.A a0):X3Y.F a0:=by
 unfold X3Y.F
 simp only[Bs,B0,B1,Prod.mk.injEq,X01,Prod.eta]
 have hp:X6f a0:=h
 refine⟨hp,fun h1=>?_,fun h1=>?_⟩
 · unfold X9Q;rw[if_neg (by rw[h1];decide)];rfl
 have G:=X6s h1 hp
 obtain⟨g1,g2,g3⟩:=XdT G
 have X:X9Q a0=fFl a0:=by unfold X9Q;rw[if_pos h1]
 rw[X]
 exact⟨G,rfl⟩
theorem X3Y.eq:EqS X80 Tryz.f31 [28] [X2E.e,X27.e] [] noL (fun i x=>X3Y.F x):=by intro i x;kernel_rfl
theorem X3Y.ok:X0n Tryz.prog 31 X80:=X2j X3Y.eq Tryz.func31 rfl (by kernel_rfl) fun i x h hi hw=>X3Y.pure x h hw
def X3Y.e:GE:=⟨31,X80,⟨_,Tryz.func31,rfl,rfl⟩,X3Y.ok⟩
def X97:Con:={A:=T4q,shA:=[.agg 3],R:=T4q,shR:=[(true,3)],fresh:=[(1,83),(2,9)],pre:=fun _ a=>(X6f a),f:=some fun _ a=>((Xbn a),((),()))}
def X4C.F(a0:U3q):Prop:=((X6f (a0.1,(a0.2.1,a0.2.2)))∧∀r1,(Eq r1 ((X1H (a0.1,(a0.2.1,a0.2.2))),((),())))→(X02 (!r1.1) (Eq ((0,(([]:(List U1q)),([]:(List U5q)))),((),())) ((Xbn a0),((),()))) ((pFl (a0.1,(a0.2.1,a0.2.2)))∧∀r2,(Eq r2 ((fFl (a0.1,(a0.2.1,a0.2.2))),((),())))→((XaA (r2.1.1,(r2.1.2.1,r2.1.2.2)))∧∀r3,(Eq r3 ((X0f (r2.1.1,(r2.1.2.1,r2.1.2.2))),((),())))→((X2i r3.1.1)∧∀r4,(Eq r4 ((XeH r3.1.1),((),())))→(Eq ((r2.1.1,(r2.1.2.1,r4.1)),((),())) ((Xbn a0),((),()))))))))
theorem X4C.pure(a0:U3q)(h:(X6f a0))(hw:Wf X97.A a0):X4C.F a0:=by
 unfold X4C.F
 simp only[Bs,B0,B1,Prod.mk.injEq,X01,Prod.eta]
 have hp:X6f a0:=h
 refine⟨hp,fun h1=>?_,fun h1=>?_⟩
 · unfold Xbn;rw[if_neg (by rw[h1];decide)];rfl
 have G:=X6s h1 hp
 obtain⟨g1,g2,g3⟩:=XdT G
 have X:Xbn a0=X5R (fFl a0):=by unfold Xbn;rw[if_pos h1]
 rw[X]
 exact⟨G,g1.E (by omega),X99 g1.pl,rfl⟩
theorem X4C.eq:EqS X97 Tryz.f32 [28] [X2E.e,X27.e,X2Q.e,X2A.e] [] noL (fun i x=>X4C.F x):=by intro i x;kernel_rfl
theorem X4C.ok:X0n Tryz.prog 32 X97:=X2j X4C.eq Tryz.func32 rfl (by kernel_rfl) fun i x h hi hw=>X4C.pure x h hw
def X4C.e:GE:=⟨32,X97,⟨_,Tryz.func32,rfl,rfl⟩,X4C.ok⟩
end Go.Proofs.YtcfaphojdacmbaaGreatR.B
