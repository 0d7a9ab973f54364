/- Engines:put. -/
import Derived.Test.YtcfaphojdacmbaaGreatRCEngP
set_option maxRecDepth 100000
set_option linter.unusedVariables false
set_option linter.unusedSimpArgs false
namespace Go.Proofs.YtcfaphojdacmbaaGreatR.B
open Go Go.Proofs.YtcfaphojdacmbaaGreatR.Bv
def X6L:Con:={A:=(.pair T8q T2q),shA:=[.one,.one,.one],R:=T8q,shR:=[(false,1)],pre:=fun _ a=>(Xpf a.1 a.2.1 a.2.2),f:=some fun _ a=>((Xac a.1 a.2.1 a.2.2),((),()))}
def X2e.F(a0:(List U1q))(a1:U5q)(a2:U6q):Prop:=(eS [(0,.val false [.lst T2q a0 none]),(1,.val false [.str a1]),(2,.val false [.lst T0q a2 none])] [(0,.val false [.lst T2q a0 none]),(1,.val false [.str a1]),(2,.val false [.lst T0q a2 none])]∧((itI a0 a1 a2 ([]:List U1q) false 0)∧∀(y1:((List U1q)×(Bool×Int))),(itI a0 a1 a2 y1.1 y1.2.1 y1.2.2)→(X02 (decide (y1.2.2<(ln a0))) (X02 (!y1.2.1) (0≤y1.2.2∧(y1.2.2<(ln a0)∧(X02 (Op.bytesLess a1 ((List.getD a0 (tN y1.2.2) ([],[])).1)) (List.length ([]:List (Int×Int))+List.length a2≤9223372036854775807∧((List.length ([]:List (Int×Int))+List.length a2)*16≤140737488355328∧(List.length y1.1+List.length [(a1,(([]:List (Int×Int))++a2))]≤9223372036854775807∧((List.length y1.1+List.length [(a1,(([]:List (Int×Int))++a2))])*40≤140737488355328∧(0≤y1.2.2∧(y1.2.2<(ln a0)∧(X02 (((List.getD a0 (tN y1.2.2) ([],[])).1)==a1) ((XhJ ((List.getD a0 (tN y1.2.2) ([],[])).2) a2)∧∀r2,(Eq r2 ((XfQ ((List.getD a0 (tN y1.2.2) ([],[])).2) a2),((),())))→(List.length (y1.1++[(a1,(([]:List (Int×Int))++a2))])+List.length ([((List.getD a0 (tN y1.2.2) ([],[])).1,r2.1)]:List U1q)≤9223372036854775807∧((List.length (y1.1++[(a1,(([]:List (Int×Int))++a2))])+List.length ([((List.getD a0 (tN y1.2.2) ([],[])).1,r2.1)]:List U1q))*40≤140737488355328∧(eS [(0,.val false [.lst T2q a0 none]),(1,.val false [.str a1]),(2,.val false [.lst T0q a2 none])] [(0,.val false [.lst T2q a0 none]),(1,.val false [.str a1]),(2,.val false [.lst T0q a2 none])]∧(itI a0 a1 a2 ((y1.1++[(a1,(([]:List (Int×Int))++a2))])++[((List.getD a0 (tN y1.2.2) ([],[])).1,r2.1)]) true (wI (y1.2.2+(1:Int))))∧(itM a0 a1 a2 ((y1.1++[(a1,(([]:List (Int×Int))++a2))])++[((List.getD a0 (tN y1.2.2) ([],[])).1,r2.1)]) true (wI (y1.2.2+(1:Int))))<(itM a0 a1 a2 y1.1 y1.2.1 y1.2.2))))) (List.length (y1.1++[(a1,(([]:List (Int×Int))++a2))])+List.length ([((List.getD a0 (tN y1.2.2) ([],[])).1,(List.getD a0 (tN y1.2.2) ([],[])).2)]:List U1q)≤9223372036854775807∧((List.length (y1.1++[(a1,(([]:List (Int×Int))++a2))])+List.length ([((List.getD a0 (tN y1.2.2) ([],[])).1,(List.getD a0 (tN y1.2.2) ([],[])).2)]:List U1q))*40≤140737488355328∧(eS [(0,.val false [.lst T2q a0 none]),(1,.val false [.str a1]),(2,.val false [.lst T0q a2 none])] [(0,.val false [.lst T2q a0 none]),(1,.val false [.str a1]),(2,.val false [.lst T0q a2 none])]∧(itI a0 a1 a2 ((y1.1++[(a1,(([]:List (Int×Int))++a2))])++[((List.getD a0 (tN y1.2.2) ([],[])).1,(List.getD a0 (tN y1.2.2) ([],[])).2)]) true (wI (y1.2.2+(1:Int))))∧(itM a0 a1 a2 ((y1.1++[(a1,(([]:List (Int×Int))++a2))])++[((List.getD a0 (tN y1.2.2) ([],[])).1,(List.getD a0 (tN y1.2.2) ([],[])).2)]) true (wI (y1.2.2+(1:Int))))<(itM a0 a1 a2 y1.1 y1.2.1 y1.2.2))))))))))) (0≤y1.2.2∧(y1.2.2<(ln a0)∧(X02 (((List.getD a0 (tN y1.2.2) ([],[])).1)==a1) ((XhJ ((List.getD a0 (tN y1.2.2) ([],[])).2) a2)∧∀r3,(Eq r3 ((XfQ ((List.getD a0 (tN y1.2.2) ([],[])).2) a2),((),())))→(List.length y1.1+List.length ([((List.getD a0 (tN y1.2.2) ([],[])).1,r3.1)]:List U1q)≤9223372036854775807∧((List.length y1.1+List.length ([((List.getD a0 (tN y1.2.2) ([],[])).1,r3.1)]:List U1q))*40≤140737488355328∧(eS [(0,.val false [.lst T2q a0 none]),(1,.val false [.str a1]),(2,.val false [.lst T0q a2 none])] [(0,.val false [.lst T2q a0 none]),(1,.val false [.str a1]),(2,.val false [.lst T0q a2 none])]∧(itI a0 a1 a2 (y1.1++[((List.getD a0 (tN y1.2.2) ([],[])).1,r3.1)]) true (wI (y1.2.2+(1:Int))))∧(itM a0 a1 a2 (y1.1++[((List.getD a0 (tN y1.2.2) ([],[])).1,r3.1)]) true (wI (y1.2.2+(1:Int))))<(itM a0 a1 a2 y1.1 y1.2.1 y1.2.2))))) (List.length y1.1+List.length ([((List.getD a0 (tN y1.2.2) ([],[])).1,(List.getD a0 (tN y1.2.2) ([],[])).2)]:List U1q)≤9223372036854775807∧((List.length y1.1+List.length ([((List.getD a0 (tN y1.2.2) ([],[])).1,(List.getD a0 (tN y1.2.2) ([],[])).2)]:List U1q))*40≤140737488355328∧(eS [(0,.val false [.lst T2q a0 none]),(1,.val false [.str a1]),(2,.val false [.lst T0q a2 none])] [(0,.val false [.lst T2q a0 none]),(1,.val false [.str a1]),(2,.val false [.lst T0q a2 none])]∧(itI a0 a1 a2 (y1.1++[((List.getD a0 (tN y1.2.2) ([],[])).1,(List.getD a0 (tN y1.2.2) ([],[])).2)]) y1.2.1 (wI (y1.2.2+(1:Int))))∧(itM a0 a1 a2 (y1.1++[((List.getD a0 (tN y1.2.2) ([],[])).1,(List.getD a0 (tN y1.2.2) ([],[])).2)]) y1.2.1 (wI (y1.2.2+(1:Int))))<(itM a0 a1 a2 y1.1 y1.2.1 y1.2.2)))))))))) (0≤y1.2.2∧(y1.2.2<(ln a0)∧(X02 (((List.getD a0 (tN y1.2.2) ([],[])).1)==a1) ((XhJ ((List.getD a0 (tN y1.2.2) ([],[])).2) a2)∧∀r4,(Eq r4 ((XfQ ((List.getD a0 (tN y1.2.2) ([],[])).2) a2),((),())))→(List.length y1.1+List.length ([((List.getD a0 (tN y1.2.2) ([],[])).1,r4.1)]:List U1q)≤9223372036854775807∧((List.length y1.1+List.length ([((List.getD a0 (tN y1.2.2) ([],[])).1,r4.1)]:List U1q))*40≤140737488355328∧(eS [(0,.val false [.lst T2q a0 none]),(1,.val false [.str a1]),(2,.val false [.lst T0q a2 none])] [(0,.val false [.lst T2q a0 none]),(1,.val false [.str a1]),(2,.val false [.lst T0q a2 none])]∧(itI a0 a1 a2 (y1.1++[((List.getD a0 (tN y1.2.2) ([],[])).1,r4.1)]) true (wI (y1.2.2+(1:Int))))∧(itM a0 a1 a2 (y1.1++[((List.getD a0 (tN y1.2.2) ([],[])).1,r4.1)]) true (wI (y1.2.2+(1:Int))))<(itM a0 a1 a2 y1.1 y1.2.1 y1.2.2))))) (List.length y1.1+List.length ([((List.getD a0 (tN y1.2.2) ([],[])).1,(List.getD a0 (tN y1.2.2) ([],[])).2)]:List U1q)≤9223372036854775807∧((List.length y1.1+List.length ([((List.getD a0 (tN y1.2.2) ([],[])).1,(List.getD a0 (tN y1.2.2) ([],[])).2)]:List U1q))*40≤140737488355328∧(eS [(0,.val false [.lst T2q a0 none]),(1,.val false [.str a1]),(2,.val false [.lst T0q a2 none])] [(0,.val false [.lst T2q a0 none]),(1,.val false [.str a1]),(2,.val false [.lst T0q a2 none])]∧(itI a0 a1 a2 (y1.1++[((List.getD a0 (tN y1.2.2) ([],[])).1,(List.getD a0 (tN y1.2.2) ([],[])).2)]) y1.2.1 (wI (y1.2.2+(1:Int))))∧(itM a0 a1 a2 (y1.1++[((List.getD a0 (tN y1.2.2) ([],[])).1,(List.getD a0 (tN y1.2.2) ([],[])).2)]) y1.2.1 (wI (y1.2.2+(1:Int))))<(itM a0 a1 a2 y1.1 y1.2.1 y1.2.2)))))))) (X02 (!y1.2.1) (List.length ([]:List (Int×Int))+List.length a2≤9223372036854775807∧((List.length ([]:List (Int×Int))+List.length a2)*16≤140737488355328∧(List.length y1.1+List.length [(a1,(([]:List (Int×Int))++a2))]≤9223372036854775807∧((List.length y1.1+List.length [(a1,(([]:List (Int×Int))++a2))])*40≤140737488355328∧(Eq ((y1.1++[(a1,(([]:List (Int×Int))++a2))]),((),())) ((Xac a0 a1 a2),((),()))))))) (Eq (y1.1,((),())) ((Xac a0 a1 a2),((),())))))))
def X2e.L(a0:(List U1q))(a1:U5q)(a2:U6q):Nat→Option X0c:=fun p=>Go.Proofs.YtcfaphojdacmbaaGreatR.Bv.look p [(122,{kp:={hold:=[0,1,2],slots:=[7,8,9],boxes:=[],rows:=[{bx:=false,s:=7,i:=0,k:=1000899,e:=83,hot:=false}]},T:=(.pair T8q (.pair .bool (.int .i64))),I:=fun st y=>itI a0 a1 a2 y.1 y.2.1 y.2.2,μ:=fun st y=>itM a0 a1 a2 y.1 y.2.1 y.2.2})]
theorem X2e.pure(a0:(List U1q))(a1:U5q)(a2:U6q)(h:(Xpf a0 a1 a2))(hw:Wf X6L.A (a0,a1,a2)):X2e.F a0 a1 a2:=by
 delta X2e.F ln tN wI eS
 simp only[Bs,B0,B1,Prod.mk.injEq,X01,XfQ,XhJ,Prod.eta,List.nil_append]
 obtain⟨hn,hl⟩:=h
 have k1:=X6U a0
 refine⟨⟨by omega,by omega,rfl,by simp⟩,?_⟩
 rintro⟨out,put,i⟩ hI
 simp only at hI ⊢
 have q1:=hI.h1
 have q2:=hI.h2
 have q4:=hI.h4
 have hen:=XqT hI
 have hm:i<(a0.length:Int)→((a0.getD i.toNat ([],[])).2.length:Int)+1≤tot a0:=fun hi=>XaC (X1e (by omega))
 have st:∀{o' put'},i<(a0.length:Int)→_→_→itI a0 a1 a2 o' put' (i+1):=fun hi=>XoJ hI hi
 have dn:∀o p,i<(a0.length:Int)→itM a0 a1 a2 o p (i+1)<itM a0 a1 a2 out put i:=fun o p h=>by unfold itM;omega
 generalize hx:a0.getD i.toNat ([],[])=x at st hm ⊢
 repeat' (with_reducible (first | (refine And.intro ?_ ?_) | intro _))
 all_goals (try simp (disch:=omega) only[w64,List.length_append,List.length_cons,List.length_nil]at*)
 all_goals (try have hm2:=hm ‹_›)
 all_goals (first
  | omega
  | exact dn _ _ ‹_›
  | exact(hen ‹_›).1 ‹_›
  | exact(hen ‹_›).2 ‹_›
  | (refine st ‹_› (by simp only[List.length_append,List.length_cons,List.length_nil];omega) fun r=>?_;simp only[XaI,List.append_assoc,List.cons_append,List.nil_append];first | (simp[*];done) | (simp_all;done))
  | skip)
theorem X2e.eq:EqS X6L Tryz.f181 [25] [X1Y.e] [] (fun i x=>X2e.L x.1 x.2.1 x.2.2) (fun i x=>X2e.F x.1 x.2.1 x.2.2):=by intro i x;kernel_rfl
theorem X2e.ok:X0n Tryz.prog 181 X6L:=X2j X2e.eq Tryz.func181 rfl (by kernel_rfl) fun i x h hi hw=>X2e.pure x.1 x.2.1 x.2.2 h hw
def X2e.e:GE:=⟨181,X6L,⟨_,Tryz.func181,rfl,rfl⟩,X2e.ok⟩
def XeR(e:Eng):(List (List Ser)×Bool)×List Str:=(Xg9 e,e.2.2)
def X4L:Con:={A:=T4q,shA:=[.agg 3],backA:=[(2,9)],B:=(.list .str),R:=(.pair (.list T8q) .bool),shR:=[(false,1),(false,1)],pre:=fun _ a=>(XnH a),f:=some fun _ a=>((XeR a).1,((),(XeR a).2))}
def X12.F(a0:U3q):Prop:=(eS [(0,.val true [.int .i64 a0.1,.lst T2q a0.2.1 none,.own .str 6]),(1,.box 2 0)] [(0,.val true [.int .i64 a0.1,.lst T2q a0.2.1 none,.own .str 6]),(1,.box 2 0)]∧((lyI a0 ([]:List (List U1q)) 0 a0.1 a0.2.1 a0.2.2)∧∀(y1:((List (List U1q))×(Int×U3q))),(lyI a0 y1.1 y1.2.1 y1.2.2.1 y1.2.2.2.1 y1.2.2.2.2)→(X02 (decide (y1.2.1<(ln y1.2.2.2.2))) (0≤y1.2.1∧(y1.2.1<(ln y1.2.2.2.2)∧((XfL (List.getD y1.2.2.2.2 (tN y1.2.1) []))∧∀r2,(Eq r2 ((X0d (List.getD y1.2.2.2.2 (tN y1.2.1) [])),((),())))→(X02 (!r2.1.2) (Eq ((y1.1,false),((),y1.2.2.2.2)) ((XeR a0).1,((),(XeR a0).2))) (List.length y1.1+List.length [r2.1.1]≤9223372036854775807∧((List.length y1.1+List.length [r2.1.1])*24≤140737488355328∧(eS [(0,.val true [.int .i64 a0.1,.lst T2q a0.2.1 none,.own .str 6]),(1,.box 2 0)] [(0,.val true [.int .i64 a0.1,.lst T2q a0.2.1 none,.own .str 6]),(1,.box 2 0)]∧(lyI a0 (y1.1++[r2.1.1]) (wI (y1.2.1+(1:Int))) y1.2.2.1 y1.2.2.2.1 y1.2.2.2.2)∧(lyM a0 (y1.1++[r2.1.1]) (wI (y1.2.1+(1:Int))) y1.2.2.1 y1.2.2.2.1 y1.2.2.2.2)<(lyM a0 y1.1 y1.2.1 y1.2.2.1 y1.2.2.2.1 y1.2.2.2.2)))))))) (List.length y1.1+List.length [y1.2.2.2.1]≤9223372036854775807∧((List.length y1.1+List.length [y1.2.2.2.1])*24≤140737488355328∧(Eq (((y1.1++[y1.2.2.2.1]),true),((),y1.2.2.2.2)) ((XeR a0).1,((),(XeR a0).2))))))))
def X12.L(a0:U3q):Nat→Option X0c:=fun p=>Go.Proofs.YtcfaphojdacmbaaGreatR.Bv.look p [(58,{kp:={hold:=[0,1],slots:=[4,5],boxes:=[2],rows:=[{bx:=false,s:=4,i:=0,k:=1000515,e:=25,hot:=false},{bx:=false,s:=0,i:=2,k:=6,e:=9,hot:=true}]},T:=(.pair (.list T8q) (.pair (.int .i64) T4q)),I:=fun st y=>lyI a0 y.1 y.2.1 y.2.2.1 y.2.2.2.1 y.2.2.2.2,μ:=fun st y=>lyM a0 y.1 y.2.1 y.2.2.1 y.2.2.2.1 y.2.2.2.2})]
theorem X12.pure(a0:U3q)(h:(XnH a0))(hw:Wf X4L.A a0):X12.F a0:=by
 delta X12.F ln tN wI eS
 simp only[Bs,B0,B1,Prod.mk.injEq,X01,Prod.eta,XeR]
 obtain⟨hf,hl⟩:=h
 refine⟨⟨rfl,by omega,by omega,by simp[X7s],fun j hj=>absurd hj (by simp)⟩,?_⟩
 rintro⟨out,i,fl,ca,fi⟩ hI
 simp only at hI ⊢
 have q1:=hI.h1
 have q2:=hI.h2
 have q3:=congrArg List.length hI.h3
 rw[Xem,List.length_take]at q3
 have st:=Xmb hI
 have no:=XpZ hI
 have en:=Xo5 hI
 obtain rfl:=hI.h0
 simp only at hf hl q2 q3 st no en ⊢
 refine⟨fun hi=>?_,fun hi=>⟨by omega,by omega,en hi,trivial⟩⟩
 have hm:=X1e (d:=([]:List UInt8)) (by omega:i.toNat<fi.length)
 rw[w64 (x:=i+1) (by omega) (by omega)]
 exact⟨q1,hi,hf _ hm,fun hr=>⟨no hi hr,trivial⟩,fun hr=>⟨by omega,by omega,st hi hr,by unfold lyM;simp only;omega⟩⟩
theorem X12.eq:EqS X4L Tryz.f106 [132,4] [X26.e] [] (fun i x=>X12.L x) (fun i x=>X12.F x):=by intro i x;kernel_rfl
theorem X12.ok:X0n Tryz.prog 106 X4L:=X2j X12.eq Tryz.func106 rfl (by kernel_rfl) fun i x h hi hw=>X12.pure x h hw
def X12.e:GE:=⟨106,X4L,⟨_,Tryz.func106,rfl,rfl⟩,X12.ok⟩
def XeO(e:Eng)(k:Str)(p:List Pt):Eng×Int:=XfS e k p
def Xpt(e:Eng)(k:Str)(p:List Pt):Prop:=X1H e=true∧X6f e∧XmI k
def X7e:Con:={A:=(.pair T4q T2q),shA:=[.agg 3,.one,.one],ownA:=[(2,9)],R:=(.pair T4q (.int .i64)),shR:=[(true,3),(false,1)],fresh:=[(2,9)],pre:=fun _ a=>(Xpt a.1 a.2.1 a.2.2),f:=some fun _ a=>((XeO a.1 a.2.1 a.2.2),((),()))}
def X3t.F(a0:U3q)(a1:U5q)(a2:U6q):Prop:=((XmI a1)∧∀r1,(Eq r1 ((X9f a1),((),())))→(X02 (!r1.1) (Eq (((a0.1,(a0.2.1,a0.2.2)),1),((),())) ((XeO a0 a1 a2),((),()))) (True∧∀r2,(Eq r2 ((X0F a2),((),())))→(X02 (!r2.1) (Eq (((a0.1,(a0.2.1,a0.2.2)),1),((),())) ((XeO a0 a1 a2),((),()))) (X02 ((ln a2)==(0:Int)) (Eq (((a0.1,(a0.2.1,a0.2.2)),1),((),())) ((XeO a0 a1 a2),((),()))) (0≤(0:Int)∧((0:Int)<(ln a2)∧(X02 (decide (((List.getD a2 (tN (0:Int)) (0,0)).1)<a0.1)) (Eq (((a0.1,(a0.2.1,a0.2.2)),2),((),())) ((XeO a0 a1 a2),((),()))) ((Xpf a0.2.1 a1 a2)∧∀r3,(Eq r3 ((Xac a0.2.1 a1 a2),((),())))→((XnH (a0.1,(r3.1,a0.2.2)))∧∀r4,(Eq r4 ((XeR (a0.1,(r3.1,a0.2.2))).1,((),(XeR (a0.1,(r3.1,a0.2.2))).2)))→((Xm5 r4.1.1 a0.1)∧∀r5,(Eq r5 ((Xkh r4.1.1 a0.1),((),())))→((X2i r5.1)∧∀r6,(Eq r6 ((X0B r5.1),((),())))→(X02 (!r6.1) (Eq (((a0.1,(a0.2.1,r4.2.2)),3),((),())) ((XeO a0 a1 a2),((),()))) ((XmF r3.1)∧∀r7,(Eq r7 ((Xal r3.1),((),())))→(X02 (decide (r7.1>(40:Int))) ((pFl (a0.1,(r3.1,r4.2.2)))∧∀r8,(Eq r8 ((fFl (a0.1,(r3.1,r4.2.2))),((),())))→(Eq (((r8.1.1,(r8.1.2.1,r8.1.2.2)),0),((),())) ((XeO a0 a1 a2),((),())))) (Eq (((a0.1,(r3.1,r4.2.2)),0),((),())) ((XeO a0 a1 a2),((),()))))))))))))))))))
theorem X3t.pure(a0:U3q)(a1:U5q)(a2:U6q)(h:(Xpt a0 a1 a2))(hw:Wf X7e.A (a0,a1,a2)):X3t.F a0 a1 a2:=by
 delta X3t.F ln tN
 simp only[Bs,B0,B1,Prod.mk.injEq,X01,Prod.eta,XeO,XeR]
 obtain⟨h1,hp,hk⟩:=h
 have G:=X6s h1 hp
 have bad:¬(X9f a1=true∧X0F a2=true∧a2≠[])→(a0,(1:Int))=XfS a0 a1 a2:=fun h=>by unfold XfS;rw[if_pos h1,if_neg h]
 have late:(X9f a1=true∧X0F a2=true∧a2≠[])→(a2.getD 0 (0,0)).1<a0.1→(a0,(2:Int))=XfS a0 a1 a2:=fun h h'=>by unfold XfS;rw[if_pos h1,if_pos h,if_pos h']
 have full:(X9f a1=true∧X0F a2=true∧a2≠[])→¬(a2.getD 0 (0,0)).1<a0.1→X0B (X0f (eX a0 a1 a2)).1=false→(a0,(3:Int))=XfS a0 a1 a2:=fun h h' h2=>by unfold XfS;rw[if_pos h1,if_pos h,if_neg h',if_neg (by rw[h2];decide)]
 have big:(X9f a1=true∧X0F a2=true∧a2≠[])→¬(a2.getD 0 (0,0)).1<a0.1→X0B (X0f (eX a0 a1 a2)).1=true→40<Xal (eX a0 a1 a2).2.1→(fFl (eX a0 a1 a2),(0:Int))=XfS a0 a1 a2:=fun h h' h2 h3=>by unfold XfS;rw[if_pos h1,if_pos h,if_neg h',if_pos h2,if_pos h3]
 have fine:(X9f a1=true∧X0F a2=true∧a2≠[])→¬(a2.getD 0 (0,0)).1<a0.1→X0B (X0f (eX a0 a1 a2)).1=true→¬40<Xal (eX a0 a1 a2).2.1→(eX a0 a1 a2,(0:Int))=XfS a0 a1 a2:=fun h h' h2 h3=>by unfold XfS;rw[if_pos h1,if_pos h,if_neg h',if_pos h2,if_neg h3]
 have ca:=X3b G.ca
 have le:=G.le
 refine⟨hk,fun h2=>bad (by simp[h2]),fun h2=>⟨fun h3=>bad (by simp[h3]),fun h3=>⟨fun h4=>bad (fun hh=>hh.2.2 (List.length_eq_zero_iff.1 (by omega))),fun h4=>?_⟩⟩⟩
 have hn:a2≠[]:=fun e=>h4 (by rw[e];rfl)
 have hn2:0<a2.length:=List.length_pos_iff.2 hn
 have hq:X9f a1=true∧X0F a2=true∧a2≠[]:=⟨h2,h3,hn⟩
 have hl:=Xa7 h3
 have e0:(0:Int).toNat=0:=rfl
 simp only[e0]
 refine⟨by omega,by omega,fun h5=>late hq h5,fun h5=>⟨⟨by omega,by omega⟩,?_⟩⟩
 obtain⟨X1,X2⟩:=Xje h1 hp h3 hn h5
 have eX0:(a0.1,Xac a0.2.1 a1 a2,a0.2.2)=eX a0 a1 a2:=by rw[XiT G.R.1];rfl
 have eX1:Xac a0.2.1 a1 a2=(eX a0 a1 a2).2.1:=by rw[←eX0]
 have hS:∀x∈[((a1,a2):Ser)],Xaq x.2:=fun x hx=>by rw[List.mem_singleton.1 hx];exact hl.1
 have hc2:X8M (eX a0 a1 a2).2.1:=X4t G.R hS
 have ht2:tot (eX a0 a1 a2).2.1≤305+61:=by
  have t1:=Xb2 G.R hS
  have t2:tot [((a1,a2):Ser)]=(a2.length:Int)+1:=by simp[tot,cL,cS]
  have t3:tot (eX a0 a1 a2).2.1=tot (X30 a0.2.1 [(a1,a2)]):=rfl
  omega
 have hy:Xg9 (eX a0 a1 a2)=(X7s a0.2.2++[(eX a0 a1 a2).2.1],true):=Xe6 (e:=eX a0 a1 a2) G.ok
 have hpl:Xkh (X7s a0.2.2++[(eX a0 a1 a2).2.1]) a0.1=(X0f (eX a0 a1 a2)).1:=Xnz (e:=eX a0 a1 a2) hc2 G.ok
 have htt:=XcS (eX a0 a1 a2)
 have htt2:cL tot (X7s (eX a0 a1 a2).2.2++[(eX a0 a1 a2).2.1])=cL tot (X7s a0.2.2++[(eX a0 a1 a2).2.1]):=rfl
 have hle2:(eX a0 a1 a2).2.2.length=a0.2.2.length:=rfl
 have hkey:X2i (X0f (eX a0 a1 a2)).1:=by
  rw[←X1]
  have hk8:a1.length≤8:=by
   have:=h2;unfold X9f fIn at this;simp only[Bool.and_eq_true,decide_eq_true_eq]at this;omega
  refine Xjm (Xbp (fun x hx=>((X3b G.pl).2.2.2 x hx).1) fun x hx=>?_)
  rw[List.mem_singleton.1 hx];exact hk8
 rw[eX0,hy]
 simp only
 rw[hpl,eX1]
 refine⟨⟨G.st,by omega⟩,by unfold Xm5;omega,hkey,fun h6=>full hq h5 h6,fun h6=>⟨by unfold XmF;omega,fun h7=>⟨X2 h6,big hq h5 h6 h7⟩,fun h7=>fine hq h5 h6 (by omega)⟩⟩
theorem X3t.eq:EqS X7e Tryz.f110 [28,3] [X1k.e,X1i.e,X1A.e,X12.e,X10.e,X24.e,X31.e,X2e.e] [] noL (fun i x=>X3t.F x.1 x.2.1 x.2.2):=by intro i x;kernel_rfl
theorem X3t.ok:X0n Tryz.prog 110 X7e:=X2j X3t.eq Tryz.func110 rfl (by kernel_rfl) fun i x h hi hw=>X3t.pure x.1 x.2.1 x.2.2 h hw
def X3t.e:GE:=⟨110,X7e,⟨_,Tryz.func110,rfl,rfl⟩,X3t.ok⟩
end Go.Proofs.YtcfaphojdacmbaaGreatR.B
