/- Engines:put. -/
import Derived.Test.YtcfaphojdacmbaaGreatRCEngP
set_option maxRecDepth 100000
set_option linter.unusedVariables false
set_option linter.unusedSimpArgs false
namespace Go.Proofs.YtcfaphojdacmbaaGreatR.B
open Go Go.Proofs.YtcfaphojdacmbaaGreatR.Bv
def X75:Con:={A:=(.pair T9q T2q),shA:=[.one,.one,.one],R:=T9q,shR:=[(false,1)],pre:=fun _ a=>(XpR a.1 a.2.1 a.2.2),f:=some fun _ a=>((XaU a.1 a.2.1 a.2.2),((),()))}
def X2q.F(a0:(List U1q))(a1:U5q)(a2:U6q):Prop:=(eS [(0,.val false [.lst T2q a0 none]),(1,.val false [.str a1]),(2,.val false [.lst T0q a2 none])] [(0,.val false [.lst T2q a0 none]),(1,.val false [.str a1]),(2,.val false [.lst T0q a2 none])]∧((itI a0 a1 a2 ([]:List U1q) false 0)∧∀(y1:((List U1q)×(Bool×Int))),(itI a0 a1 a2 y1.1 y1.2.1 y1.2.2)→(X00 (decide (y1.2.2<(ln a0))) (X00 (!y1.2.1) (0≤y1.2.2∧(y1.2.2<(ln a0)∧(X00 (Op.bytesLess a1 ((List.getD a0 (tN y1.2.2) ([],[])).1)) (List.length ([]:List (Int×Int))+List.length a2≤9223372036854775807∧((List.length ([]:List (Int×Int))+List.length a2)*16≤140737488355328∧(List.length y1.1+List.length [(a1,(([]:List (Int×Int))++a2))]≤9223372036854775807∧((List.length y1.1+List.length [(a1,(([]:List (Int×Int))++a2))])*40≤140737488355328∧(0≤y1.2.2∧(y1.2.2<(ln a0)∧(X00 (((List.getD a0 (tN y1.2.2) ([],[])).1)==a1) ((Xfc ((List.getD a0 (tN y1.2.2) ([],[])).2) a2)∧∀r2,(Eq r2 ((Xen ((List.getD a0 (tN y1.2.2) ([],[])).2) a2),((),())))→(List.length (y1.1++[(a1,(([]:List (Int×Int))++a2))])+List.length ([((List.getD a0 (tN y1.2.2) ([],[])).1,r2.1)]:List U1q)≤9223372036854775807∧((List.length (y1.1++[(a1,(([]:List (Int×Int))++a2))])+List.length ([((List.getD a0 (tN y1.2.2) ([],[])).1,r2.1)]:List U1q))*40≤140737488355328∧(eS [(0,.val false [.lst T2q a0 none]),(1,.val false [.str a1]),(2,.val false [.lst T0q a2 none])] [(0,.val false [.lst T2q a0 none]),(1,.val false [.str a1]),(2,.val false [.lst T0q a2 none])]∧(itI a0 a1 a2 ((y1.1++[(a1,(([]:List (Int×Int))++a2))])++[((List.getD a0 (tN y1.2.2) ([],[])).1,r2.1)]) true (wI (y1.2.2+(1:Int))))∧(itM a0 a1 a2 ((y1.1++[(a1,(([]:List (Int×Int))++a2))])++[((List.getD a0 (tN y1.2.2) ([],[])).1,r2.1)]) true (wI (y1.2.2+(1:Int))))<(itM a0 a1 a2 y1.1 y1.2.1 y1.2.2))))) (List.length (y1.1++[(a1,(([]:List (Int×Int))++a2))])+List.length ([((List.getD a0 (tN y1.2.2) ([],[])).1,(List.getD a0 (tN y1.2.2) ([],[])).2)]:List U1q)≤9223372036854775807∧((List.length (y1.1++[(a1,(([]:List (Int×Int))++a2))])+List.length ([((List.getD a0 (tN y1.2.2) ([],[])).1,(List.getD a0 (tN y1.2.2) ([],[])).2)]:List U1q))*40≤140737488355328∧(eS [(0,.val false [.lst T2q a0 none]),(1,.val false [.str a1]),(2,.val false [.lst T0q a2 none])] [(0,.val false [.lst T2q a0 none]),(1,.val false [.str a1]),(2,.val false [.lst T0q a2 none])]∧(itI a0 a1 a2 ((y1.1++[(a1,(([]:List (Int×Int))++a2))])++[((List.getD a0 (tN y1.2.2) ([],[])).1,(List.getD a0 (tN y1.2.2) ([],[])).2)]) true (wI (y1.2.2+(1:Int))))∧(itM a0 a1 a2 ((y1.1++[(a1,(([]:List (Int×Int))++a2))])++[((List.getD a0 (tN y1.2.2) ([],[])).1,(List.getD a0 (tN y1.2.2) ([],[])).2)]) true (wI (y1.2.2+(1:Int))))<(itM a0 a1 a2 y1.1 y1.2.1 y1.2.2))))))))))) (0≤y1.2.2∧(y1.2.2<(ln a0)∧(X00 (((List.getD a0 (tN y1.2.2) ([],[])).1)==a1) ((Xfc ((List.getD a0 (tN y1.2.2) ([],[])).2) a2)∧∀r3,(Eq r3 ((Xen ((List.getD a0 (tN y1.2.2) ([],[])).2) a2),((),())))→(List.length y1.1+List.length ([((List.getD a0 (tN y1.2.2) ([],[])).1,r3.1)]:List U1q)≤9223372036854775807∧((List.length y1.1+List.length ([((List.getD a0 (tN y1.2.2) ([],[])).1,r3.1)]:List U1q))*40≤140737488355328∧(eS [(0,.val false [.lst T2q a0 none]),(1,.val false [.str a1]),(2,.val false [.lst T0q a2 none])] [(0,.val false [.lst T2q a0 none]),(1,.val false [.str a1]),(2,.val false [.lst T0q a2 none])]∧(itI a0 a1 a2 (y1.1++[((List.getD a0 (tN y1.2.2) ([],[])).1,r3.1)]) true (wI (y1.2.2+(1:Int))))∧(itM a0 a1 a2 (y1.1++[((List.getD a0 (tN y1.2.2) ([],[])).1,r3.1)]) true (wI (y1.2.2+(1:Int))))<(itM a0 a1 a2 y1.1 y1.2.1 y1.2.2))))) (List.length y1.1+List.length ([((List.getD a0 (tN y1.2.2) ([],[])).1,(List.getD a0 (tN y1.2.2) ([],[])).2)]:List U1q)≤9223372036854775807∧((List.length y1.1+List.length ([((List.getD a0 (tN y1.2.2) ([],[])).1,(List.getD a0 (tN y1.2.2) ([],[])).2)]:List U1q))*40≤140737488355328∧(eS [(0,.val false [.lst T2q a0 none]),(1,.val false [.str a1]),(2,.val false [.lst T0q a2 none])] [(0,.val false [.lst T2q a0 none]),(1,.val false [.str a1]),(2,.val false [.lst T0q a2 none])]∧(itI a0 a1 a2 (y1.1++[((List.getD a0 (tN y1.2.2) ([],[])).1,(List.getD a0 (tN y1.2.2) ([],[])).2)]) y1.2.1 (wI (y1.2.2+(1:Int))))∧(itM a0 a1 a2 (y1.1++[((List.getD a0 (tN y1.2.2) ([],[])).1,(List.getD a0 (tN y1.2.2) ([],[])).2)]) y1.2.1 (wI (y1.2.2+(1:Int))))<(itM a0 a1 a2 y1.1 y1.2.1 y1.2.2)))))))))) (0≤y1.2.2∧(y1.2.2<(ln a0)∧(X00 (((List.getD a0 (tN y1.2.2) ([],[])).1)==a1) ((Xfc ((List.getD a0 (tN y1.2.2) ([],[])).2) a2)∧∀r4,(Eq r4 ((Xen ((List.getD a0 (tN y1.2.2) ([],[])).2) a2),((),())))→(List.length y1.1+List.length ([((List.getD a0 (tN y1.2.2) ([],[])).1,r4.1)]:List U1q)≤9223372036854775807∧((List.length y1.1+List.length ([((List.getD a0 (tN y1.2.2) ([],[])).1,r4.1)]:List U1q))*40≤140737488355328∧(eS [(0,.val false [.lst T2q a0 none]),(1,.val false [.str a1]),(2,.val false [.lst T0q a2 none])] [(0,.val false [.lst T2q a0 none]),(1,.val false [.str a1]),(2,.val false [.lst T0q a2 none])]∧(itI a0 a1 a2 (y1.1++[((List.getD a0 (tN y1.2.2) ([],[])).1,r4.1)]) true (wI (y1.2.2+(1:Int))))∧(itM a0 a1 a2 (y1.1++[((List.getD a0 (tN y1.2.2) ([],[])).1,r4.1)]) true (wI (y1.2.2+(1:Int))))<(itM a0 a1 a2 y1.1 y1.2.1 y1.2.2))))) (List.length y1.1+List.length ([((List.getD a0 (tN y1.2.2) ([],[])).1,(List.getD a0 (tN y1.2.2) ([],[])).2)]:List U1q)≤9223372036854775807∧((List.length y1.1+List.length ([((List.getD a0 (tN y1.2.2) ([],[])).1,(List.getD a0 (tN y1.2.2) ([],[])).2)]:List U1q))*40≤140737488355328∧(eS [(0,.val false [.lst T2q a0 none]),(1,.val false [.str a1]),(2,.val false [.lst T0q a2 none])] [(0,.val false [.lst T2q a0 none]),(1,.val false [.str a1]),(2,.val false [.lst T0q a2 none])]∧(itI a0 a1 a2 (y1.1++[((List.getD a0 (tN y1.2.2) ([],[])).1,(List.getD a0 (tN y1.2.2) ([],[])).2)]) y1.2.1 (wI (y1.2.2+(1:Int))))∧(itM a0 a1 a2 (y1.1++[((List.getD a0 (tN y1.2.2) ([],[])).1,(List.getD a0 (tN y1.2.2) ([],[])).2)]) y1.2.1 (wI (y1.2.2+(1:Int))))<(itM a0 a1 a2 y1.1 y1.2.1 y1.2.2)))))))) (X00 (!y1.2.1) (List.length ([]:List (Int×Int))+List.length a2≤9223372036854775807∧((List.length ([]:List (Int×Int))+List.length a2)*16≤140737488355328∧(List.length y1.1+List.length [(a1,(([]:List (Int×Int))++a2))]≤9223372036854775807∧((List.length y1.1+List.length [(a1,(([]:List (Int×Int))++a2))])*40≤140737488355328∧(Eq ((y1.1++[(a1,(([]:List (Int×Int))++a2))]),((),())) ((XaU a0 a1 a2),((),()))))))) (Eq (y1.1,((),())) ((XaU a0 a1 a2),((),())))))))
def X2q.L(a0:(List U1q))(a1:U5q)(a2:U6q):Nat→Option X0d:=fun p=>Go.Proofs.YtcfaphojdacmbaaGreatR.Bv.look p [(122,{kp:={hold:=[0,1,2],slots:=[7,8,9],boxes:=[],rows:=[{bx:=false,s:=7,i:=0,k:=1000899,e:=83,hot:=false}]},T:=(.pair T9q (.pair .bool (.int .i64))),I:=fun st y=>itI a0 a1 a2 y.1 y.2.1 y.2.2,μ:=fun st y=>itM a0 a1 a2 y.1 y.2.1 y.2.2})]
theorem X2q.pure(a0:(List U1q))(a1:U5q)(a2:U6q)(h:(XpR a0 a1 a2))(hw:Wf X75.A (a0,a1,a2)):X2q.F a0 a1 a2:=by
 delta X2q.F ln tN wI eS
 simp only[Bs,B0,B1,Prod.mk.injEq,X01,Xen,Xfc,Prod.eta,List.nil_append]
 obtain⟨hn,hl⟩:=h
 have k1:=X7k a0
 refine⟨⟨by omega,by omega,rfl,by simp⟩,?_⟩
 rintro⟨out,put,i⟩ hI
 simp only at hI ⊢
 have q1:=hI.h1
 have q2:=hI.h2
 have q4:=hI.h4
 have hen:=XrO hI
 have hm:i<(a0.length:Int)→((a0.getD i.toNat ([],[])).2.length:Int)+1≤tot a0:=fun hi=>Xbh (X14 (by omega))
 have st:∀{o' put'},i<(a0.length:Int)→_→_→itI a0 a1 a2 o' put' (i+1):=fun hi=>Xqj hI hi
 have dn:∀o p,i<(a0.length:Int)→itM a0 a1 a2 o p (i+1)<itM a0 a1 a2 out put i:=fun o p h=>by unfold itM;omega
 generalize hx:a0.getD i.toNat ([],[])=x at st hm ⊢
 repeat' (with_reducible (first | (refine And.intro ?_ ?_) | intro _))
 all_goals (try simp (disch:=omega) only[w64,List.length_append,List.length_cons,List.length_nil]at*)
 all_goals (try have hm2:=hm ‹_›)
 all_goals (first
  | omega
  | exact dn _ _ ‹_›
  | exact(hen ‹_›).1 ‹_›
  | exact(hen ‹_›).2 ‹_›
  | (refine st ‹_› (by simp only[List.length_append,List.length_cons,List.length_nil];omega) fun r=>?_;simp only[Xb8,List.append_assoc,List.cons_append,List.nil_append];first | (simp[*];done) | (simp_all;done))
  | skip)
theorem X2q.eq:EqS X75 Tryz.f181 [25] [X1T.e] [] (fun i x=>X2q.L x.1 x.2.1 x.2.2) (fun i x=>X2q.F x.1 x.2.1 x.2.2):=by intro i x;kernel_rfl
theorem X2q.ok:X0l Tryz.prog 181 X75:=X2b X2q.eq Tryz.func181 rfl (by kernel_rfl) fun i x h hi hw=>X2q.pure x.1 x.2.1 x.2.2 h hw
def X2q.e:GE:=⟨181,X75,⟨_,Tryz.func181,rfl,rfl⟩,X2q.ok⟩
def Xfe(e:Eng):(List (List Ser)×Bool)×List Str:=(Xhg e,e.2.2)
def X53:Con:={A:=T4q,shA:=[.agg 3],backA:=[(2,9)],B:=(.list .str),R:=(.pair (.list T9q) .bool),shR:=[(false,1),(false,1)],pre:=fun _ a=>(XoG a),f:=some fun _ a=>((Xfe a).1,((),(Xfe a).2))}
def X16.F(a0:U3q):Prop:=(eS [(0,.val true [.int .i64 a0.1,.lst T2q a0.2.1 none,.own .str 6]),(1,.box 2 0)] [(0,.val true [.int .i64 a0.1,.lst T2q a0.2.1 none,.own .str 6]),(1,.box 2 0)]∧((lyI a0 ([]:List (List U1q)) 0 a0.1 a0.2.1 a0.2.2)∧∀(y1:((List (List U1q))×(Int×U3q))),(lyI a0 y1.1 y1.2.1 y1.2.2.1 y1.2.2.2.1 y1.2.2.2.2)→(X00 (decide (y1.2.1<(ln y1.2.2.2.2))) (0≤y1.2.1∧(y1.2.1<(ln y1.2.2.2.2)∧((Xgn (List.getD y1.2.2.2.2 (tN y1.2.1) []))∧∀r2,(Eq r2 ((X0e (List.getD y1.2.2.2.2 (tN y1.2.1) [])),((),())))→(X00 (!r2.1.2) (Eq ((y1.1,false),((),y1.2.2.2.2)) ((Xfe a0).1,((),(Xfe a0).2))) (List.length y1.1+List.length [r2.1.1]≤9223372036854775807∧((List.length y1.1+List.length [r2.1.1])*24≤140737488355328∧(eS [(0,.val true [.int .i64 a0.1,.lst T2q a0.2.1 none,.own .str 6]),(1,.box 2 0)] [(0,.val true [.int .i64 a0.1,.lst T2q a0.2.1 none,.own .str 6]),(1,.box 2 0)]∧(lyI a0 (y1.1++[r2.1.1]) (wI (y1.2.1+(1:Int))) y1.2.2.1 y1.2.2.2.1 y1.2.2.2.2)∧(lyM a0 (y1.1++[r2.1.1]) (wI (y1.2.1+(1:Int))) y1.2.2.1 y1.2.2.2.1 y1.2.2.2.2)<(lyM a0 y1.1 y1.2.1 y1.2.2.1 y1.2.2.2.1 y1.2.2.2.2)))))))) (List.length y1.1+List.length [y1.2.2.2.1]≤9223372036854775807∧((List.length y1.1+List.length [y1.2.2.2.1])*24≤140737488355328∧(Eq (((y1.1++[y1.2.2.2.1]),true),((),y1.2.2.2.2)) ((Xfe a0).1,((),(Xfe a0).2))))))))
def X16.L(a0:U3q):Nat→Option X0d:=fun p=>Go.Proofs.YtcfaphojdacmbaaGreatR.Bv.look p [(58,{kp:={hold:=[0,1],slots:=[4,5],boxes:=[2],rows:=[{bx:=false,s:=4,i:=0,k:=1000515,e:=25,hot:=false},{bx:=false,s:=0,i:=2,k:=6,e:=9,hot:=true}]},T:=(.pair (.list T9q) (.pair (.int .i64) T4q)),I:=fun st y=>lyI a0 y.1 y.2.1 y.2.2.1 y.2.2.2.1 y.2.2.2.2,μ:=fun st y=>lyM a0 y.1 y.2.1 y.2.2.1 y.2.2.2.1 y.2.2.2.2})]
theorem X16.pure(a0:U3q)(h:(XoG a0))(hw:Wf X53.A a0):X16.F a0:=by
 delta X16.F ln tN wI eS
 simp only[Bs,B0,B1,Prod.mk.injEq,X01,Prod.eta,Xfe]
 obtain⟨hf,hl⟩:=h
 refine⟨⟨rfl,by omega,by omega,by simp[X87],fun j hj=>absurd hj (by simp)⟩,?_⟩
 rintro⟨out,i,fl,ca,fi⟩ hI
 simp only at hI ⊢
 have q1:=hI.h1
 have q2:=hI.h2
 have q3:=congrArg List.length hI.h3
 rw[Xeh,List.length_take]at q3
 have st:=XmZ hI
 have no:=Xro hI
 have en:=XoN hI
 obtain rfl:=hI.h0
 simp only at hf hl q2 q3 st no en ⊢
 refine⟨fun hi=>?_,fun hi=>⟨by omega,by omega,en hi,trivial⟩⟩
 have hm:=X14 (d:=([]:List UInt8)) (by omega:i.toNat<fi.length)
 rw[w64 (x:=i+1) (by omega) (by omega)]
 exact⟨q1,hi,hf _ hm,fun hr=>⟨no hi hr,trivial⟩,fun hr=>⟨by omega,by omega,st hi hr,by unfold lyM;simp only;omega⟩⟩
theorem X16.eq:EqS X53 Tryz.f106 [132,4] [X2c.e] [] (fun i x=>X16.L x) (fun i x=>X16.F x):=by intro i x;kernel_rfl
theorem X16.ok:X0l Tryz.prog 106 X53:=X2b X16.eq Tryz.func106 rfl (by kernel_rfl) fun i x h hi hw=>X16.pure x h hw
def X16.e:GE:=⟨106,X53,⟨_,Tryz.func106,rfl,rfl⟩,X16.ok⟩
def Xfd(e:Eng)(k:Str)(p:List Pt):Eng×Int:=X7J e k p
def XpY(e:Eng)(k:Str)(p:List Pt):Prop:=X13 e=true∧X5P e∧XiJ k
def pPut(e:Eng)(k:Str)(p:List Pt):Prop:=X5P e∧XiJ k
def X7z:Con:={A:=(.pair T4q T2q),shA:=[.agg 3,.one,.one],ownA:=[(2,9)],R:=(.pair T4q (.int .i64)),shR:=[(true,3),(false,1)],fresh:=[(2,9)],pre:=fun _ a=>(XpY a.1 a.2.1 a.2.2),f:=some fun _ a=>((Xfd a.1 a.2.1 a.2.2),((),()))}
def X3y.F(a0:U3q)(a1:U5q)(a2:U6q):Prop:=((XiJ a1)∧∀r1,(Eq r1 ((X8b a1),((),())))→(X00 (!r1.1) (Eq (((a0.1,(a0.2.1,a0.2.2)),1),((),())) ((Xfd a0 a1 a2),((),()))) (True∧∀r2,(Eq r2 ((X0s a2),((),())))→(X00 (!r2.1) (Eq (((a0.1,(a0.2.1,a0.2.2)),1),((),())) ((Xfd a0 a1 a2),((),()))) (X00 ((ln a2)==(0:Int)) (Eq (((a0.1,(a0.2.1,a0.2.2)),1),((),())) ((Xfd a0 a1 a2),((),()))) (0≤(0:Int)∧((0:Int)<(ln a2)∧(X00 (decide (((List.getD a2 (tN (0:Int)) (0,0)).1)<a0.1)) (Eq (((a0.1,(a0.2.1,a0.2.2)),2),((),())) ((Xfd a0 a1 a2),((),()))) ((XpR a0.2.1 a1 a2)∧∀r3,(Eq r3 ((XaU a0.2.1 a1 a2),((),())))→((XoG (a0.1,(r3.1,a0.2.2)))∧∀r4,(Eq r4 ((Xfe (a0.1,(r3.1,a0.2.2))).1,((),(Xfe (a0.1,(r3.1,a0.2.2))).2)))→((Xo3 r4.1.1 a0.1)∧∀r5,(Eq r5 ((Xlm r4.1.1 a0.1),((),())))→((X27 r5.1)∧∀r6,(Eq r6 ((X0y r5.1),((),())))→(X00 (!r6.1) (Eq (((a0.1,(a0.2.1,r4.2.2)),3),((),())) ((Xfd a0 a1 a2),((),()))) ((Xlo r3.1)∧∀r7,(Eq r7 ((X9Y r3.1),((),())))→(X00 (decide (r7.1>(40:Int))) ((pFl (a0.1,(r3.1,r4.2.2)))∧∀r8,(Eq r8 ((fFl (a0.1,(r3.1,r4.2.2))),((),())))→(Eq (((r8.1.1,(r8.1.2.1,r8.1.2.2)),0),((),())) ((Xfd a0 a1 a2),((),())))) (Eq (((a0.1,(r3.1,r4.2.2)),0),((),())) ((Xfd a0 a1 a2),((),()))))))))))))))))))
theorem X3y.pure(a0:U3q)(a1:U5q)(a2:U6q)(h:(XpY a0 a1 a2))(hw:Wf X7z.A (a0,a1,a2)):X3y.F a0 a1 a2:=by
 delta X3y.F ln tN
 simp only[Bs,B0,B1,Prod.mk.injEq,X01,Prod.eta,Xfd,Xfe]
 obtain⟨h1,hp,hk⟩:=h
 have G:=X6n h1 hp
 have bad:¬(X8b a1=true∧X0s a2=true∧a2≠[])→(a0,(1:Int))=X7J a0 a1 a2:=fun h=>by unfold X7J;rw[if_pos h1,if_neg h]
 have late:(X8b a1=true∧X0s a2=true∧a2≠[])→(a2.getD 0 (0,0)).1<a0.1→(a0,(2:Int))=X7J a0 a1 a2:=fun h h'=>by unfold X7J;rw[if_pos h1,if_pos h,if_pos h']
 have full:(X8b a1=true∧X0s a2=true∧a2≠[])→¬(a2.getD 0 (0,0)).1<a0.1→X0y (X0c (eX a0 a1 a2)).1=false→(a0,(3:Int))=X7J a0 a1 a2:=fun h h' h2=>by unfold X7J;rw[if_pos h1,if_pos h,if_neg h',if_neg (by rw[h2];decide)]
 have big:(X8b a1=true∧X0s a2=true∧a2≠[])→¬(a2.getD 0 (0,0)).1<a0.1→X0y (X0c (eX a0 a1 a2)).1=true→40<X9Y (eX a0 a1 a2).2.1→(fFl (eX a0 a1 a2),(0:Int))=X7J a0 a1 a2:=fun h h' h2 h3=>by unfold X7J;rw[if_pos h1,if_pos h,if_neg h',if_pos h2,if_pos h3]
 have fine:(X8b a1=true∧X0s a2=true∧a2≠[])→¬(a2.getD 0 (0,0)).1<a0.1→X0y (X0c (eX a0 a1 a2)).1=true→¬40<X9Y (eX a0 a1 a2).2.1→(eX a0 a1 a2,(0:Int))=X7J a0 a1 a2:=fun h h' h2 h3=>by unfold X7J;rw[if_pos h1,if_pos h,if_neg h',if_pos h2,if_neg h3]
 have ca:=X1I G.ca
 have le:=G.le
 refine⟨hk,fun h2=>bad (by simp[h2]),fun h2=>⟨fun h3=>bad (by simp[h3]),fun h3=>⟨fun h4=>bad (fun hh=>hh.2.2 (List.length_eq_zero_iff.1 (by omega))),fun h4=>?_⟩⟩⟩
 have hn:a2≠[]:=fun e=>h4 (by rw[e];rfl)
 have hn2:0<a2.length:=List.length_pos_iff.2 hn
 have hq:X8b a1=true∧X0s a2=true∧a2≠[]:=⟨h2,h3,hn⟩
 have hl:=X6p h3
 have e0:(0:Int).toNat=0:=rfl
 simp only[e0]
 refine⟨by omega,by omega,fun h5=>late hq h5,fun h5=>⟨⟨by omega,by omega⟩,?_⟩⟩
 obtain⟨X1,X2⟩:=Xh6 h1 hp h3 hn h5
 have eX0:(a0.1,XaU a0.2.1 a1 a2,a0.2.2)=eX a0 a1 a2:=by rw[Xk2 G.R.1];rfl
 have eX1:XaU a0.2.1 a1 a2=(eX a0 a1 a2).2.1:=by rw[←eX0]
 have hS:∀x∈[((a1,a2):Ser)],XaT x.2:=fun x hx=>by rw[List.mem_singleton.1 hx];exact hl.1
 have hc2:X9p (eX a0 a1 a2).2.1:=X4C G.R hS
 have ht2:tot (eX a0 a1 a2).2.1≤305+61:=by
  have t1:=Xa3 G.R hS
  have t2:tot [((a1,a2):Ser)]=(a2.length:Int)+1:=by simp[tot,cL,cS]
  have t3:tot (eX a0 a1 a2).2.1=tot (X2S a0.2.1 [(a1,a2)]):=rfl
  omega
 have hy:Xhg (eX a0 a1 a2)=(X87 a0.2.2++[(eX a0 a1 a2).2.1],true):=Xhl (e:=eX a0 a1 a2) G.ok
 have hpl:Xlm (X87 a0.2.2++[(eX a0 a1 a2).2.1]) a0.1=(X0c (eX a0 a1 a2)).1:=Xpu (e:=eX a0 a1 a2) hc2 G.ok
 have htt:=XgI (eX a0 a1 a2)
 have htt2:cL tot (X87 (eX a0 a1 a2).2.2++[(eX a0 a1 a2).2.1])=cL tot (X87 a0.2.2++[(eX a0 a1 a2).2.1]):=rfl
 have hle2:(eX a0 a1 a2).2.2.length=a0.2.2.length:=rfl
 have hkey:X27 (X0c (eX a0 a1 a2)).1:=by
  rw[←X1]
  have hk8:a1.length≤8:=by
   have:=h2;unfold X8b fIn at this;simp only[Bool.and_eq_true,decide_eq_true_eq]at this;omega
  refine Xiv (Xah (fun x hx=>((X1I G.pl).2.2.2 x hx).1) fun x hx=>?_)
  rw[List.mem_singleton.1 hx];exact hk8
 rw[eX0,hy]
 simp only
 rw[hpl,eX1]
 refine⟨⟨G.st,by omega⟩,by unfold Xo3;omega,hkey,fun h6=>full hq h5 h6,fun h6=>⟨by unfold Xlo;omega,fun h7=>⟨X2 h6,big hq h5 h6 h7⟩,fun h7=>fine hq h5 h6 (by omega)⟩⟩
theorem X3y.eq:EqS X7z Tryz.f110 [28,3] [X0O.e,X1r.e,X1L.e,X16.e,X1p.e,X2e.e,X3c.e,X2q.e] [] noL (fun i x=>X3y.F x.1 x.2.1 x.2.2):=by intro i x;kernel_rfl
theorem X3y.ok:X0l Tryz.prog 110 X7z:=X2b X3y.eq Tryz.func110 rfl (by kernel_rfl) fun i x h hi hw=>X3y.pure x.1 x.2.1 x.2.2 h hw
def X3y.e:GE:=⟨110,X7z,⟨_,Tryz.func110,rfl,rfl⟩,X3y.ok⟩
def XaN:Con:={A:=(.pair T4q T2q),shA:=[.agg 3,.one,.one],R:=(.pair T4q (.int .i64)),shR:=[(true,3),(false,1)],fresh:=[(1,83),(2,9)],pre:=fun _ a=>(pPut a.1 a.2.1 a.2.2),f:=some fun _ a=>((X7J a.1 a.2.1 a.2.2),((),()))}
def X6c.F(a0:U3q)(a1:U5q)(a2:U6q):Prop:=((X5P (a0.1,(a0.2.1,a0.2.2)))∧∀r1,(Eq r1 ((X2u (a0.1,(a0.2.1,a0.2.2))),((),())))→(X00 (!r1.1.2) (Eq (((0,(([]:(List U1q)),([]:(List U5q)))),1),((),())) ((X7J a0 a1 a2),((),()))) ((Xlv (a0.1,(a0.2.1,a0.2.2)))∧∀r2,(Eq r2 ((Xls (a0.1,(a0.2.1,a0.2.2))),((),())))→((XiJ a1)∧∀r3,(Eq r3 ((X8b a1),((),())))→(X00 (!r3.1) (Eq (((r2.1.1,(r2.1.2.1,r2.1.2.2)),1),((),())) ((X7J a0 a1 a2),((),()))) (True∧∀r4,(Eq r4 ((X0s a2),((),())))→(X00 (!r4.1) (Eq (((r2.1.1,(r2.1.2.1,r2.1.2.2)),1),((),())) ((X7J a0 a1 a2),((),()))) (X00 ((ln a2)==(0:Int)) (Eq (((r2.1.1,(r2.1.2.1,r2.1.2.2)),1),((),())) ((X7J a0 a1 a2),((),()))) (0≤(0:Int)∧((0:Int)<(ln a2)∧(X00 (decide (((List.getD a2 (tN (0:Int)) (0,0)).1)<r2.1.1)) (Eq (((r2.1.1,(r2.1.2.1,r2.1.2.2)),2),((),())) ((X7J a0 a1 a2),((),()))) ((Xl3 r1.1.1 [(a1,a2)])∧∀r5,(Eq r5 ((X2S r1.1.1 [(a1,a2)]),((),())))→((X27 r5.1)∧∀r6,(Eq r6 ((X0y r5.1),((),())))→(X00 (!r6.1) (Eq (((r2.1.1,(r2.1.2.1,r2.1.2.2)),3),((),())) ((X7J a0 a1 a2),((),()))) ((Xl3 r2.1.2.1 [(a1,a2)])∧∀r7,(Eq r7 ((X2S r2.1.2.1 [(a1,a2)]),((),())))→((Xlo r7.1)∧∀r8,(Eq r8 ((X9Y r7.1),((),())))→(X00 (decide (r8.1>(40:Int))) ((pFl (r2.1.1,(r7.1,r2.1.2.2)))∧∀r9,(Eq r9 ((fFl (r2.1.1,(r7.1,r2.1.2.2))),((),())))→(Eq (((r9.1.1,(r9.1.2.1,r9.1.2.2)),0),((),())) ((X7J a0 a1 a2),((),())))) (Eq (((r2.1.1,(r7.1,r2.1.2.2)),0),((),())) ((X7J a0 a1 a2),((),()))))))))))))))))))))
theorem X6c.pure(a0:U3q)(a1:U5q)(a2:U6q)(h:(pPut a0 a1 a2))(hw:Wf XaN.A (a0,a1,a2)):X6c.F a0 a1 a2:=by
 delta X6c.F ln tN
 simp only[Bs,B0,B1,Prod.mk.injEq,X01,Prod.eta,Xls]
 obtain⟨hp,hk⟩:=h
 refine⟨hp,fun h1=>?_,fun h1=>?_⟩
 · unfold X7J;rw[if_neg (by rw[←Xea,h1];decide)];rfl
 have h1:X13 a0=true:=h1
 have G:=X6n h1 hp
 have bad:¬(X8b a1=true∧X0s a2=true∧a2≠[])→(a0,(1:Int))=X7J a0 a1 a2:=fun h=>by unfold X7J;rw[if_pos h1,if_neg h]
 have late:(X8b a1=true∧X0s a2=true∧a2≠[])→(a2.getD 0 (0,0)).1<a0.1→(a0,(2:Int))=X7J a0 a1 a2:=fun h h'=>by unfold X7J;rw[if_pos h1,if_pos h,if_pos h']
 have full:(X8b a1=true∧X0s a2=true∧a2≠[])→¬(a2.getD 0 (0,0)).1<a0.1→X0y (X0c (eX a0 a1 a2)).1=false→(a0,(3:Int))=X7J a0 a1 a2:=fun h h' h2=>by unfold X7J;rw[if_pos h1,if_pos h,if_neg h',if_neg (by rw[h2];decide)]
 have big:(X8b a1=true∧X0s a2=true∧a2≠[])→¬(a2.getD 0 (0,0)).1<a0.1→X0y (X0c (eX a0 a1 a2)).1=true→40<X9Y (eX a0 a1 a2).2.1→(fFl (eX a0 a1 a2),(0:Int))=X7J a0 a1 a2:=fun h h' h2 h3=>by unfold X7J;rw[if_pos h1,if_pos h,if_neg h',if_pos h2,if_pos h3]
 have fine:(X8b a1=true∧X0s a2=true∧a2≠[])→¬(a2.getD 0 (0,0)).1<a0.1→X0y (X0c (eX a0 a1 a2)).1=true→¬40<X9Y (eX a0 a1 a2).2.1→(eX a0 a1 a2,(0:Int))=X7J a0 a1 a2:=fun h h' h2 h3=>by unfold X7J;rw[if_pos h1,if_pos h,if_neg h',if_pos h2,if_neg h3]
 have ca:=X1I G.ca
 have le:=G.le
 obtain⟨g1,g2,g3,g4⟩:=X30 h1
 rw[g3]
 simp only
 refine⟨Xp4 h1,hk,fun h2=>bad (by simp[h2]),fun h2=>⟨fun h3=>bad (by simp[h3]),fun h3=>⟨fun h4=>bad (fun hh=>hh.2.2 (List.length_eq_zero_iff.1 (by omega))),fun h4=>?_⟩⟩⟩
 have hn:a2≠[]:=fun e=>h4 (by rw[e];rfl)
 have hn2:0<a2.length:=List.length_pos_iff.2 hn
 have hq:X8b a1=true∧X0s a2=true∧a2≠[]:=⟨h2,h3,hn⟩
 have hl:=X6p h3
 have e0:(0:Int).toNat=0:=rfl
 simp only[e0]
 have pl:=X1I G.pl
 have hS:∀x∈[((a1,a2):Ser)],XaT x.2:=fun x hx=>by rw[List.mem_singleton.1 hx];exact hl.1
 have t2:tot [((a1,a2):Ser)]=(a2.length:Int)+1:=by simp[tot,cL,cS]
 refine⟨by omega,by omega,fun h5=>late hq h5,fun h5=>⟨⟨pl.1,hS,by omega⟩,?_⟩⟩
 obtain⟨X1,X2⟩:=Xh6 h1 hp h3 hn h5
 have hkey:X27 (X0c (eX a0 a1 a2)).1:=by
  rw[←X1]
  have hk8:a1.length≤8:=by
   have:=h2;unfold X8b fIn at this;simp only[Bool.and_eq_true,decide_eq_true_eq]at this;omega
  refine Xiv (Xah (fun x hx=>((X1I G.pl).2.2.2 x hx).1) fun x hx=>?_)
  rw[List.mem_singleton.1 hx];exact hk8
 have t1:=Xa3 (t:=[(a1,a2)]) G.R hS
 rw[X1]
 refine⟨hkey,fun h6=>full hq h5 h6,fun h6=>⟨⟨G.R,hS,by omega⟩,by unfold Xlo;omega,fun h7=>⟨X2 h6,big hq h5 h6 h7⟩,fun h7=>fine hq h5 h6 (show ¬40<X9Y (X2S a0.2.1 [(a1,a2)]) by omega)⟩⟩
theorem X6c.eq:EqS XaN Tryz.f29 [28,3] [X17.e,X1a.e,X3h.e,X1t.e,X1s.e,X3T.e,X2G.e,X2s.e] [] noL (fun i x=>X6c.F x.1 x.2.1 x.2.2):=by intro i x;kernel_rfl
theorem X6c.ok:X0l Tryz.prog 29 XaN:=X2b X6c.eq Tryz.func29 rfl (by kernel_rfl) fun i x h hi hw=>X6c.pure x.1 x.2.1 x.2.2 h hw
def X6c.e:GE:=⟨29,XaN,⟨_,Tryz.func29,rfl,rfl⟩,X6c.ok⟩
end Go.Proofs.YtcfaphojdacmbaaGreatR.B
