/- Files of series:shown. -/
import Derived.Test.YtcfaphojdacmbaaGreatRCBlk
import Derived.Test.YtcfaphojdacmbaaGreatRCTypes
set_option maxRecDepth 100000
set_option linter.unusedVariables false
set_option linter.unusedSimpArgs false
namespace Go.Proofs.YtcfaphojdacmbaaGreatR.B
open Go Go.Proofs.YtcfaphojdacmbaaGreatR.Bv
def X5j(s:Ser)(n:Nat):List UInt8:=X1P s.1.length++(s.1++(X1P n++(X1P (X04 s.2).length++(X1P (s.2.getD 0 (0,0)).1++X1P (s.2.getD (s.2.length - 1) (0,0)).1))))
def Xnl(p:List UInt8×List UInt8)(s:Ser):List UInt8×List UInt8:=(p.1++X04 s.2,p.2++X5j s p.1.length)
def XpX(l:List Ser):List UInt8×List UInt8:=l.foldl Xnl ([116,115,98,49],[])
def XhI(p:List UInt8×List UInt8):List UInt8:=p.1++(p.2++X0D p.1.length 4)
def X0j(l:List Ser):List UInt8:=if X0y l=true∧l≠[] then XhI (XpX l)++X0D (Xdg (XhI (XpX l))) 4 else []
theorem X56(l:List Pt):(X04 l).length≤2014:=by
 unfold X04;split
 · exact XgD _
 · simp
theorem XdN{l:List Ser}(h:X0y l=true):l.length≤5∧∀i,i<l.length→(l.getD i ([],[])).1.length≤8∧1≤(l.getD i ([],[])).1.length∧(l.getD i ([],[])).2.length≠0∧X0s (l.getD i ([],[])).2=true:=by
 simp only[X0y,Bool.and_eq_true,decide_eq_true_eq,XdF]at h
 refine⟨h.1,fun i hi=>?_⟩
 have:=h.2 i hi
 simp only[Xi5,Bool.and_eq_true,decide_eq_true_eq,X8b,X0C]at this
 exact⟨by omega,by omega,this.2.2.1,this.2.2.2⟩
theorem Xfy{s:Ser}{n:Nat}(h:s.1.length≤8):(X5j s n).length≤43:=by
 have h1:=X0w s.1.length
 have h2:=X0w n
 have h3:=X0w (X04 s.2).length
 have h4:=X0w (s.2.getD 0 (0,0)).1
 have h5:=X0w (s.2.getD (s.2.length - 1) (0,0)).1
 simp only[X5j,List.length_append];omega
structure ftI (l:List Ser) (t x:List UInt8) (i:Int):Prop where
 h1:0≤i
 h2:i≤l.length
 h3:X0y l=true
 h4:l≠[]
 h5:(t,x)=XpX (l.take i.toNat)
 h6:(t.length:Int)≤4+2014*i
 h7:(x.length:Int)≤43*i
def ftM(l:List Ser)(t x:List UInt8)(i:Int):Nat:=(l.length - i).toNat
theorem XmR{l:List Ser}{t x t' x':List UInt8}{i:Int}(h:ftI l t x i)(hi:i<l.length)(ht:t'=t++X04 (l.getD i.toNat ([],[])).2)(hx:x'=x++X5j (l.getD i.toNat ([],[])) t.length):ftI l t' x' (i+1):=by
 obtain⟨h1,h2,h3,h4,h5,h6,h7⟩:=h
 have hs:=(XdN h3).2 i.toNat (by omega)
 have b1:=X56 (l.getD i.toNat ([],[])).2
 have b2:=Xfy (n:=t.length) hs.1
 refine⟨by omega,by omega,h3,h4,?_,by rw[ht,List.length_append];omega,by rw[hx,List.length_append];omega⟩
 rw[tn1 h1,X1S ([],[]) (by omega)]
 unfold XpX at h5 ⊢
 rw[List.foldl_append,←h5,ht,hx]
 rfl
theorem Xp6{l:List Ser}{t x:List UInt8}{i:Int}(h:ftI l t x i)(hi:¬i<l.length):(t++(x++X0D t.length 4))++X0D (Xdg (t++(x++X0D t.length 4))) 4=X0j l:=by
 obtain⟨h1,h2,h3,h4,h5,h6,h7⟩:=h
 have e:i.toNat=l.length:=by omega
 rw[e,List.take_length]at h5
 unfold X0j
 rw[if_pos ⟨h3,h4⟩,←h5]
 rfl
theorem XcQ{l:List Ser}(h:X0y l=false):[]=X0j l:=by simp[X0j,h]
theorem XjV{l:List Ser}(h:X0y l=true)(h2:l≠[]):ftI l [116,115,98,49] [] 0:=⟨by omega,by omega,h,h2,rfl,by simp,by simp⟩
def X6j:Con:={A:=T9q,shA:=[.one],R:=.str,shR:=[(false,1)],pre:=fun _ a=>(X27 a),f:=some fun _ a=>((X0j a),((),()))}
def X0N.F(a0:(List U1q)):Prop:=((X27 a0)∧∀r1,(Eq r1 ((X0y a0),((),())))→(X00 (!r1.1) (Eq ([],((),())) ((X0j a0),((),()))) (X00 ((ln a0)==(0:Int)) (Eq ([],((),())) ((X0j a0),((),()))) (eS [(0,.val false [.lst T2q a0 none])] [(0,.val false [.lst T2q a0 none])]∧((ftI a0 [116,115,98,49] [] 0)∧∀(y2:(U5q×(U5q×Int))),(ftI a0 y2.1 y2.2.1 y2.2.2)→(X00 (decide (y2.2.2<(ln a0))) (0≤y2.2.2∧(y2.2.2<(ln a0)∧(True∧∀r3,(Eq r3 ((X04 ((List.getD a0 (tN y2.2.2) ([],[])).2)),((),())))→(0≤y2.2.2∧(y2.2.2<(ln a0)∧(True∧∀r4,(Eq r4 ((X1P (ln ((List.getD a0 (tN y2.2.2) ([],[])).1))),((),())))→(List.length y2.2.1+List.length r4.1≤9223372036854775807∧(0≤y2.2.2∧(y2.2.2<(ln a0)∧(List.length (y2.2.1++r4.1)+List.length ((List.getD a0 (tN y2.2.2) ([],[])).1)≤9223372036854775807∧(True∧∀r5,(Eq r5 ((X1P (ln y2.1)),((),())))→(List.length ((y2.2.1++r4.1)++((List.getD a0 (tN y2.2.2) ([],[])).1))+List.length r5.1≤9223372036854775807∧(True∧∀r6,(Eq r6 ((X1P (ln r3.1)),((),())))→(List.length (((y2.2.1++r4.1)++((List.getD a0 (tN y2.2.2) ([],[])).1))++r5.1)+List.length r6.1≤9223372036854775807∧(0≤(0:Int)∧((0:Int)<(ln ((List.getD a0 (tN y2.2.2) ([],[])).2))∧(True∧∀r7,(Eq r7 ((X1P ((List.getD ((List.getD a0 (tN y2.2.2) ([],[])).2) (tN (0:Int)) (0,0)).1)),((),())))→(List.length ((((y2.2.1++r4.1)++((List.getD a0 (tN y2.2.2) ([],[])).1))++r5.1)++r6.1)+List.length r7.1≤9223372036854775807∧(0≤(wI ((ln ((List.getD a0 (tN y2.2.2) ([],[])).2)) - (1:Int)))∧((wI ((ln ((List.getD a0 (tN y2.2.2) ([],[])).2)) - (1:Int)))<(ln ((List.getD a0 (tN y2.2.2) ([],[])).2))∧(True∧∀r8,(Eq r8 ((X1P ((List.getD ((List.getD a0 (tN y2.2.2) ([],[])).2) (tN (wI ((ln ((List.getD a0 (tN y2.2.2) ([],[])).2)) - (1:Int)))) (0,0)).1)),((),())))→(List.length (((((y2.2.1++r4.1)++((List.getD a0 (tN y2.2.2) ([],[])).1))++r5.1)++r6.1)++r7.1)+List.length r8.1≤9223372036854775807∧(List.length y2.1+List.length r3.1≤9223372036854775807∧(eS [(0,.val false [.lst T2q a0 none])] [(0,.val false [.lst T2q a0 none])]∧(ftI a0 (y2.1++r3.1) ((((((y2.2.1++r4.1)++((List.getD a0 (tN y2.2.2) ([],[])).1))++r5.1)++r6.1)++r7.1)++r8.1) (wI (y2.2.2+(1:Int))))∧(ftM a0 (y2.1++r3.1) ((((((y2.2.1++r4.1)++((List.getD a0 (tN y2.2.2) ([],[])).1))++r5.1)++r6.1)++r7.1)++r8.1) (wI (y2.2.2+(1:Int))))<(ftM a0 y2.1 y2.2.1 y2.2.2))))))))))))))))))))))))) (List.length y2.1+List.length y2.2.1≤9223372036854775807∧((X6J (ln y2.1) 4)∧∀r9,(Eq r9 ((X0D (ln y2.1) 4),((),())))→(List.length (y2.1++y2.2.1)+List.length r9.1≤9223372036854775807∧((Xjv ((y2.1++y2.2.1)++r9.1))∧∀r10,(Eq r10 ((Xdg ((y2.1++y2.2.1)++r9.1)),((),())))→((X6J r10.1 4)∧∀r11,(Eq r11 ((X0D r10.1 4),((),())))→(List.length ((y2.1++y2.2.1)++r9.1)+List.length r11.1≤9223372036854775807∧(Eq ((((y2.1++y2.2.1)++r9.1)++r11.1),((),())) ((X0j a0),((),())))))))))))))))
def X0N.L(a0:(List U1q)):Nat→Option X0d:=fun p=>Go.Proofs.YtcfaphojdacmbaaGreatR.Bv.look p [(250,{kp:={hold:=[0],slots:=[3,4,5],boxes:=[],rows:=[]},T:=(.pair .str Xli),I:=fun st y=>ftI a0 y.1 y.2.1 y.2.2,μ:=fun st y=>ftM a0 y.1 y.2.1 y.2.2})]
theorem X0N.pure(a0:(List U1q))(h:(X27 a0))(hw:Wf X6j.A a0):X0N.F a0:=by
 delta X0N.F ln tN wI eS
 have hk:X27 a0:=h
 simp only[Bs,B0,B1,Prod.mk.injEq,X01,X6J]
 refine⟨hk,fun h1=>XcQ h1,fun h1=>⟨fun h2=>?_,fun h2=>⟨XjV h1 (fun e=>by subst e;exact h2 rfl),?_⟩⟩⟩
 · have:a0=[]:=List.length_eq_zero_iff.1 (by omega)
   subst this;rfl
 rintro⟨t,x,i⟩ hI
 simp only at hI ⊢
 have q1:=hI.h1
 have q2:=hI.h2
 have q6:=hI.h6
 have q7:=hI.h7
 have hs0:=XdN hI.h3
 refine⟨fun hi=>?_,fun hi=>?_⟩
 · have hs:=hs0.2 i.toNat (by omega)
   have st:∀t' x',t'=t++X04 (a0.getD i.toNat ([],[])).2→x'=x++X5j (a0.getD i.toNat ([],[])) t.length→ftI a0 t' x' (i+1):=fun t' x'=>XmR hI hi
   have dn:∀t' x',ftM a0 t' x' (i+1)<ftM a0 t x i:=fun t' x'=>by unfold ftM;omega
   unfold X5j at st
   generalize a0.getD i.toNat ([],[])=s at*
   have b1:=X56 s.2
   have v1:=X0w s.1.length
   have v2:=X0w t.length
   have v3:=X0w (X04 s.2).length
   have v4:=X0w (s.2.getD 0 (0,0)).1
   have v5:=X0w (s.2.getD (s.2.length - 1) (0,0)).1
   have v6:=X5d hs.2.2.2
   have e1:((s.2.length:Int) - 1).toNat=s.2.length - 1:=by omega
   have e0:(0:Int).toNat=0:=rfl
   simp (disch:=omega) only[w64,e1,e0]
   repeat' (with_reducible (first | (refine And.intro ?_ ?_) | intro _))
   all_goals (first | omega | exact dn _ _ | (refine st _ _ ?_ ?_<;>simp only[List.append_assoc]) | skip)
 · have f1:=X2H t.length 4
   have he:=Xp6 hI hi
   have f2:=X2H (Xdg (t++(x++X0D t.length 4))) 4
   have c1:=Xcf (t++(x++X0D t.length 4))
   simp only[←List.append_assoc]at he f2 c1 ⊢
   repeat' (with_reducible (first | (refine And.intro ?_ ?_) | intro _))
   all_goals (first | omega | exact he | (unfold Xjv maxLen;simp only[List.length_append];omega) | skip)
theorem X0N.eq:EqS X6j Tryz.f134 [9] [X1r.e,X1B.e,X3Q.e,X2W.e,X4h.e] [] (fun i x=>X0N.L x) (fun i x=>X0N.F x):=by intro i x;kernel_rfl
theorem X0N.ok:X0l Tryz.prog 134 X6j:=X2b X0N.eq Tryz.func134 rfl (by kernel_rfl) fun i x h hi hw=>X0N.pure x h hw
def X0N.e:GE:=⟨134,X6j,⟨_,Tryz.func134,rfl,rfl⟩,X0N.ok⟩
def X6F:Con:={A:=T9q,shA:=[.one],R:=.str,shR:=[(false,1)],pre:=fun _ a=>(X27 a),f:=some fun _ a=>((X0j a),((),()))}
def X1q.F(a0:(List U1q)):Prop:=((X27 a0)∧∀r1,(Eq r1 ((X0y a0),((),())))→(X00 (!r1.1) (Eq ([],((),())) ((X0j a0),((),()))) (X00 ((ln a0)==(0:Int)) (Eq ([],((),())) ((X0j a0),((),()))) (eS [(16,.val false [.lst T2q a0 none]),(17,.val false [.int .i64 (ln a0)])] [(16,.val false [.lst T2q a0 none]),(17,.val false [.int .i64 (ln a0)])]∧((ftI a0 [116,115,98,49] [] 0)∧∀(y2:(U5q×(U5q×Int))),(ftI a0 y2.1 y2.2.1 y2.2.2)→(X00 (decide (y2.2.2<(ln a0))) (0≤y2.2.2∧(y2.2.2<(ln a0)∧(True∧∀r3,(Eq r3 ((X04 ((List.getD a0 (tN y2.2.2) ([],[])).2)),((),())))→(True∧∀r4,(Eq r4 ((X1P (ln ((List.getD a0 (tN y2.2.2) ([],[])).1))),((),())))→(List.length r4.1+List.length ((List.getD a0 (tN y2.2.2) ([],[])).1)≤9223372036854775807∧(True∧∀r5,(Eq r5 ((X1P (ln y2.1)),((),())))→(List.length (r4.1++((List.getD a0 (tN y2.2.2) ([],[])).1))+List.length r5.1≤9223372036854775807∧(True∧∀r6,(Eq r6 ((X1P (ln r3.1)),((),())))→(List.length ((r4.1++((List.getD a0 (tN y2.2.2) ([],[])).1))++r5.1)+List.length r6.1≤9223372036854775807∧(0≤(0:Int)∧((0:Int)<(ln ((List.getD a0 (tN y2.2.2) ([],[])).2))∧(True∧∀r7,(Eq r7 ((X1P ((List.getD ((List.getD a0 (tN y2.2.2) ([],[])).2) (tN (0:Int)) (0,0)).1)),((),())))→(List.length (((r4.1++((List.getD a0 (tN y2.2.2) ([],[])).1))++r5.1)++r6.1)+List.length r7.1≤9223372036854775807∧(0≤(wI ((ln ((List.getD a0 (tN y2.2.2) ([],[])).2)) - (1:Int)))∧((wI ((ln ((List.getD a0 (tN y2.2.2) ([],[])).2)) - (1:Int)))<(ln ((List.getD a0 (tN y2.2.2) ([],[])).2))∧(True∧∀r8,(Eq r8 ((X1P ((List.getD ((List.getD a0 (tN y2.2.2) ([],[])).2) (tN (wI ((ln ((List.getD a0 (tN y2.2.2) ([],[])).2)) - (1:Int)))) (0,0)).1)),((),())))→(List.length ((((r4.1++((List.getD a0 (tN y2.2.2) ([],[])).1))++r5.1)++r6.1)++r7.1)+List.length r8.1≤9223372036854775807∧(List.length y2.2.1+List.length (((((r4.1++((List.getD a0 (tN y2.2.2) ([],[])).1))++r5.1)++r6.1)++r7.1)++r8.1)≤9223372036854775807∧(List.length y2.1+List.length r3.1≤9223372036854775807∧(eS [(16,.val false [.lst T2q a0 none]),(17,.val false [.int .i64 (ln a0)])] [(16,.val false [.lst T2q a0 none]),(17,.val false [.int .i64 (ln a0)])]∧(ftI a0 (y2.1++r3.1) (y2.2.1++(((((r4.1++((List.getD a0 (tN y2.2.2) ([],[])).1))++r5.1)++r6.1)++r7.1)++r8.1)) (wI (y2.2.2+(1:Int))))∧(ftM a0 (y2.1++r3.1) (y2.2.1++(((((r4.1++((List.getD a0 (tN y2.2.2) ([],[])).1))++r5.1)++r6.1)++r7.1)++r8.1)) (wI (y2.2.2+(1:Int))))<(ftM a0 y2.1 y2.2.1 y2.2.2))))))))))))))))))))) ((X6J (ln y2.1) 4)∧∀r9,(Eq r9 ((X0D (ln y2.1) 4),((),())))→(List.length y2.2.1+List.length r9.1≤9223372036854775807∧(List.length y2.1+List.length (y2.2.1++r9.1)≤9223372036854775807∧((Xjv (y2.1++(y2.2.1++r9.1)))∧∀r10,(Eq r10 ((Xdg (y2.1++(y2.2.1++r9.1))),((),())))→((X6J r10.1 4)∧∀r11,(Eq r11 ((X0D r10.1 4),((),())))→(List.length (y2.1++(y2.2.1++r9.1))+List.length r11.1≤9223372036854775807∧(Eq (((y2.1++(y2.2.1++r9.1))++r11.1),((),())) ((X0j a0),((),())))))))))))))))
def X1q.L(a0:(List U1q)):Nat→Option X0d:=fun p=>Go.Proofs.YtcfaphojdacmbaaGreatR.Bv.look p [(122,{kp:={hold:=[16,17],slots:=[3,4,18],boxes:=[],rows:=[]},T:=(.pair .str Xli),I:=fun st y=>ftI a0 y.1 y.2.1 y.2.2,μ:=fun st y=>ftM a0 y.1 y.2.1 y.2.2})]
theorem X1q.pure(a0:(List U1q))(h:(X27 a0))(hw:Wf X6F.A a0):X1q.F a0:=by
 delta X1q.F ln tN wI eS
 have hk:X27 a0:=h
 simp only[Bs,B0,B1,Prod.mk.injEq,X01,X6J]
 refine⟨hk,fun h1=>XcQ h1,fun h1=>⟨fun h2=>?_,fun h2=>⟨XjV h1 (fun e=>by subst e;exact h2 rfl),?_⟩⟩⟩
 · have:a0=[]:=List.length_eq_zero_iff.1 (by omega)
   subst this;rfl
 rintro⟨t,x,i⟩ hI
 simp only at hI ⊢
 have q1:=hI.h1
 have q2:=hI.h2
 have q6:=hI.h6
 have q7:=hI.h7
 have hs0:=XdN hI.h3
 refine⟨fun hi=>?_,fun hi=>?_⟩
 · have hs:=hs0.2 i.toNat (by omega)
   have st:∀t' x',t'=t++X04 (a0.getD i.toNat ([],[])).2→x'=x++X5j (a0.getD i.toNat ([],[])) t.length→ftI a0 t' x' (i+1):=fun t' x'=>XmR hI hi
   have dn:∀t' x',ftM a0 t' x' (i+1)<ftM a0 t x i:=fun t' x'=>by unfold ftM;omega
   unfold X5j at st
   generalize a0.getD i.toNat ([],[])=s at*
   have b1:=X56 s.2
   have v1:=X0w s.1.length
   have v2:=X0w t.length
   have v3:=X0w (X04 s.2).length
   have v4:=X0w (s.2.getD 0 (0,0)).1
   have v5:=X0w (s.2.getD (s.2.length - 1) (0,0)).1
   have v6:=X5d hs.2.2.2
   have e1:((s.2.length:Int) - 1).toNat=s.2.length - 1:=by omega
   have e0:(0:Int).toNat=0:=rfl
   simp (disch:=omega) only[w64,e1,e0]
   repeat' (with_reducible (first | (refine And.intro ?_ ?_) | intro _))
   all_goals (first | omega | exact dn _ _ | (refine st _ _ ?_ ?_<;>simp only[List.append_assoc]) | skip)
 · have f1:=X2H t.length 4
   have he:=Xp6 hI hi
   have f2:=X2H (Xdg (t++(x++X0D t.length 4))) 4
   have c1:=Xcf (t++(x++X0D t.length 4))
   simp only[←List.append_assoc]at he f2 c1 ⊢
   repeat' (with_reducible (first | (refine And.intro ?_ ?_) | intro _))
   all_goals (first | omega | exact he | (unfold Xjv maxLen;simp only[List.length_append];omega) | skip)
theorem X1q.eq:EqS X6F Tryz.f139 [9] [X1s.e,X3Z.e,X1l.e,X3d.e,X4F.e] [] (fun i x=>X1q.L x) (fun i x=>X1q.F x):=by intro i x;kernel_rfl
theorem X1q.ok:X0l Tryz.prog 139 X6F:=X2b X1q.eq Tryz.func139 rfl (by kernel_rfl) fun i x h hi hw=>X1q.pure x h hw
def X1q.e:GE:=⟨139,X6F,⟨_,Tryz.func139,rfl,rfl⟩,X1q.ok⟩
end Go.Proofs.YtcfaphojdacmbaaGreatR.B
