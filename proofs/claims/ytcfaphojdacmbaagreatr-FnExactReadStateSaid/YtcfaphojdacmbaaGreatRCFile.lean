/- Files of series:shown. -/
import Derived.Test.YtcfaphojdacmbaaGreatRCBlk
import Derived.Test.YtcfaphojdacmbaaGreatRCTypes
set_option maxRecDepth 100000
set_option linter.unusedVariables false
set_option linter.unusedSimpArgs false
namespace Go.Proofs.YtcfaphojdacmbaaGreatR.B
open Go Go.Proofs.YtcfaphojdacmbaaGreatR.Bv
def X5W(s:Ser)(n:Nat):List UInt8:=X0v s.1.length++(s.1++(X0v n++(X0v (X04 s.2).length++(X0v (s.2.getD 0 (0,0)).1++X0v (s.2.getD (s.2.length - 1) (0,0)).1))))
def XnH(p:List UInt8×List UInt8)(s:Ser):List UInt8×List UInt8:=(p.1++X04 s.2,p.2++X5W s p.1.length)
def Xr6(l:List Ser):List UInt8×List UInt8:=l.foldl XnH ([116,115,98,49],[])
def Xis(p:List UInt8×List UInt8):List UInt8:=p.1++(p.2++X0E p.1.length 4)
def X0o(l:List Ser):List UInt8:=if X2i l=true∧l≠[] then Xis (Xr6 l)++X0E (Xe5 (Xis (Xr6 l))) 4 else []
theorem X5y(l:List Pt):(X04 l).length≤2014:=by
 unfold X04;split
 · exact Xh6 _
 · simp
theorem Xfr{l:List Ser}(h:X2i l=true):l.length≤5∧∀i,i<l.length→(l.getD i ([],[])).1.length≤8∧1≤(l.getD i ([],[])).1.length∧(l.getD i ([],[])).2.length≠0∧X25 (l.getD i ([],[])).2=true:=by
 simp only[X2i,Bool.and_eq_true,decide_eq_true_eq,Xe3]at h
 refine⟨h.1,fun i hi=>?_⟩
 have:=h.2 i hi
 simp only[Xk8,Bool.and_eq_true,decide_eq_true_eq,XdP,X0C]at this
 exact⟨by omega,by omega,this.2.2.1,this.2.2.2⟩
theorem Xg2{s:Ser}{n:Nat}(h:s.1.length≤8):(X5W s n).length≤43:=by
 have h1:=X0d s.1.length
 have h2:=X0d n
 have h3:=X0d (X04 s.2).length
 have h4:=X0d (s.2.getD 0 (0,0)).1
 have h5:=X0d (s.2.getD (s.2.length - 1) (0,0)).1
 simp only[X5W,List.length_append];omega
structure ftI (l:List Ser) (t x:List UInt8) (i:Int):Prop where
 h1:0≤i
 h2:i≤l.length
 h3:X2i l=true
 h4:l≠[]
 h5:(t,x)=Xr6 (l.take i.toNat)
 h6:(t.length:Int)≤4+2014*i
 h7:(x.length:Int)≤43*i
def ftM(l:List Ser)(t x:List UInt8)(i:Int):Nat:=(l.length - i).toNat
theorem XmR{l:List Ser}{t x t' x':List UInt8}{i:Int}(h:ftI l t x i)(hi:i<l.length)(ht:t'=t++X04 (l.getD i.toNat ([],[])).2)(hx:x'=x++X5W (l.getD i.toNat ([],[])) t.length):ftI l t' x' (i+1):=by
 obtain⟨h1,h2,h3,h4,h5,h6,h7⟩:=h
 have hs:=(Xfr h3).2 i.toNat (by omega)
 have b1:=X5y (l.getD i.toNat ([],[])).2
 have b2:=Xg2 (n:=t.length) hs.1
 refine⟨by omega,by omega,h3,h4,?_,by rw[ht,List.length_append];omega,by rw[hx,List.length_append];omega⟩
 rw[tn1 h1,X0P ([],[]) (by omega)]
 unfold Xr6 at h5 ⊢
 rw[List.foldl_append,←h5,ht,hx]
 rfl
theorem Xqs{l:List Ser}{t x:List UInt8}{i:Int}(h:ftI l t x i)(hi:¬i<l.length):(t++(x++X0E t.length 4))++X0E (Xe5 (t++(x++X0E t.length 4))) 4=X0o l:=by
 obtain⟨h1,h2,h3,h4,h5,h6,h7⟩:=h
 have e:i.toNat=l.length:=by omega
 rw[e,List.take_length]at h5
 unfold X0o
 rw[if_pos ⟨h3,h4⟩,←h5]
 rfl
theorem XdI{l:List Ser}(h:X2i l=false):[]=X0o l:=by simp[X0o,h]
theorem Xkz{l:List Ser}(h:X2i l=true)(h2:l≠[]):ftI l [116,115,98,49] [] 0:=⟨by omega,by omega,h,h2,rfl,by simp,by simp⟩
def X74:Con:={A:=X5X,shA:=[.one],R:=.str,shR:=[(false,1)],pre:=fun _ a=>(X4v a),f:=some fun _ a=>((X0o a),((),()))}
def X1R.F(a0:U1q):Prop:=((X4v a0)∧∀r1,(Eq r1 ((X2i a0),((),())))→(X00 (!r1.1) (Eq ([],((),())) ((X0o a0),((),()))) (X00 ((ln a0)==(0:Int)) (Eq ([],((),())) ((X0o a0),((),()))) (eS [(0,.val false [.lst T4q a0 none])] [(0,.val false [.lst T4q a0 none])]∧((ftI a0 [116,115,98,49] [] 0)∧∀(y2:(U5q×(U5q×Int))),(ftI a0 y2.1 y2.2.1 y2.2.2)→(X00 (decide (y2.2.2<(ln a0))) (0≤y2.2.2∧(y2.2.2<(ln a0)∧(True∧∀r3,(Eq r3 ((X04 ((List.getD a0 (tN y2.2.2) ([],[])).2)),((),())))→(0≤y2.2.2∧(y2.2.2<(ln a0)∧(True∧∀r4,(Eq r4 ((X0v (ln ((List.getD a0 (tN y2.2.2) ([],[])).1))),((),())))→(List.length y2.2.1+List.length r4.1≤9223372036854775807∧(0≤y2.2.2∧(y2.2.2<(ln a0)∧(List.length (y2.2.1++r4.1)+List.length ((List.getD a0 (tN y2.2.2) ([],[])).1)≤9223372036854775807∧(True∧∀r5,(Eq r5 ((X0v (ln y2.1)),((),())))→(List.length ((y2.2.1++r4.1)++((List.getD a0 (tN y2.2.2) ([],[])).1))+List.length r5.1≤9223372036854775807∧(True∧∀r6,(Eq r6 ((X0v (ln r3.1)),((),())))→(List.length (((y2.2.1++r4.1)++((List.getD a0 (tN y2.2.2) ([],[])).1))++r5.1)+List.length r6.1≤9223372036854775807∧(0≤(0:Int)∧((0:Int)<(ln ((List.getD a0 (tN y2.2.2) ([],[])).2))∧(True∧∀r7,(Eq r7 ((X0v ((List.getD ((List.getD a0 (tN y2.2.2) ([],[])).2) (tN (0:Int)) (0,0)).1)),((),())))→(List.length ((((y2.2.1++r4.1)++((List.getD a0 (tN y2.2.2) ([],[])).1))++r5.1)++r6.1)+List.length r7.1≤9223372036854775807∧(0≤(wI ((ln ((List.getD a0 (tN y2.2.2) ([],[])).2)) - (1:Int)))∧((wI ((ln ((List.getD a0 (tN y2.2.2) ([],[])).2)) - (1:Int)))<(ln ((List.getD a0 (tN y2.2.2) ([],[])).2))∧(True∧∀r8,(Eq r8 ((X0v ((List.getD ((List.getD a0 (tN y2.2.2) ([],[])).2) (tN (wI ((ln ((List.getD a0 (tN y2.2.2) ([],[])).2)) - (1:Int)))) (0,0)).1)),((),())))→(List.length (((((y2.2.1++r4.1)++((List.getD a0 (tN y2.2.2) ([],[])).1))++r5.1)++r6.1)++r7.1)+List.length r8.1≤9223372036854775807∧(List.length y2.1+List.length r3.1≤9223372036854775807∧(eS [(0,.val false [.lst T4q a0 none])] [(0,.val false [.lst T4q a0 none])]∧(ftI a0 (y2.1++r3.1) ((((((y2.2.1++r4.1)++((List.getD a0 (tN y2.2.2) ([],[])).1))++r5.1)++r6.1)++r7.1)++r8.1) (wI (y2.2.2+(1:Int))))∧(ftM a0 (y2.1++r3.1) ((((((y2.2.1++r4.1)++((List.getD a0 (tN y2.2.2) ([],[])).1))++r5.1)++r6.1)++r7.1)++r8.1) (wI (y2.2.2+(1:Int))))<(ftM a0 y2.1 y2.2.1 y2.2.2))))))))))))))))))))))))) (List.length y2.1+List.length y2.2.1≤9223372036854775807∧((X8q (ln y2.1) 4)∧∀r9,(Eq r9 ((X0E (ln y2.1) 4),((),())))→(List.length (y2.1++y2.2.1)+List.length r9.1≤9223372036854775807∧((Xmp ((y2.1++y2.2.1)++r9.1))∧∀r10,(Eq r10 ((Xe5 ((y2.1++y2.2.1)++r9.1)),((),())))→((X8q r10.1 4)∧∀r11,(Eq r11 ((X0E r10.1 4),((),())))→(List.length ((y2.1++y2.2.1)++r9.1)+List.length r11.1≤9223372036854775807∧(Eq ((((y2.1++y2.2.1)++r9.1)++r11.1),((),())) ((X0o a0),((),())))))))))))))))
def X1R.L(a0:U1q):Nat→Option X0e:=fun p=>Go.Proofs.YtcfaphojdacmbaaGreatR.Bv.look p [(250,{kp:={hold:=[0],slots:=[3,4,5],boxes:=[],rows:=[]},T:=(.pair .str Xk4),I:=fun st y=>ftI a0 y.1 y.2.1 y.2.2,μ:=fun st y=>ftM a0 y.1 y.2.1 y.2.2})]
theorem X1R.pure(a0:U1q)(h:(X4v a0))(hw:Wf X74.A a0):X1R.F a0:=by
 delta X1R.F ln tN wI eS
 have hk:X4v a0:=h
 simp only[Bs,B0,B1,Prod.mk.injEq,X01,X8q]
 refine⟨hk,fun h1=>XdI h1,fun h1=>⟨fun h2=>?_,fun h2=>⟨Xkz h1 (fun e=>by subst e;exact h2 rfl),?_⟩⟩⟩
 · have:a0=[]:=List.length_eq_zero_iff.1 (by omega)
   subst this;rfl
 rintro⟨t,x,i⟩ hI
 simp only at hI ⊢
 have q1:=hI.h1
 have q2:=hI.h2
 have q6:=hI.h6
 have q7:=hI.h7
 have hs0:=Xfr hI.h3
 refine⟨fun hi=>?_,fun hi=>?_⟩
 · have hs:=hs0.2 i.toNat (by omega)
   have st:∀t' x',t'=t++X04 (a0.getD i.toNat ([],[])).2→x'=x++X5W (a0.getD i.toNat ([],[])) t.length→ftI a0 t' x' (i+1):=fun t' x'=>XmR hI hi
   have dn:∀t' x',ftM a0 t' x' (i+1)<ftM a0 t x i:=fun t' x'=>by unfold ftM;omega
   unfold X5W at st
   generalize a0.getD i.toNat ([],[])=s at*
   have b1:=X5y s.2
   have v1:=X0d s.1.length
   have v2:=X0d t.length
   have v3:=X0d (X04 s.2).length
   have v4:=X0d (s.2.getD 0 (0,0)).1
   have v5:=X0d (s.2.getD (s.2.length - 1) (0,0)).1
   have v6:=X6Q hs.2.2.2
   have e1:((s.2.length:Int) - 1).toNat=s.2.length - 1:=by omega
   have e0:(0:Int).toNat=0:=rfl
   simp (disch:=omega) only[w64,e1,e0]
   repeat' (with_reducible (first | (refine And.intro ?_ ?_) | intro _))
   all_goals (first | omega | exact dn _ _ | (refine st _ _ ?_ ?_<;>simp only[List.append_assoc]) | skip)
 · have f1:=X2u t.length 4
   have he:=Xqs hI hi
   have f2:=X2u (Xe5 (t++(x++X0E t.length 4))) 4
   have c1:=Xfg (t++(x++X0E t.length 4))
   simp only[←List.append_assoc]at he f2 c1 ⊢
   repeat' (with_reducible (first | (refine And.intro ?_ ?_) | intro _))
   all_goals (first | omega | exact he | (unfold Xmp maxLen;simp only[List.length_append];omega) | skip)
theorem X1R.eq:EqS X74 Tryz.f134 [9] [X1U.e,X1G.e,X3v.e,X3u.e,X52.e] [] (fun i x=>X1R.L x) (fun i x=>X1R.F x):=by intro i x;kernel_rfl
theorem X1R.ok:X0k Tryz.prog 134 X74:=X1Z X1R.eq Tryz.func134 rfl (by kernel_rfl) fun i x h hi hw=>X1R.pure x h hw
def X1R.e:GE:=⟨134,X74,⟨_,Tryz.func134,rfl,rfl⟩,X1R.ok⟩
def X7k:Con:={A:=X5X,shA:=[.one],R:=.str,shR:=[(false,1)],pre:=fun _ a=>(X4v a),f:=some fun _ a=>((X0o a),((),()))}
def X1O.F(a0:U1q):Prop:=((X4v a0)∧∀r1,(Eq r1 ((X2i a0),((),())))→(X00 (!r1.1) (Eq ([],((),())) ((X0o a0),((),()))) (X00 ((ln a0)==(0:Int)) (Eq ([],((),())) ((X0o a0),((),()))) (eS [(16,.val false [.lst T4q a0 none]),(17,.val false [.int .i64 (ln a0)])] [(16,.val false [.lst T4q a0 none]),(17,.val false [.int .i64 (ln a0)])]∧((ftI a0 [116,115,98,49] [] 0)∧∀(y2:(U5q×(U5q×Int))),(ftI a0 y2.1 y2.2.1 y2.2.2)→(X00 (decide (y2.2.2<(ln a0))) (0≤y2.2.2∧(y2.2.2<(ln a0)∧(True∧∀r3,(Eq r3 ((X04 ((List.getD a0 (tN y2.2.2) ([],[])).2)),((),())))→(True∧∀r4,(Eq r4 ((X0v (ln ((List.getD a0 (tN y2.2.2) ([],[])).1))),((),())))→(List.length r4.1+List.length ((List.getD a0 (tN y2.2.2) ([],[])).1)≤9223372036854775807∧(True∧∀r5,(Eq r5 ((X0v (ln y2.1)),((),())))→(List.length (r4.1++((List.getD a0 (tN y2.2.2) ([],[])).1))+List.length r5.1≤9223372036854775807∧(True∧∀r6,(Eq r6 ((X0v (ln r3.1)),((),())))→(List.length ((r4.1++((List.getD a0 (tN y2.2.2) ([],[])).1))++r5.1)+List.length r6.1≤9223372036854775807∧(0≤(0:Int)∧((0:Int)<(ln ((List.getD a0 (tN y2.2.2) ([],[])).2))∧(True∧∀r7,(Eq r7 ((X0v ((List.getD ((List.getD a0 (tN y2.2.2) ([],[])).2) (tN (0:Int)) (0,0)).1)),((),())))→(List.length (((r4.1++((List.getD a0 (tN y2.2.2) ([],[])).1))++r5.1)++r6.1)+List.length r7.1≤9223372036854775807∧(0≤(wI ((ln ((List.getD a0 (tN y2.2.2) ([],[])).2)) - (1:Int)))∧((wI ((ln ((List.getD a0 (tN y2.2.2) ([],[])).2)) - (1:Int)))<(ln ((List.getD a0 (tN y2.2.2) ([],[])).2))∧(True∧∀r8,(Eq r8 ((X0v ((List.getD ((List.getD a0 (tN y2.2.2) ([],[])).2) (tN (wI ((ln ((List.getD a0 (tN y2.2.2) ([],[])).2)) - (1:Int)))) (0,0)).1)),((),())))→(List.length ((((r4.1++((List.getD a0 (tN y2.2.2) ([],[])).1))++r5.1)++r6.1)++r7.1)+List.length r8.1≤9223372036854775807∧(List.length y2.2.1+List.length (((((r4.1++((List.getD a0 (tN y2.2.2) ([],[])).1))++r5.1)++r6.1)++r7.1)++r8.1)≤9223372036854775807∧(List.length y2.1+List.length r3.1≤9223372036854775807∧(eS [(16,.val false [.lst T4q a0 none]),(17,.val false [.int .i64 (ln a0)])] [(16,.val false [.lst T4q a0 none]),(17,.val false [.int .i64 (ln a0)])]∧(ftI a0 (y2.1++r3.1) (y2.2.1++(((((r4.1++((List.getD a0 (tN y2.2.2) ([],[])).1))++r5.1)++r6.1)++r7.1)++r8.1)) (wI (y2.2.2+(1:Int))))∧(ftM a0 (y2.1++r3.1) (y2.2.1++(((((r4.1++((List.getD a0 (tN y2.2.2) ([],[])).1))++r5.1)++r6.1)++r7.1)++r8.1)) (wI (y2.2.2+(1:Int))))<(ftM a0 y2.1 y2.2.1 y2.2.2))))))))))))))))))))) ((X8q (ln y2.1) 4)∧∀r9,(Eq r9 ((X0E (ln y2.1) 4),((),())))→(List.length y2.2.1+List.length r9.1≤9223372036854775807∧(List.length y2.1+List.length (y2.2.1++r9.1)≤9223372036854775807∧((Xmp (y2.1++(y2.2.1++r9.1)))∧∀r10,(Eq r10 ((Xe5 (y2.1++(y2.2.1++r9.1))),((),())))→((X8q r10.1 4)∧∀r11,(Eq r11 ((X0E r10.1 4),((),())))→(List.length (y2.1++(y2.2.1++r9.1))+List.length r11.1≤9223372036854775807∧(Eq (((y2.1++(y2.2.1++r9.1))++r11.1),((),())) ((X0o a0),((),())))))))))))))))
def X1O.L(a0:U1q):Nat→Option X0e:=fun p=>Go.Proofs.YtcfaphojdacmbaaGreatR.Bv.look p [(122,{kp:={hold:=[16,17],slots:=[3,4,18],boxes:=[],rows:=[]},T:=(.pair .str Xk4),I:=fun st y=>ftI a0 y.1 y.2.1 y.2.2,μ:=fun st y=>ftM a0 y.1 y.2.1 y.2.2})]
theorem X1O.pure(a0:U1q)(h:(X4v a0))(hw:Wf X7k.A a0):X1O.F a0:=by
 delta X1O.F ln tN wI eS
 have hk:X4v a0:=h
 simp only[Bs,B0,B1,Prod.mk.injEq,X01,X8q]
 refine⟨hk,fun h1=>XdI h1,fun h1=>⟨fun h2=>?_,fun h2=>⟨Xkz h1 (fun e=>by subst e;exact h2 rfl),?_⟩⟩⟩
 · have:a0=[]:=List.length_eq_zero_iff.1 (by omega)
   subst this;rfl
 rintro⟨t,x,i⟩ hI
 simp only at hI ⊢
 have q1:=hI.h1
 have q2:=hI.h2
 have q6:=hI.h6
 have q7:=hI.h7
 have hs0:=Xfr hI.h3
 refine⟨fun hi=>?_,fun hi=>?_⟩
 · have hs:=hs0.2 i.toNat (by omega)
   have st:∀t' x',t'=t++X04 (a0.getD i.toNat ([],[])).2→x'=x++X5W (a0.getD i.toNat ([],[])) t.length→ftI a0 t' x' (i+1):=fun t' x'=>XmR hI hi
   have dn:∀t' x',ftM a0 t' x' (i+1)<ftM a0 t x i:=fun t' x'=>by unfold ftM;omega
   unfold X5W at st
   generalize a0.getD i.toNat ([],[])=s at*
   have b1:=X5y s.2
   have v1:=X0d s.1.length
   have v2:=X0d t.length
   have v3:=X0d (X04 s.2).length
   have v4:=X0d (s.2.getD 0 (0,0)).1
   have v5:=X0d (s.2.getD (s.2.length - 1) (0,0)).1
   have v6:=X6Q hs.2.2.2
   have e1:((s.2.length:Int) - 1).toNat=s.2.length - 1:=by omega
   have e0:(0:Int).toNat=0:=rfl
   simp (disch:=omega) only[w64,e1,e0]
   repeat' (with_reducible (first | (refine And.intro ?_ ?_) | intro _))
   all_goals (first | omega | exact dn _ _ | (refine st _ _ ?_ ?_<;>simp only[List.append_assoc]) | skip)
 · have f1:=X2u t.length 4
   have he:=Xqs hI hi
   have f2:=X2u (Xe5 (t++(x++X0E t.length 4))) 4
   have c1:=Xfg (t++(x++X0E t.length 4))
   simp only[←List.append_assoc]at he f2 c1 ⊢
   repeat' (with_reducible (first | (refine And.intro ?_ ?_) | intro _))
   all_goals (first | omega | exact he | (unfold Xmp maxLen;simp only[List.length_append];omega) | skip)
theorem X1O.eq:EqS X7k Tryz.f139 [9] [X1P.e,X3G.e,X1m.e,X3y.e,X54.e] [] (fun i x=>X1O.L x) (fun i x=>X1O.F x):=by intro i x;kernel_rfl
theorem X1O.ok:X0k Tryz.prog 139 X7k:=X1Z X1O.eq Tryz.func139 rfl (by kernel_rfl) fun i x h hi hw=>X1O.pure x h hw
def X1O.e:GE:=⟨139,X7k,⟨_,Tryz.func139,rfl,rfl⟩,X1O.ok⟩
end Go.Proofs.YtcfaphojdacmbaaGreatR.B
