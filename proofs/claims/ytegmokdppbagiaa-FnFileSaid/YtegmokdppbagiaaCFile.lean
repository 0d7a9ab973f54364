/- Files of series:shown. -/
import Derived.Test.YtegmokdppbagiaaCBlk
import Derived.Test.YtegmokdppbagiaaCTypes
set_option linter.unusedVariables false
set_option linter.unusedSimpArgs false
namespace Go.Proofs.Ytegmokdppbagiaa.B
open Go Go.Proofs.Ytegmokdppbagiaa.Bv
def X3w(s:Ser)(n:Nat):List UInt8:=X27 s.1.length++(s.1++(X27 n++(X27 (X03 s.2).length++(X27 (s.2.getD 0 (0,0)).1++X27 (s.2.getD (s.2.length - 1) (0,0)).1))))
def Xff(p:List UInt8×List UInt8)(s:Ser):List UInt8×List UInt8:=(p.1++X03 s.2,p.2++X3w s p.1.length)
def XeL(l:List Ser):List UInt8×List UInt8:=l.foldl Xff ([116,115,98,49],[])
def X73(p:List UInt8×List UInt8):List UInt8:=p.1++(p.2++X0s p.1.length 4)
def X09(l:List Ser):List UInt8:=if X0L l=true∧l≠[] then X73 (XeL l)++X0s (X6G (X73 (XeL l))) 4 else []
theorem X3x(l:List Pt):(X03 l).length≤2014:=by
 unfold X03;split
 · exact XaU _
 · simp
theorem X5O{l:List Ser}(h:X0L l=true):l.length≤5∧∀i,i<l.length→(l.getD i ([],[])).1.length≤8∧1≤(l.getD i ([],[])).1.length∧(l.getD i ([],[])).2.length≠0∧X0N (l.getD i ([],[])).2=true:=by
 simp only[X0L,Bool.and_eq_true,decide_eq_true_eq,X7d]at h
 refine⟨h.1,fun i hi=>?_⟩
 have:=h.2 i hi
 simp only[Xcm,Bool.and_eq_true,decide_eq_true_eq,X7V,X0Z]at this
 exact⟨by omega,by omega,this.2.2.1,this.2.2.2⟩
theorem X9V{s:Ser}{n:Nat}(h:s.1.length≤8):(X3w s n).length≤43:=by
 have h1:=X0m s.1.length
 have h2:=X0m n
 have h3:=X0m (X03 s.2).length
 have h4:=X0m (s.2.getD 0 (0,0)).1
 have h5:=X0m (s.2.getD (s.2.length - 1) (0,0)).1
 simp only[X3w,List.length_append];omega
structure ftI (l:List Ser) (t x:List UInt8) (i:Int):Prop where
 h1:0≤i
 h2:i≤l.length
 h3:X0L l=true
 h4:l≠[]
 h5:(t,x)=XeL (l.take i.toNat)
 h6:(t.length:Int)≤4+2014*i
 h7:(x.length:Int)≤43*i
def ftM(l:List Ser)(t x:List UInt8)(i:Int):Nat:=(l.length - i).toNat
theorem XhS{l:List Ser}{t x t' x':List UInt8}{i:Int}(h:ftI l t x i)(hi:i<l.length)(ht:t'=t++X03 (l.getD i.toNat ([],[])).2)(hx:x'=x++X3w (l.getD i.toNat ([],[])) t.length):ftI l t' x' (i+1):=by
 obtain⟨h1,h2,h3,h4,h5,h6,h7⟩:=h
 have hs:=(X5O h3).2 i.toNat (by omega)
 have b1:=X3x (l.getD i.toNat ([],[])).2
 have b2:=X9V (n:=t.length) hs.1
 refine⟨by omega,by omega,h3,h4,?_,by rw[ht,List.length_append];omega,by rw[hx,List.length_append];omega⟩
 rw[tn1 h1,X44 ([],[]) (by omega)]
 unfold XeL at h5 ⊢
 rw[List.foldl_append,←h5,ht,hx]
 rfl
theorem Xj1{l:List Ser}{t x:List UInt8}{i:Int}(h:ftI l t x i)(hi:¬i<l.length):(t++(x++X0s t.length 4))++X0s (X6G (t++(x++X0s t.length 4))) 4=X09 l:=by
 obtain⟨h1,h2,h3,h4,h5,h6,h7⟩:=h
 have e:i.toNat=l.length:=by omega
 rw[e,List.take_length]at h5
 unfold X09
 rw[if_pos ⟨h3,h4⟩,←h5]
 rfl
theorem Xc1{l:List Ser}(h:X0L l=false):[]=X09 l:=by simp[X09,h]
theorem XgX{l:List Ser}(h:X0L l=true)(h2:l≠[]):ftI l [116,115,98,49] [] 0:=⟨by omega,by omega,h,h2,rfl,by simp,by simp⟩
def X3f:Con:={A:=(.list T1q),shA:=[.one],R:=.str,shR:=[(false,1)],pre:=fun _ a=>(X3M a),f:=some fun _ a=>((X09 a),((),()))}
def X0J.F(a0:U2q):Prop:=((X3M a0)∧∀r1,(Eq r1 ((X0L a0),((),())))→(X04 (!r1.1) (Eq ([],((),())) ((X09 a0),((),()))) (X04 ((ln a0)==(0:Int)) (Eq ([],((),())) ((X09 a0),((),()))) (eS [(16,.val false [.lst T1q a0 none]),(17,.val false [.int .i64 (ln a0)])] [(16,.val false [.lst T1q a0 none]),(17,.val false [.int .i64 (ln a0)])]∧((ftI a0 [116,115,98,49] [] 0)∧∀(y2:(U3q×(U3q×Int))),(ftI a0 y2.1 y2.2.1 y2.2.2)→(X04 (decide (y2.2.2<(ln a0))) (0≤y2.2.2∧(y2.2.2<(ln a0)∧(True∧∀r3,(Eq r3 ((X03 ((List.getD a0 (tN y2.2.2) ([],[])).2)),((),())))→(True∧∀r4,(Eq r4 ((X27 (ln ((List.getD a0 (tN y2.2.2) ([],[])).1))),((),())))→(List.length r4.1+List.length ((List.getD a0 (tN y2.2.2) ([],[])).1)≤9223372036854775807∧(True∧∀r5,(Eq r5 ((X27 (ln y2.1)),((),())))→(List.length (r4.1++((List.getD a0 (tN y2.2.2) ([],[])).1))+List.length r5.1≤9223372036854775807∧(True∧∀r6,(Eq r6 ((X27 (ln r3.1)),((),())))→(List.length ((r4.1++((List.getD a0 (tN y2.2.2) ([],[])).1))++r5.1)+List.length r6.1≤9223372036854775807∧(0≤(0:Int)∧((0:Int)<(ln ((List.getD a0 (tN y2.2.2) ([],[])).2))∧(True∧∀r7,(Eq r7 ((X27 ((List.getD ((List.getD a0 (tN y2.2.2) ([],[])).2) (tN (0:Int)) (0,0)).1)),((),())))→(List.length (((r4.1++((List.getD a0 (tN y2.2.2) ([],[])).1))++r5.1)++r6.1)+List.length r7.1≤9223372036854775807∧(0≤(wI ((ln ((List.getD a0 (tN y2.2.2) ([],[])).2)) - (1:Int)))∧((wI ((ln ((List.getD a0 (tN y2.2.2) ([],[])).2)) - (1:Int)))<(ln ((List.getD a0 (tN y2.2.2) ([],[])).2))∧(True∧∀r8,(Eq r8 ((X27 ((List.getD ((List.getD a0 (tN y2.2.2) ([],[])).2) (tN (wI ((ln ((List.getD a0 (tN y2.2.2) ([],[])).2)) - (1:Int)))) (0,0)).1)),((),())))→(List.length ((((r4.1++((List.getD a0 (tN y2.2.2) ([],[])).1))++r5.1)++r6.1)++r7.1)+List.length r8.1≤9223372036854775807∧(List.length y2.2.1+List.length (((((r4.1++((List.getD a0 (tN y2.2.2) ([],[])).1))++r5.1)++r6.1)++r7.1)++r8.1)≤9223372036854775807∧(List.length y2.1+List.length r3.1≤9223372036854775807∧(eS [(16,.val false [.lst T1q a0 none]),(17,.val false [.int .i64 (ln a0)])] [(16,.val false [.lst T1q a0 none]),(17,.val false [.int .i64 (ln a0)])]∧(ftI a0 (y2.1++r3.1) (y2.2.1++(((((r4.1++((List.getD a0 (tN y2.2.2) ([],[])).1))++r5.1)++r6.1)++r7.1)++r8.1)) (wI (y2.2.2+(1:Int))))∧(ftM a0 (y2.1++r3.1) (y2.2.1++(((((r4.1++((List.getD a0 (tN y2.2.2) ([],[])).1))++r5.1)++r6.1)++r7.1)++r8.1)) (wI (y2.2.2+(1:Int))))<(ftM a0 y2.1 y2.2.1 y2.2.2))))))))))))))))))))) ((X7T (ln y2.1) 4)∧∀r9,(Eq r9 ((X0s (ln y2.1) 4),((),())))→(List.length y2.2.1+List.length r9.1≤9223372036854775807∧(List.length y2.1+List.length (y2.2.1++r9.1)≤9223372036854775807∧((Xir (y2.1++(y2.2.1++r9.1)))∧∀r10,(Eq r10 ((X6G (y2.1++(y2.2.1++r9.1))),((),())))→((X7T r10.1 4)∧∀r11,(Eq r11 ((X0s r10.1 4),((),())))→(List.length (y2.1++(y2.2.1++r9.1))+List.length r11.1≤9223372036854775807∧(Eq (((y2.1++(y2.2.1++r9.1))++r11.1),((),())) ((X09 a0),((),())))))))))))))))
def X0J.L(a0:U2q):Nat→Option X0g:=fun p=>Go.Proofs.Ytegmokdppbagiaa.Bv.look p [(122,{kp:={hold:=[16,17],slots:=[3,4,18],boxes:=[],rows:=[]},T:=(.pair .str (.pair .str (.int .i64))),I:=fun st y=>ftI a0 y.1 y.2.1 y.2.2,μ:=fun st y=>ftM a0 y.1 y.2.1 y.2.2})]
theorem X0J.pure(a0:U2q)(h:(X3M a0))(hw:Wf X3f.A a0):X0J.F a0:=by
 delta X0J.F ln tN wI eS
 have hk:X3M a0:=h
 simp only[Bs,B0,B1,Prod.mk.injEq,X06,X7T]
 refine⟨hk,fun h1=>Xc1 h1,fun h1=>⟨fun h2=>?_,fun h2=>⟨XgX h1 (fun e=>by subst e;exact h2 rfl),?_⟩⟩⟩
 · have:a0=[]:=List.length_eq_zero_iff.1 (by omega)
   subst this;rfl
 rintro⟨t,x,i⟩ hI
 simp only at hI ⊢
 have q1:=hI.h1
 have q2:=hI.h2
 have q6:=hI.h6
 have q7:=hI.h7
 have hs0:=X5O hI.h3
 refine⟨fun hi=>?_,fun hi=>?_⟩
 · have hs:=hs0.2 i.toNat (by omega)
   have st:∀t' x',t'=t++X03 (a0.getD i.toNat ([],[])).2→x'=x++X3w (a0.getD i.toNat ([],[])) t.length→ftI a0 t' x' (i+1):=fun t' x'=>XhS hI hi
   have dn:∀t' x',ftM a0 t' x' (i+1)<ftM a0 t x i:=fun t' x'=>by unfold ftM;omega
   unfold X3w at st
   generalize a0.getD i.toNat ([],[])=s at*
   have b1:=X3x s.2
   have v1:=X0m s.1.length
   have v2:=X0m t.length
   have v3:=X0m (X03 s.2).length
   have v4:=X0m (s.2.getD 0 (0,0)).1
   have v5:=X0m (s.2.getD (s.2.length - 1) (0,0)).1
   have v6:=X53 hs.2.2.2
   have e1:((s.2.length:Int) - 1).toNat=s.2.length - 1:=by omega
   have e0:(0:Int).toNat=0:=rfl
   simp (disch:=omega) only[w64,e1,e0]
   repeat' (with_reducible (first | (refine And.intro ?_ ?_) | intro _))
   all_goals (first | omega | exact dn _ _ | (refine st _ _ ?_ ?_<;>simp only[List.append_assoc]) | skip)
 · have f1:=X2w t.length 4
   have he:=Xj1 hI hi
   have f2:=X2w (X6G (t++(x++X0s t.length 4))) 4
   have c1:=X91 (t++(x++X0s t.length 4))
   simp only[←List.append_assoc]at he f2 c1 ⊢
   repeat' (with_reducible (first | (refine And.intro ?_ ?_) | intro _))
   all_goals (first | omega | exact he | (unfold Xir maxLen;simp only[List.length_append];omega) | skip)
set_option maxRecDepth 100000 in
theorem X0J.eq:EqS X3f Try.f9 [9] [X0R.e,X0C.e,X1X.e,X1n.e,X2h.e] [] (fun i x=>X0J.L x) (fun i x=>X0J.F x):=by intro i x;kernel_rfl
theorem X0J.ok:X11 Try.prog 9 X3f:=X3V X0J.eq Try.func9 rfl (by kernel_rfl) fun i x h hi hw=>X0J.pure x h hw
def X0J.e:GE:=⟨9,X3f,⟨_,Try.func9,rfl,rfl⟩,X0J.ok⟩
end Go.Proofs.Ytegmokdppbagiaa.B
