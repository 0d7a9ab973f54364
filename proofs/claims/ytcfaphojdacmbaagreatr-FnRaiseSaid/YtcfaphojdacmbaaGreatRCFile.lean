/- Files of series:shown. -/
import Derived.Test.YtcfaphojdacmbaaGreatRCBlk
import Derived.Test.YtcfaphojdacmbaaGreatRCTypes
set_option maxRecDepth 100000
set_option linter.unusedVariables false
set_option linter.unusedSimpArgs false
namespace Go.Proofs.YtcfaphojdacmbaaGreatR.B
open Go Go.Proofs.YtcfaphojdacmbaaGreatR.Bv
def X50(s:Ser)(n:Nat):List UInt8:=X1K s.1.length++(s.1++(X1K n++(X1K (X04 s.2).length++(X1K (s.2.getD 0 (0,0)).1++X1K (s.2.getD (s.2.length - 1) (0,0)).1))))
def Xmy(p:List UInt8×List UInt8)(s:Ser):List UInt8×List UInt8:=(p.1++X04 s.2,p.2++X50 s p.1.length)
def Xpp(l:List Ser):List UInt8×List UInt8:=l.foldl Xmy ([116,115,98,49],[])
def Xh2(p:List UInt8×List UInt8):List UInt8:=p.1++(p.2++X0D p.1.length 4)
def X0j(l:List Ser):List UInt8:=if X0y l=true∧l≠[] then Xh2 (Xpp l)++X0D (XcT (Xh2 (Xpp l))) 4 else []
theorem X4R(l:List Pt):(X04 l).length≤2014:=by
 unfold X04;split
 · exact Xgk _
 · simp
theorem XdG{l:List Ser}(h:X0y l=true):l.length≤5∧∀i,i<l.length→(l.getD i ([],[])).1.length≤8∧1≤(l.getD i ([],[])).1.length∧(l.getD i ([],[])).2.length≠0∧X0x (l.getD i ([],[])).2=true:=by
 simp only[X0y,Bool.and_eq_true,decide_eq_true_eq,Xd8]at h
 refine⟨h.1,fun i hi=>?_⟩
 have:=h.2 i hi
 simp only[Xhn,Bool.and_eq_true,decide_eq_true_eq,X7L,X0C]at this
 exact⟨by omega,by omega,this.2.2.1,this.2.2.2⟩
theorem XeU{s:Ser}{n:Nat}(h:s.1.length≤8):(X50 s n).length≤43:=by
 have h1:=X0v s.1.length
 have h2:=X0v n
 have h3:=X0v (X04 s.2).length
 have h4:=X0v (s.2.getD 0 (0,0)).1
 have h5:=X0v (s.2.getD (s.2.length - 1) (0,0)).1
 simp only[X50,List.length_append];omega
structure ftI (l:List Ser) (t x:List UInt8) (i:Int):Prop where
 h1:0≤i
 h2:i≤l.length
 h3:X0y l=true
 h4:l≠[]
 h5:(t,x)=Xpp (l.take i.toNat)
 h6:(t.length:Int)≤4+2014*i
 h7:(x.length:Int)≤43*i
def ftM(l:List Ser)(t x:List UInt8)(i:Int):Nat:=(l.length - i).toNat
theorem Xl7{l:List Ser}{t x t' x':List UInt8}{i:Int}(h:ftI l t x i)(hi:i<l.length)(ht:t'=t++X04 (l.getD i.toNat ([],[])).2)(hx:x'=x++X50 (l.getD i.toNat ([],[])) t.length):ftI l t' x' (i+1):=by
 obtain⟨h1,h2,h3,h4,h5,h6,h7⟩:=h
 have hs:=(XdG h3).2 i.toNat (by omega)
 have b1:=X4R (l.getD i.toNat ([],[])).2
 have b2:=XeU (n:=t.length) hs.1
 refine⟨by omega,by omega,h3,h4,?_,by rw[ht,List.length_append];omega,by rw[hx,List.length_append];omega⟩
 rw[tn1 h1,X1P ([],[]) (by omega)]
 unfold Xpp at h5 ⊢
 rw[List.foldl_append,←h5,ht,hx]
 rfl
theorem XoF{l:List Ser}{t x:List UInt8}{i:Int}(h:ftI l t x i)(hi:¬i<l.length):(t++(x++X0D t.length 4))++X0D (XcT (t++(x++X0D t.length 4))) 4=X0j l:=by
 obtain⟨h1,h2,h3,h4,h5,h6,h7⟩:=h
 have e:i.toNat=l.length:=by omega
 rw[e,List.take_length]at h5
 unfold X0j
 rw[if_pos ⟨h3,h4⟩,←h5]
 rfl
theorem Xcz{l:List Ser}(h:X0y l=false):[]=X0j l:=by simp[X0j,h]
theorem Xjt{l:List Ser}(h:X0y l=true)(h2:l≠[]):ftI l [116,115,98,49] [] 0:=⟨by omega,by omega,h,h2,rfl,by simp,by simp⟩
def X5T:Con:={A:=T8q,shA:=[.one],R:=.str,shR:=[(false,1)],pre:=fun _ a=>(X21 a),f:=some fun _ a=>((X0j a),((),()))}
def X0R.F(a0:(List U1q)):Prop:=((X21 a0)∧∀r1,(Eq r1 ((X0y a0),((),())))→(X00 (!r1.1) (Eq ([],((),())) ((X0j a0),((),()))) (X00 ((ln a0)==(0:Int)) (Eq ([],((),())) ((X0j a0),((),()))) (eS [(0,.val false [.lst T2q a0 none])] [(0,.val false [.lst T2q a0 none])]∧((ftI a0 [116,115,98,49] [] 0)∧∀(y2:(U5q×(U5q×Int))),(ftI a0 y2.1 y2.2.1 y2.2.2)→(X00 (decide (y2.2.2<(ln a0))) (0≤y2.2.2∧(y2.2.2<(ln a0)∧(True∧∀r3,(Eq r3 ((X04 ((List.getD a0 (tN y2.2.2) ([],[])).2)),((),())))→(0≤y2.2.2∧(y2.2.2<(ln a0)∧(True∧∀r4,(Eq r4 ((X1K (ln ((List.getD a0 (tN y2.2.2) ([],[])).1))),((),())))→(List.length y2.2.1+List.length r4.1≤9223372036854775807∧(0≤y2.2.2∧(y2.2.2<(ln a0)∧(List.length (y2.2.1++r4.1)+List.length ((List.getD a0 (tN y2.2.2) ([],[])).1)≤9223372036854775807∧(True∧∀r5,(Eq r5 ((X1K (ln y2.1)),((),())))→(List.length ((y2.2.1++r4.1)++((List.getD a0 (tN y2.2.2) ([],[])).1))+List.length r5.1≤9223372036854775807∧(True∧∀r6,(Eq r6 ((X1K (ln r3.1)),((),())))→(List.length (((y2.2.1++r4.1)++((List.getD a0 (tN y2.2.2) ([],[])).1))++r5.1)+List.length r6.1≤9223372036854775807∧(0≤(0:Int)∧((0:Int)<(ln ((List.getD a0 (tN y2.2.2) ([],[])).2))∧(True∧∀r7,(Eq r7 ((X1K ((List.getD ((List.getD a0 (tN y2.2.2) ([],[])).2) (tN (0:Int)) (0,0)).1)),((),())))→(List.length ((((y2.2.1++r4.1)++((List.getD a0 (tN y2.2.2) ([],[])).1))++r5.1)++r6.1)+List.length r7.1≤9223372036854775807∧(0≤(wI ((ln ((List.getD a0 (tN y2.2.2) ([],[])).2)) - (1:Int)))∧((wI ((ln ((List.getD a0 (tN y2.2.2) ([],[])).2)) - (1:Int)))<(ln ((List.getD a0 (tN y2.2.2) ([],[])).2))∧(True∧∀r8,(Eq r8 ((X1K ((List.getD ((List.getD a0 (tN y2.2.2) ([],[])).2) (tN (wI ((ln ((List.getD a0 (tN y2.2.2) ([],[])).2)) - (1:Int)))) (0,0)).1)),((),())))→(List.length (((((y2.2.1++r4.1)++((List.getD a0 (tN y2.2.2) ([],[])).1))++r5.1)++r6.1)++r7.1)+List.length r8.1≤9223372036854775807∧(List.length y2.1+List.length r3.1≤9223372036854775807∧(eS [(0,.val false [.lst T2q a0 none])] [(0,.val false [.lst T2q a0 none])]∧(ftI a0 (y2.1++r3.1) ((((((y2.2.1++r4.1)++((List.getD a0 (tN y2.2.2) ([],[])).1))++r5.1)++r6.1)++r7.1)++r8.1) (wI (y2.2.2+(1:Int))))∧(ftM a0 (y2.1++r3.1) ((((((y2.2.1++r4.1)++((List.getD a0 (tN y2.2.2) ([],[])).1))++r5.1)++r6.1)++r7.1)++r8.1) (wI (y2.2.2+(1:Int))))<(ftM a0 y2.1 y2.2.1 y2.2.2))))))))))))))))))))))))) (List.length y2.1+List.length y2.2.1≤9223372036854775807∧((X6i (ln y2.1) 4)∧∀r9,(Eq r9 ((X0D (ln y2.1) 4),((),())))→(List.length (y2.1++y2.2.1)+List.length r9.1≤9223372036854775807∧((Xj5 ((y2.1++y2.2.1)++r9.1))∧∀r10,(Eq r10 ((XcT ((y2.1++y2.2.1)++r9.1)),((),())))→((X6i r10.1 4)∧∀r11,(Eq r11 ((X0D r10.1 4),((),())))→(List.length ((y2.1++y2.2.1)++r9.1)+List.length r11.1≤9223372036854775807∧(Eq ((((y2.1++y2.2.1)++r9.1)++r11.1),((),())) ((X0j a0),((),())))))))))))))))
def X0R.L(a0:(List U1q)):Nat→Option X0c:=fun p=>Go.Proofs.YtcfaphojdacmbaaGreatR.Bv.look p [(250,{kp:={hold:=[0],slots:=[3,4,5],boxes:=[],rows:=[]},T:=(.pair .str XkW),I:=fun st y=>ftI a0 y.1 y.2.1 y.2.2,μ:=fun st y=>ftM a0 y.1 y.2.1 y.2.2})]
theorem X0R.pure(a0:(List U1q))(h:(X21 a0))(hw:Wf X5T.A a0):X0R.F a0:=by
 delta X0R.F ln tN wI eS
 have hk:X21 a0:=h
 simp only[Bs,B0,B1,Prod.mk.injEq,X01,X6i]
 refine⟨hk,fun h1=>Xcz h1,fun h1=>⟨fun h2=>?_,fun h2=>⟨Xjt h1 (fun e=>by subst e;exact h2 rfl),?_⟩⟩⟩
 · have:a0=[]:=List.length_eq_zero_iff.1 (by omega)
   subst this;rfl
 rintro⟨t,x,i⟩ hI
 simp only at hI ⊢
 have q1:=hI.h1
 have q2:=hI.h2
 have q6:=hI.h6
 have q7:=hI.h7
 have hs0:=XdG hI.h3
 refine⟨fun hi=>?_,fun hi=>?_⟩
 · have hs:=hs0.2 i.toNat (by omega)
   have st:∀t' x',t'=t++X04 (a0.getD i.toNat ([],[])).2→x'=x++X50 (a0.getD i.toNat ([],[])) t.length→ftI a0 t' x' (i+1):=fun t' x'=>Xl7 hI hi
   have dn:∀t' x',ftM a0 t' x' (i+1)<ftM a0 t x i:=fun t' x'=>by unfold ftM;omega
   unfold X50 at st
   generalize a0.getD i.toNat ([],[])=s at*
   have b1:=X4R s.2
   have v1:=X0v s.1.length
   have v2:=X0v t.length
   have v3:=X0v (X04 s.2).length
   have v4:=X0v (s.2.getD 0 (0,0)).1
   have v5:=X0v (s.2.getD (s.2.length - 1) (0,0)).1
   have v6:=X5F hs.2.2.2
   have e1:((s.2.length:Int) - 1).toNat=s.2.length - 1:=by omega
   have e0:(0:Int).toNat=0:=rfl
   simp (disch:=omega) only[w64,e1,e0]
   repeat' (with_reducible (first | (refine And.intro ?_ ?_) | intro _))
   all_goals (first | omega | exact dn _ _ | (refine st _ _ ?_ ?_<;>simp only[List.append_assoc]) | skip)
 · have f1:=X2z t.length 4
   have he:=XoF hI hi
   have f2:=X2z (XcT (t++(x++X0D t.length 4))) 4
   have c1:=XbZ (t++(x++X0D t.length 4))
   simp only[←List.append_assoc]at he f2 c1 ⊢
   repeat' (with_reducible (first | (refine And.intro ?_ ?_) | intro _))
   all_goals (first | omega | exact he | (unfold Xj5 maxLen;simp only[List.length_append];omega) | skip)
theorem X0R.eq:EqS X5T Tryz.f134 [9] [X1p.e,X1B.e,X3D.e,X2L.e,X46.e] [] (fun i x=>X0R.L x) (fun i x=>X0R.F x):=by intro i x;kernel_rfl
theorem X0R.ok:X0n Tryz.prog 134 X5T:=X2g X0R.eq Tryz.func134 rfl (by kernel_rfl) fun i x h hi hw=>X0R.pure x h hw
def X0R.e:GE:=⟨134,X5T,⟨_,Tryz.func134,rfl,rfl⟩,X0R.ok⟩
def X6d:Con:={A:=T8q,shA:=[.one],R:=.str,shR:=[(false,1)],pre:=fun _ a=>(X21 a),f:=some fun _ a=>((X0j a),((),()))}
def X1n.F(a0:(List U1q)):Prop:=((X21 a0)∧∀r1,(Eq r1 ((X0y a0),((),())))→(X00 (!r1.1) (Eq ([],((),())) ((X0j a0),((),()))) (X00 ((ln a0)==(0:Int)) (Eq ([],((),())) ((X0j a0),((),()))) (eS [(16,.val false [.lst T2q a0 none]),(17,.val false [.int .i64 (ln a0)])] [(16,.val false [.lst T2q a0 none]),(17,.val false [.int .i64 (ln a0)])]∧((ftI a0 [116,115,98,49] [] 0)∧∀(y2:(U5q×(U5q×Int))),(ftI a0 y2.1 y2.2.1 y2.2.2)→(X00 (decide (y2.2.2<(ln a0))) (0≤y2.2.2∧(y2.2.2<(ln a0)∧(True∧∀r3,(Eq r3 ((X04 ((List.getD a0 (tN y2.2.2) ([],[])).2)),((),())))→(True∧∀r4,(Eq r4 ((X1K (ln ((List.getD a0 (tN y2.2.2) ([],[])).1))),((),())))→(List.length r4.1+List.length ((List.getD a0 (tN y2.2.2) ([],[])).1)≤9223372036854775807∧(True∧∀r5,(Eq r5 ((X1K (ln y2.1)),((),())))→(List.length (r4.1++((List.getD a0 (tN y2.2.2) ([],[])).1))+List.length r5.1≤9223372036854775807∧(True∧∀r6,(Eq r6 ((X1K (ln r3.1)),((),())))→(List.length ((r4.1++((List.getD a0 (tN y2.2.2) ([],[])).1))++r5.1)+List.length r6.1≤9223372036854775807∧(0≤(0:Int)∧((0:Int)<(ln ((List.getD a0 (tN y2.2.2) ([],[])).2))∧(True∧∀r7,(Eq r7 ((X1K ((List.getD ((List.getD a0 (tN y2.2.2) ([],[])).2) (tN (0:Int)) (0,0)).1)),((),())))→(List.length (((r4.1++((List.getD a0 (tN y2.2.2) ([],[])).1))++r5.1)++r6.1)+List.length r7.1≤9223372036854775807∧(0≤(wI ((ln ((List.getD a0 (tN y2.2.2) ([],[])).2)) - (1:Int)))∧((wI ((ln ((List.getD a0 (tN y2.2.2) ([],[])).2)) - (1:Int)))<(ln ((List.getD a0 (tN y2.2.2) ([],[])).2))∧(True∧∀r8,(Eq r8 ((X1K ((List.getD ((List.getD a0 (tN y2.2.2) ([],[])).2) (tN (wI ((ln ((List.getD a0 (tN y2.2.2) ([],[])).2)) - (1:Int)))) (0,0)).1)),((),())))→(List.length ((((r4.1++((List.getD a0 (tN y2.2.2) ([],[])).1))++r5.1)++r6.1)++r7.1)+List.length r8.1≤9223372036854775807∧(List.length y2.2.1+List.length (((((r4.1++((List.getD a0 (tN y2.2.2) ([],[])).1))++r5.1)++r6.1)++r7.1)++r8.1)≤9223372036854775807∧(List.length y2.1+List.length r3.1≤9223372036854775807∧(eS [(16,.val false [.lst T2q a0 none]),(17,.val false [.int .i64 (ln a0)])] [(16,.val false [.lst T2q a0 none]),(17,.val false [.int .i64 (ln a0)])]∧(ftI a0 (y2.1++r3.1) (y2.2.1++(((((r4.1++((List.getD a0 (tN y2.2.2) ([],[])).1))++r5.1)++r6.1)++r7.1)++r8.1)) (wI (y2.2.2+(1:Int))))∧(ftM a0 (y2.1++r3.1) (y2.2.1++(((((r4.1++((List.getD a0 (tN y2.2.2) ([],[])).1))++r5.1)++r6.1)++r7.1)++r8.1)) (wI (y2.2.2+(1:Int))))<(ftM a0 y2.1 y2.2.1 y2.2.2))))))))))))))))))))) ((X6i (ln y2.1) 4)∧∀r9,(Eq r9 ((X0D (ln y2.1) 4),((),())))→(List.length y2.2.1+List.length r9.1≤9223372036854775807∧(List.length y2.1+List.length (y2.2.1++r9.1)≤9223372036854775807∧((Xj5 (y2.1++(y2.2.1++r9.1)))∧∀r10,(Eq r10 ((XcT (y2.1++(y2.2.1++r9.1))),((),())))→((X6i r10.1 4)∧∀r11,(Eq r11 ((X0D r10.1 4),((),())))→(List.length (y2.1++(y2.2.1++r9.1))+List.length r11.1≤9223372036854775807∧(Eq (((y2.1++(y2.2.1++r9.1))++r11.1),((),())) ((X0j a0),((),())))))))))))))))
def X1n.L(a0:(List U1q)):Nat→Option X0c:=fun p=>Go.Proofs.YtcfaphojdacmbaaGreatR.Bv.look p [(122,{kp:={hold:=[16,17],slots:=[3,4,18],boxes:=[],rows:=[]},T:=(.pair .str XkW),I:=fun st y=>ftI a0 y.1 y.2.1 y.2.2,μ:=fun st y=>ftM a0 y.1 y.2.1 y.2.2})]
theorem X1n.pure(a0:(List U1q))(h:(X21 a0))(hw:Wf X6d.A a0):X1n.F a0:=by
 delta X1n.F ln tN wI eS
 have hk:X21 a0:=h
 simp only[Bs,B0,B1,Prod.mk.injEq,X01,X6i]
 refine⟨hk,fun h1=>Xcz h1,fun h1=>⟨fun h2=>?_,fun h2=>⟨Xjt h1 (fun e=>by subst e;exact h2 rfl),?_⟩⟩⟩
 · have:a0=[]:=List.length_eq_zero_iff.1 (by omega)
   subst this;rfl
 rintro⟨t,x,i⟩ hI
 simp only at hI ⊢
 have q1:=hI.h1
 have q2:=hI.h2
 have q6:=hI.h6
 have q7:=hI.h7
 have hs0:=XdG hI.h3
 refine⟨fun hi=>?_,fun hi=>?_⟩
 · have hs:=hs0.2 i.toNat (by omega)
   have st:∀t' x',t'=t++X04 (a0.getD i.toNat ([],[])).2→x'=x++X50 (a0.getD i.toNat ([],[])) t.length→ftI a0 t' x' (i+1):=fun t' x'=>Xl7 hI hi
   have dn:∀t' x',ftM a0 t' x' (i+1)<ftM a0 t x i:=fun t' x'=>by unfold ftM;omega
   unfold X50 at st
   generalize a0.getD i.toNat ([],[])=s at*
   have b1:=X4R s.2
   have v1:=X0v s.1.length
   have v2:=X0v t.length
   have v3:=X0v (X04 s.2).length
   have v4:=X0v (s.2.getD 0 (0,0)).1
   have v5:=X0v (s.2.getD (s.2.length - 1) (0,0)).1
   have v6:=X5F hs.2.2.2
   have e1:((s.2.length:Int) - 1).toNat=s.2.length - 1:=by omega
   have e0:(0:Int).toNat=0:=rfl
   simp (disch:=omega) only[w64,e1,e0]
   repeat' (with_reducible (first | (refine And.intro ?_ ?_) | intro _))
   all_goals (first | omega | exact dn _ _ | (refine st _ _ ?_ ?_<;>simp only[List.append_assoc]) | skip)
 · have f1:=X2z t.length 4
   have he:=XoF hI hi
   have f2:=X2z (XcT (t++(x++X0D t.length 4))) 4
   have c1:=XbZ (t++(x++X0D t.length 4))
   simp only[←List.append_assoc]at he f2 c1 ⊢
   repeat' (with_reducible (first | (refine And.intro ?_ ?_) | intro _))
   all_goals (first | omega | exact he | (unfold Xj5 maxLen;simp only[List.length_append];omega) | skip)
theorem X1n.eq:EqS X6d Tryz.f139 [9] [X1q.e,X3N.e,X1f.e,X36.e,X4n.e] [] (fun i x=>X1n.L x) (fun i x=>X1n.F x):=by intro i x;kernel_rfl
theorem X1n.ok:X0n Tryz.prog 139 X6d:=X2g X1n.eq Tryz.func139 rfl (by kernel_rfl) fun i x h hi hw=>X1n.pure x h hw
def X1n.e:GE:=⟨139,X6d,⟨_,Tryz.func139,rfl,rfl⟩,X1n.ok⟩
end Go.Proofs.YtcfaphojdacmbaaGreatR.B
