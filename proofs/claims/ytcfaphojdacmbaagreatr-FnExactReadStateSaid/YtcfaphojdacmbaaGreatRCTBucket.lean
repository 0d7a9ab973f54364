/- Values of the type Bucket:how large,the same,marked. -/
import Derived.Test.YtcfaphojdacmbaaGreatRCTypes
set_option maxRecDepth 100000
set_option linter.unusedVariables false
set_option linter.unusedSimpArgs false
namespace Go.Proofs.YtcfaphojdacmbaaGreatR.B
open Go Go.Proofs.YtcfaphojdacmbaaGreatR.Bv
def XoC.L(a0:U6q):Nat→Option X0e:=fun p=>Go.Proofs.YtcfaphojdacmbaaGreatR.Bv.look p [(58,{kp:={hold:=[0,3],slots:=[4],boxes:=[],rows:=[{bx:=false,s:=3,i:=0,k:=1000387,e:=43,hot:=true}]},T:=Xmg,I:=fun st y=>cpI ((0:Int),(0:Int)) a0 y.1 y.2,μ:=fun st y=>cpM a0 y.1 y.2})]
instance dec_Bucket:DecidableEq (Int×Int):=by(iterate 20 (all_goals (first | infer_instance | refine @instDecidableEqProd _ _ ?_ ?_)))
def X6I(a b:(Int×Int)):Bool:=decide (a=b)
def X7f:Con:={A:=(.pair T0q T0q),shA:=[.agg 2,.agg 2],R:=.bool,shR:=[(false,1)],pre:=fun _ _=>True,f:=some fun _ a=>((X6I a.1 a.2),((),()))}
def X30.F(a0:(Int×Int))(a1:(Int×Int)):Prop:=(X00 (a0.1 !=a1.1) (Eq (false,((),())) ((X6I a0 a1),((),()))) (X00 (a0.2 !=a1.2) (Eq (false,((),())) ((X6I a0 a1),((),()))) (Eq (true,((),())) ((X6I a0 a1),((),())))))
theorem X30.pure(a0:(Int×Int))(a1:(Int×Int))(h:True)(hw:Wf X7f.A (a0,a1)):X30.F a0 a1:=by
 unfold X30.F
 obtain⟨x1,x2⟩:=a0
 obtain⟨y1,y2⟩:=a1
 simp only[Bs,B0,B1,Prod.mk.injEq,X01,X6I]
 repeat' (first | (refine And.intro ?_ ?_) | intro _)
 all_goals simp_all
theorem X30.eq:EqS X7f Tryz.f143 [4] [] [] noL (fun i x=>X30.F x.1 x.2):=by intro i x;kernel_rfl
theorem X30.ok:X0k Tryz.prog 143 X7f:=X1Z X30.eq Tryz.func143 rfl (by kernel_rfl) fun i x h hi hw=>X30.pure x.1 x.2 h hw
def X30.e:GE:=⟨143,X7f,⟨_,Tryz.func143,rfl,rfl⟩,X30.ok⟩
def X4J(a b:List (Int×Int)):Bool:=decide (a=b)
def X63:Con:={A:=(.pair XaB XaB),shA:=[.one,.one],R:=.bool,shR:=[(false,1)],pre:=fun _ _=>True,f:=some fun _ a=>((X4J a.1 a.2),((),()))}
def X1E.F(a0:U6q)(a1:U6q):Prop:=(X00 ((ln a0)!=(ln a1)) (Eq (false,((),())) ((X4J a0 a1),((),()))) (eS [(0,.val false [.lst T0q a0 none]),(1,.val false [.lst T0q a1 none])] [(0,.val false [.lst T0q a0 none]),(1,.val false [.lst T0q a1 none])]∧((XeQ a0 a1 0)∧∀(y1:Int),(XeQ a0 a1 y1)→(X00 (decide (y1<(ln a0))) (0≤y1∧(y1<(ln a0)∧(0≤y1∧(y1<(ln a1)∧(True∧∀r2,(Eq r2 ((X6I ((List.getD a0 (tN y1) (0,0)).1,(List.getD a0 (tN y1) (0,0)).2) ((List.getD a1 (tN y1) (0,0)).1,(List.getD a1 (tN y1) (0,0)).2)),((),())))→(X00 (!r2.1) (Eq (false,((),())) ((X4J a0 a1),((),()))) (eS [(0,.val false [.lst T0q a0 none]),(1,.val false [.lst T0q a1 none])] [(0,.val false [.lst T0q a0 none]),(1,.val false [.lst T0q a1 none])]∧(XeQ a0 a1 (wI (y1+(1:Int))))∧(XgD a0 a1 (wI (y1+(1:Int))))<(XgD a0 a1 y1)))))))) (Eq (true,((),())) ((X4J a0 a1),((),())))))))
def X1E.L(a0:U6q)(a1:U6q):Nat→Option X0e:=fun p=>Go.Proofs.YtcfaphojdacmbaaGreatR.Bv.look p [(58,{kp:={hold:=[0,1],slots:=[5],boxes:=[],rows:=[]},T:=(.int .i64),I:=fun st y=>XeQ a0 a1 y,μ:=fun st y=>XgD a0 a1 y})]
theorem X1E.pure(a0:U6q)(a1:U6q)(h:True)(hw:Wf X63.A (a0,a1)):X1E.F a0 a1:=by
 delta X1E.F ln tN wI eS
 have hw1:a0.length≤9223372036854775807:=hw.1.1
 simp only[Bs,B0,B1,Prod.mk.injEq,X01]
 refine⟨fun h1=>?_,fun h1=>?_⟩
 · have:a0≠a1:=fun e=>by subst e;simp at h1
   simp[X4J,this]
 have hl:a0.length=a1.length:=by omega
 refine⟨⟨by omega,by omega,hl,by simp⟩,?_⟩
 rintro i hI
 have h2:=hI.1
 have h3:=hI.2.1
 refine⟨fun hi=>⟨h2,hi,h2,by omega,fun hne=>?_,fun he=>?_⟩,fun hi=>?_⟩
 · have:a0≠a1:=fun e=>by subst e;simp[X6I]at hne
   simp[X4J,this]
 · have hg:a0.getD i.toNat ((0:Int),(0:Int))=a1.getD i.toNat ((0:Int),(0:Int)):=by simpa only[X6I,decide_eq_true_eq] using he
   rw[w64 (x:=i+1) (by omega) (by omega)]
   exact⟨Xcz hI hi hg,by unfold XgD;omega⟩
 · have h6:=Xf8 hI hi
   simp[X4J,h6]
theorem X1E.eq:EqS X63 Tryz.f64 [4] [X30.e] [] (fun i x=>X1E.L x.1 x.2) (fun i x=>X1E.F x.1 x.2):=by intro i x;kernel_rfl
theorem X1E.ok:X0k Tryz.prog 64 X63:=X1Z X1E.eq Tryz.func64 rfl (by kernel_rfl) fun i x h hi hw=>X1E.pure x.1 x.2 h hw
def X1E.e:GE:=⟨64,X63,⟨_,Tryz.func64,rfl,rfl⟩,X1E.ok⟩
def X0s(x:(Int×Int)):Int:=1+1
def X6Z(x:(Int×Int))(k:Int):(Int×Int):=(k,(k+1))
def X6w(x:(Int×Int))(k:Int):Bool:=(decide (x.1=k))&&(decide (x.2=(k+1)))
theorem Xj1:∀(x:(Int×Int)) (k:Int),X6w (X6Z x k) k=true∧X0s (X6Z x k)=X0s x:=fun x k=>by
 simp[X6w,X6Z,X0s]
theorem X5L:∀x:(Int×Int),0≤X0s x:=fun x=>by
 unfold X0s;omega
def X5q(l:List (Int×Int))(k:Int):Prop:=0≤k∧k+cL X0s l≤4611686018427387904
def X6z(l:List (Int×Int))(k:Int):Int×List (Int×Int):=(k+cL X0s l,mL X0s X6Z l k)
def X50:Con:={A:=(.pair XaB (.int .i64)),shA:=[.one,.one],backA:=[(0,43)],B:=XaB,R:=(.int .i64),shR:=[(false,1)],pre:=fun _ a=>(X5q a.1 a.2),f:=some fun _ a=>((X6z a.1 a.2).1,((),(X6z a.1 a.2).2))}
def X0U.F(a0:U6q)(a1:Int):Prop:=(eS [(0,.val false [.own T0q 2])] [(0,.val false [.own T0q 2])]∧((mkI X0s X6Z a0 a1 a1 0 a0)∧∀(y1:(Int×(Int×U6q))),(mkI X0s X6Z a0 a1 y1.1 y1.2.1 y1.2.2)→(X00 (decide (y1.2.1<(ln y1.2.2))) (0≤y1.2.1∧(y1.2.1<(ln y1.2.2)∧(0≤y1.2.1∧(y1.2.1<(ln (List.set y1.2.2 (tN y1.2.1) (y1.1,(List.getD y1.2.2 (tN y1.2.1) (0,0)).2)))∧(eS [(0,.val false [.own T0q 2])] [(0,.val false [.own T0q 2])]∧(mkI X0s X6Z a0 a1 (wI ((wI (y1.1+(1:Int)))+(1:Int))) (wI (y1.2.1+(1:Int))) (List.set (List.set y1.2.2 (tN y1.2.1) (y1.1,(List.getD y1.2.2 (tN y1.2.1) (0,0)).2)) (tN y1.2.1) ((List.getD (List.set y1.2.2 (tN y1.2.1) (y1.1,(List.getD y1.2.2 (tN y1.2.1) (0,0)).2)) (tN y1.2.1) (0,0)).1,(wI (y1.1+(1:Int))))))∧(mkM a0 a1 (wI ((wI (y1.1+(1:Int)))+(1:Int))) (wI (y1.2.1+(1:Int))) (List.set (List.set y1.2.2 (tN y1.2.1) (y1.1,(List.getD y1.2.2 (tN y1.2.1) (0,0)).2)) (tN y1.2.1) ((List.getD (List.set y1.2.2 (tN y1.2.1) (y1.1,(List.getD y1.2.2 (tN y1.2.1) (0,0)).2)) (tN y1.2.1) (0,0)).1,(wI (y1.1+(1:Int))))))<(mkM a0 a1 y1.1 y1.2.1 y1.2.2)))))) (Eq (y1.1,((),y1.2.2)) ((X6z a0 a1).1,((),(X6z a0 a1).2))))))
def X0U.L(a0:U6q)(a1:Int):Nat→Option X0e:=fun p=>Go.Proofs.YtcfaphojdacmbaaGreatR.Bv.look p [(26,{kp:={hold:=[0],slots:=[1,5],boxes:=[],rows:=[{bx:=false,s:=0,i:=0,k:=2,e:=43,hot:=true}]},T:=(.pair (.int .i64) Xmg),I:=fun st y=>mkI X0s X6Z a0 a1 y.1 y.2.1 y.2.2,μ:=fun st y=>mkM a0 a1 y.1 y.2.1 y.2.2})]
theorem X0U.pure(a0:U6q)(a1:Int)(h:(X5q a0 a1))(hw:Wf X50.A (a0,a1)):X0U.F a0 a1:=by
 delta X0U.F ln tN wI eS
 obtain⟨p1,p2⟩:=h
 have hw1:a0.length≤9223372036854775807:=hw.1.1
 simp only[Bs,B0,B1,Prod.mk.injEq,X01]
 refine⟨⟨by omega,by omega,by simp[cL],by simp[mL]⟩,?_⟩
 rintro⟨k,i,l⟩ hI
 simp only at hI ⊢
 have hl:=XiD hI
 have h2:=hI.1
 have h3:=hI.2
 refine⟨fun hi0=>?_,fun hi0=>?_⟩
 · have hi:i<(a0.length:Int):=by omega
   have hi':i.toNat<l.length:=by omega
   have hg:=Xmy (d:=((0:Int),(0:Int))) hI hi
   have hs:=X4a X0s ((0:Int),(0:Int)) (l:=a0) (i:=i.toNat) (by omega)
   have hk:=hI.3
   have c1:=X2z X5L (a0.take i.toNat)
   have c2:=X2z X5L (a0.drop (i.toNat+1))
   have c3:=X5L (a0.getD i.toNat ((0:Int),(0:Int)))
   have hmod:Int.tmod k 3=k % 3:=Int.tmod_eq_emod_of_nonneg (by omega)
   have hc:X0s (a0.getD i.toNat ((0:Int),(0:Int)))=X0s (a0.getD i.toNat ((0:Int),(0:Int))):=rfl
   conv at hc=>rhs;unfold X0s
   try simp only[hg,X1r hi',List.set_set,List.length_set]
   try simp (disch:=first | omega | simp_all) only[X1r,List.set_set,List.length_set,hg,w64,pMT]
   repeat' (with_reducible (first | (refine And.intro ?_ ?_) | intro _))
   all_goals (try simp+zetaDelta (disch:=first | omega | simp_all) only[hg,X1r,List.set_set,List.length_set,w64,pMT])
   all_goals (first | omega | exact XfE (d:=((0:Int),(0:Int))) hI hi (by simp[X6Z,hmod]) (by omega) | (unfold mkM;omega) | skip)
 · obtain⟨e1,e2⟩:=Xi5 hI (by omega)
   exact⟨e1,e2⟩
theorem X0U.eq:EqS X50 Tryz.f67 [3] [] [] (fun i x=>X0U.L x.1 x.2) (fun i x=>X0U.F x.1 x.2):=by intro i x;kernel_rfl
theorem X0U.ok:X0k Tryz.prog 67 X50:=X1Z X0U.eq Tryz.func67 rfl (by kernel_rfl) fun i x h hi hw=>X0U.pure x.1 x.2 h hw
def X0U.e:GE:=⟨67,X50,⟨_,Tryz.func67,rfl,rfl⟩,X0U.ok⟩
def X6F(l:List (Int×Int))(k:Int):Int:=fHd (cL X0s l) (oL X0s X6w l k) k
def X51:Con:={A:=(.pair XaB (.int .i64)),shA:=[.one,.one],R:=(.int .i64),shR:=[(false,1)],pre:=fun _ a=>(X5q a.1 a.2),f:=some fun _ a=>((X6F a.1 a.2),((),()))}
def X0W.F(a0:U6q)(a1:Int):Prop:=(eS [(0,.val false [.lst T0q a0 none])] [(0,.val false [.lst T0q a0 none])]∧((hdI X0s X6w a0 a1 a1 0)∧∀(y1:(Int×Int)),(hdI X0s X6w a0 a1 y1.1 y1.2)→(X00 (decide (y1.2<(ln a0))) (0≤y1.2∧(y1.2<(ln a0)∧(X00 (((List.getD a0 (tN y1.2) (0,0)).1)!=y1.1) (Eq ((-1),((),())) ((X6F a0 a1),((),()))) (0≤y1.2∧(y1.2<(ln a0)∧(X00 (((List.getD a0 (tN y1.2) (0,0)).2)!=(wI (y1.1+(1:Int)))) (Eq ((-1),((),())) ((X6F a0 a1),((),()))) (eS [(0,.val false [.lst T0q a0 none])] [(0,.val false [.lst T0q a0 none])]∧(hdI X0s X6w a0 a1 (wI ((wI (y1.1+(1:Int)))+(1:Int))) (wI (y1.2+(1:Int))))∧(hdM a0 a1 (wI ((wI (y1.1+(1:Int)))+(1:Int))) (wI (y1.2+(1:Int))))<(hdM a0 a1 y1.1 y1.2)))))))) (Eq (y1.1,((),())) ((X6F a0 a1),((),()))))))
def X0W.L(a0:U6q)(a1:Int):Nat→Option X0e:=fun p=>Go.Proofs.YtcfaphojdacmbaaGreatR.Bv.look p [(26,{kp:={hold:=[0],slots:=[1,5],boxes:=[],rows:=[]},T:=T0q,I:=fun st y=>hdI X0s X6w a0 a1 y.1 y.2,μ:=fun st y=>hdM a0 a1 y.1 y.2})]
theorem X0W.pure(a0:U6q)(a1:Int)(h:(X5q a0 a1))(hw:Wf X51.A (a0,a1)):X0W.F a0 a1:=by
 delta X0W.F ln tN wI eS
 obtain⟨p1,p2⟩:=h
 have hw1:a0.length≤9223372036854775807:=hw.1.1
 simp only[Bs,B0,B1,Prod.mk.injEq,X01]
 refine⟨⟨by omega,by omega,by simp[cL],by simp⟩,?_⟩
 rintro⟨k,i⟩ hI
 simp only at hI ⊢
 have h2:=hI.1
 have h3:=hI.2
 refine⟨fun hi=>?_,fun hi=>XiA hI hi⟩
 · have hs:=X4a X0s ((0:Int),(0:Int)) (l:=a0) (i:=i.toNat) (by omega)
   have hk:=hI.3
   have c1:=X2z X5L (a0.take i.toNat)
   have c2:=X2z X5L (a0.drop (i.toNat+1))
   have c3:=X5L (a0.getD i.toNat ((0:Int),(0:Int)))
   have hmod:Int.tmod k 3=k % 3:=Int.tmod_eq_emod_of_nonneg (by omega)
   have no:X6w (a0.getD i.toNat ((0:Int),(0:Int))) k=false→-1=X6F a0 a1:=fun ho=>Xo2 ((0:Int),(0:Int)) hI hi ho
   have yes:X6w (a0.getD i.toNat ((0:Int),(0:Int))) k=true→hdI X0s X6w a0 a1 (k+X0s (a0.getD i.toNat ((0:Int),(0:Int)))) (i+1):=fun ho=>Xff ((0:Int),(0:Int)) hI hi ho rfl
   generalize a0.getD i.toNat ((0:Int),(0:Int))=x at*
   have hc:X0s x=X0s x:=rfl
   conv at hc=>rhs;unfold X0s
   simp only[X6w]at no yes
   simp (disch:=omega) only[w64,pMT]
   repeat' (with_reducible (first | (refine And.intro ?_ ?_) | intro _))
   all_goals (first | omega | (unfold hdM;omega) | skip)
   all_goals (try simp (disch:=first | omega | assumption) only[X42,X3I,w64,Bool.not_eq_false]at*)
   all_goals (try simp (disch:=first | omega | assumption) only[X42,X3I,w64,Bool.not_eq_false]at*)
   all_goals (first | omega | grind)
theorem X0W.eq:EqS X51 Tryz.f70 [3] [] [] (fun i x=>X0W.L x.1 x.2) (fun i x=>X0W.F x.1 x.2):=by intro i x;kernel_rfl
theorem X0W.ok:X0k Tryz.prog 70 X51:=X1Z X0W.eq Tryz.func70 rfl (by kernel_rfl) fun i x h hi hw=>X0W.pure x.1 x.2 h hw
def X0W.e:GE:=⟨70,X51,⟨_,Tryz.func70,rfl,rfl⟩,X0W.ok⟩
end Go.Proofs.YtcfaphojdacmbaaGreatR.B
