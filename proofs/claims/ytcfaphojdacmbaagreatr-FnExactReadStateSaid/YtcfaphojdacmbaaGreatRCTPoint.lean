/- Values of the type Point:how large,the same,marked. -/
import Derived.Test.YtcfaphojdacmbaaGreatRCTypes
set_option maxRecDepth 100000
set_option linter.unusedVariables false
set_option linter.unusedSimpArgs false
namespace Go.Proofs.YtcfaphojdacmbaaGreatR.B
open Go Go.Proofs.YtcfaphojdacmbaaGreatR.Bv
def Xpo.L(a0:U6q):Nat→Option X0e:=fun p=>Go.Proofs.YtcfaphojdacmbaaGreatR.Bv.look p [(58,{kp:={hold:=[0,3],slots:=[4],boxes:=[],rows:=[{bx:=false,s:=3,i:=0,k:=1000387,e:=85,hot:=true}]},T:=Xmg,I:=fun st y=>cpI ((0:Int),(0:Int)) a0 y.1 y.2,μ:=fun st y=>cpM a0 y.1 y.2})]
instance dec_Point:DecidableEq (Int×Int):=by(iterate 20 (all_goals (first | infer_instance | refine @instDecidableEqProd _ _ ?_ ?_)))
def X8e(a b:(Int×Int)):Bool:=decide (a=b)
def X84:Con:={A:=(.pair T0q T0q),shA:=[.agg 2,.agg 2],R:=.bool,shR:=[(false,1)],pre:=fun _ _=>True,f:=some fun _ a=>((X8e a.1 a.2),((),()))}
def X3k.F(a0:(Int×Int))(a1:(Int×Int)):Prop:=(X00 (a0.1 !=a1.1) (Eq (false,((),())) ((X8e a0 a1),((),()))) (X00 (a0.2 !=a1.2) (Eq (false,((),())) ((X8e a0 a1),((),()))) (Eq (true,((),())) ((X8e a0 a1),((),())))))
theorem X3k.pure(a0:(Int×Int))(a1:(Int×Int))(h:True)(hw:Wf X84.A (a0,a1)):X3k.F a0 a1:=by
 unfold X3k.F
 obtain⟨x1,x2⟩:=a0
 obtain⟨y1,y2⟩:=a1
 simp only[Bs,B0,B1,Prod.mk.injEq,X01,X8e]
 repeat' (first | (refine And.intro ?_ ?_) | intro _)
 all_goals simp_all
theorem X3k.eq:EqS X84 Tryz.f267 [4] [] [] noL (fun i x=>X3k.F x.1 x.2):=by intro i x;kernel_rfl
theorem X3k.ok:X0k Tryz.prog 267 X84:=X1Z X3k.eq Tryz.func267 rfl (by kernel_rfl) fun i x h hi hw=>X3k.pure x.1 x.2 h hw
def X3k.e:GE:=⟨267,X84,⟨_,Tryz.func267,rfl,rfl⟩,X3k.ok⟩
def X5v(a b:List (Int×Int)):Bool:=decide (a=b)
def X77:Con:={A:=(.pair XaB XaB),shA:=[.one,.one],R:=.bool,shR:=[(false,1)],pre:=fun _ _=>True,f:=some fun _ a=>((X5v a.1 a.2),((),()))}
def X29.F(a0:U6q)(a1:U6q):Prop:=(X00 ((ln a0)!=(ln a1)) (Eq (false,((),())) ((X5v a0 a1),((),()))) (eS [(0,.val false [.lst T0q a0 none]),(1,.val false [.lst T0q a1 none])] [(0,.val false [.lst T0q a0 none]),(1,.val false [.lst T0q a1 none])]∧((XeQ a0 a1 0)∧∀(y1:Int),(XeQ a0 a1 y1)→(X00 (decide (y1<(ln a0))) (0≤y1∧(y1<(ln a0)∧(0≤y1∧(y1<(ln a1)∧(True∧∀r2,(Eq r2 ((X8e ((List.getD a0 (tN y1) (0,0)).1,(List.getD a0 (tN y1) (0,0)).2) ((List.getD a1 (tN y1) (0,0)).1,(List.getD a1 (tN y1) (0,0)).2)),((),())))→(X00 (!r2.1) (Eq (false,((),())) ((X5v a0 a1),((),()))) (eS [(0,.val false [.lst T0q a0 none]),(1,.val false [.lst T0q a1 none])] [(0,.val false [.lst T0q a0 none]),(1,.val false [.lst T0q a1 none])]∧(XeQ a0 a1 (wI (y1+(1:Int))))∧(XgD a0 a1 (wI (y1+(1:Int))))<(XgD a0 a1 y1)))))))) (Eq (true,((),())) ((X5v a0 a1),((),())))))))
def X29.L(a0:U6q)(a1:U6q):Nat→Option X0e:=fun p=>Go.Proofs.YtcfaphojdacmbaaGreatR.Bv.look p [(58,{kp:={hold:=[0,1],slots:=[5],boxes:=[],rows:=[]},T:=(.int .i64),I:=fun st y=>XeQ a0 a1 y,μ:=fun st y=>XgD a0 a1 y})]
theorem X29.pure(a0:U6q)(a1:U6q)(h:True)(hw:Wf X77.A (a0,a1)):X29.F a0 a1:=by
 delta X29.F ln tN wI eS
 have hw1:a0.length≤9223372036854775807:=hw.1.1
 simp only[Bs,B0,B1,Prod.mk.injEq,X01]
 refine⟨fun h1=>?_,fun h1=>?_⟩
 · have:a0≠a1:=fun e=>by subst e;simp at h1
   simp[X5v,this]
 have hl:a0.length=a1.length:=by omega
 refine⟨⟨by omega,by omega,hl,by simp⟩,?_⟩
 rintro i hI
 have h2:=hI.1
 have h3:=hI.2.1
 refine⟨fun hi=>⟨h2,hi,h2,by omega,fun hne=>?_,fun he=>?_⟩,fun hi=>?_⟩
 · have:a0≠a1:=fun e=>by subst e;simp[X8e]at hne
   simp[X5v,this]
 · have hg:a0.getD i.toNat ((0:Int),(0:Int))=a1.getD i.toNat ((0:Int),(0:Int)):=by simpa only[X8e,decide_eq_true_eq] using he
   rw[w64 (x:=i+1) (by omega) (by omega)]
   exact⟨Xcz hI hi hg,by unfold XgD;omega⟩
 · have h6:=Xf8 hI hi
   simp[X5v,h6]
theorem X29.eq:EqS X77 Tryz.f249 [4] [X3k.e] [] (fun i x=>X29.L x.1 x.2) (fun i x=>X29.F x.1 x.2):=by intro i x;kernel_rfl
theorem X29.ok:X0k Tryz.prog 249 X77:=X1Z X29.eq Tryz.func249 rfl (by kernel_rfl) fun i x h hi hw=>X29.pure x.1 x.2 h hw
def X29.e:GE:=⟨249,X77,⟨_,Tryz.func249,rfl,rfl⟩,X29.ok⟩
def X16(x:(Int×Int)):Int:=1+1
def X9V(x:(Int×Int))(k:Int):(Int×Int):=(k,(k+1))
def X8p(x:(Int×Int))(k:Int):Bool:=(decide (x.1=k))&&(decide (x.2=(k+1)))
theorem XkC:∀(x:(Int×Int)) (k:Int),X8p (X9V x k) k=true∧X16 (X9V x k)=X16 x:=fun x k=>by
 simp[X8p,X9V,X16]
theorem X70:∀x:(Int×Int),0≤X16 x:=fun x=>by
 unfold X16;omega
def X6M(l:List (Int×Int))(k:Int):Prop:=0≤k∧k+cL X16 l≤4611686018427387904
def X7O(l:List (Int×Int))(k:Int):Int×List (Int×Int):=(k+cL X16 l,mL X16 X9V l k)
def X5H:Con:={A:=(.pair XaB (.int .i64)),shA:=[.one,.one],backA:=[(0,85)],B:=XaB,R:=(.int .i64),shR:=[(false,1)],pre:=fun _ a=>(X6M a.1 a.2),f:=some fun _ a=>((X7O a.1 a.2).1,((),(X7O a.1 a.2).2))}
def X1c.F(a0:U6q)(a1:Int):Prop:=(eS [(0,.val false [.own T0q 2])] [(0,.val false [.own T0q 2])]∧((mkI X16 X9V a0 a1 a1 0 a0)∧∀(y1:(Int×(Int×U6q))),(mkI X16 X9V a0 a1 y1.1 y1.2.1 y1.2.2)→(X00 (decide (y1.2.1<(ln y1.2.2))) (0≤y1.2.1∧(y1.2.1<(ln y1.2.2)∧(0≤y1.2.1∧(y1.2.1<(ln (List.set y1.2.2 (tN y1.2.1) (y1.1,(List.getD y1.2.2 (tN y1.2.1) (0,0)).2)))∧(eS [(0,.val false [.own T0q 2])] [(0,.val false [.own T0q 2])]∧(mkI X16 X9V a0 a1 (wI ((wI (y1.1+(1:Int)))+(1:Int))) (wI (y1.2.1+(1:Int))) (List.set (List.set y1.2.2 (tN y1.2.1) (y1.1,(List.getD y1.2.2 (tN y1.2.1) (0,0)).2)) (tN y1.2.1) ((List.getD (List.set y1.2.2 (tN y1.2.1) (y1.1,(List.getD y1.2.2 (tN y1.2.1) (0,0)).2)) (tN y1.2.1) (0,0)).1,(wI (y1.1+(1:Int))))))∧(mkM a0 a1 (wI ((wI (y1.1+(1:Int)))+(1:Int))) (wI (y1.2.1+(1:Int))) (List.set (List.set y1.2.2 (tN y1.2.1) (y1.1,(List.getD y1.2.2 (tN y1.2.1) (0,0)).2)) (tN y1.2.1) ((List.getD (List.set y1.2.2 (tN y1.2.1) (y1.1,(List.getD y1.2.2 (tN y1.2.1) (0,0)).2)) (tN y1.2.1) (0,0)).1,(wI (y1.1+(1:Int))))))<(mkM a0 a1 y1.1 y1.2.1 y1.2.2)))))) (Eq (y1.1,((),y1.2.2)) ((X7O a0 a1).1,((),(X7O a0 a1).2))))))
def X1c.L(a0:U6q)(a1:Int):Nat→Option X0e:=fun p=>Go.Proofs.YtcfaphojdacmbaaGreatR.Bv.look p [(26,{kp:={hold:=[0],slots:=[1,5],boxes:=[],rows:=[{bx:=false,s:=0,i:=0,k:=2,e:=85,hot:=true}]},T:=(.pair (.int .i64) Xmg),I:=fun st y=>mkI X16 X9V a0 a1 y.1 y.2.1 y.2.2,μ:=fun st y=>mkM a0 a1 y.1 y.2.1 y.2.2})]
theorem X1c.pure(a0:U6q)(a1:Int)(h:(X6M a0 a1))(hw:Wf X5H.A (a0,a1)):X1c.F a0 a1:=by
 delta X1c.F ln tN wI eS
 obtain⟨p1,p2⟩:=h
 have hw1:a0.length≤9223372036854775807:=hw.1.1
 simp only[Bs,B0,B1,Prod.mk.injEq,X01]
 refine⟨⟨by omega,by omega,by simp[cL],by simp[mL]⟩,?_⟩
 rintro⟨k,i,l⟩ hI
 simp only at hI ⊢
 have hl:=XiD hI
 have h2:=hI.1
 have h3:=hI.2
 refine⟨fun hi0=>?_,fun hi0=>?_⟩
 · have hi:i<(a0.length:Int):=by omega
   have hi':i.toNat<l.length:=by omega
   have hg:=Xmy (d:=((0:Int),(0:Int))) hI hi
   have hs:=X4a X16 ((0:Int),(0:Int)) (l:=a0) (i:=i.toNat) (by omega)
   have hk:=hI.3
   have c1:=X2z X70 (a0.take i.toNat)
   have c2:=X2z X70 (a0.drop (i.toNat+1))
   have c3:=X70 (a0.getD i.toNat ((0:Int),(0:Int)))
   have hmod:Int.tmod k 3=k % 3:=Int.tmod_eq_emod_of_nonneg (by omega)
   have hc:X16 (a0.getD i.toNat ((0:Int),(0:Int)))=X16 (a0.getD i.toNat ((0:Int),(0:Int))):=rfl
   conv at hc=>rhs;unfold X16
   try simp only[hg,X1r hi',List.set_set,List.length_set]
   try simp (disch:=first | omega | simp_all) only[X1r,List.set_set,List.length_set,hg,w64,pMT]
   repeat' (with_reducible (first | (refine And.intro ?_ ?_) | intro _))
   all_goals (try simp+zetaDelta (disch:=first | omega | simp_all) only[hg,X1r,List.set_set,List.length_set,w64,pMT])
   all_goals (first | omega | exact XfE (d:=((0:Int),(0:Int))) hI hi (by simp[X9V,hmod]) (by omega) | (unfold mkM;omega) | skip)
 · obtain⟨e1,e2⟩:=Xi5 hI (by omega)
   exact⟨e1,e2⟩
theorem X1c.eq:EqS X5H Tryz.f215 [3] [] [] (fun i x=>X1c.L x.1 x.2) (fun i x=>X1c.F x.1 x.2):=by intro i x;kernel_rfl
theorem X1c.ok:X0k Tryz.prog 215 X5H:=X1Z X1c.eq Tryz.func215 rfl (by kernel_rfl) fun i x h hi hw=>X1c.pure x.1 x.2 h hw
def X1c.e:GE:=⟨215,X5H,⟨_,Tryz.func215,rfl,rfl⟩,X1c.ok⟩
def X7N(l:List (Int×Int))(k:Int):Int:=fHd (cL X16 l) (oL X16 X8p l k) k
def X5R:Con:={A:=(.pair XaB (.int .i64)),shA:=[.one,.one],R:=(.int .i64),shR:=[(false,1)],pre:=fun _ a=>(X6M a.1 a.2),f:=some fun _ a=>((X7N a.1 a.2),((),()))}
def X1f.F(a0:U6q)(a1:Int):Prop:=(eS [(0,.val false [.lst T0q a0 none])] [(0,.val false [.lst T0q a0 none])]∧((hdI X16 X8p a0 a1 a1 0)∧∀(y1:(Int×Int)),(hdI X16 X8p a0 a1 y1.1 y1.2)→(X00 (decide (y1.2<(ln a0))) (0≤y1.2∧(y1.2<(ln a0)∧(X00 (((List.getD a0 (tN y1.2) (0,0)).1)!=y1.1) (Eq ((-1),((),())) ((X7N a0 a1),((),()))) (0≤y1.2∧(y1.2<(ln a0)∧(X00 (((List.getD a0 (tN y1.2) (0,0)).2)!=(wI (y1.1+(1:Int)))) (Eq ((-1),((),())) ((X7N a0 a1),((),()))) (eS [(0,.val false [.lst T0q a0 none])] [(0,.val false [.lst T0q a0 none])]∧(hdI X16 X8p a0 a1 (wI ((wI (y1.1+(1:Int)))+(1:Int))) (wI (y1.2+(1:Int))))∧(hdM a0 a1 (wI ((wI (y1.1+(1:Int)))+(1:Int))) (wI (y1.2+(1:Int))))<(hdM a0 a1 y1.1 y1.2)))))))) (Eq (y1.1,((),())) ((X7N a0 a1),((),()))))))
def X1f.L(a0:U6q)(a1:Int):Nat→Option X0e:=fun p=>Go.Proofs.YtcfaphojdacmbaaGreatR.Bv.look p [(26,{kp:={hold:=[0],slots:=[1,5],boxes:=[],rows:=[]},T:=T0q,I:=fun st y=>hdI X16 X8p a0 a1 y.1 y.2,μ:=fun st y=>hdM a0 a1 y.1 y.2})]
theorem X1f.pure(a0:U6q)(a1:Int)(h:(X6M a0 a1))(hw:Wf X5R.A (a0,a1)):X1f.F a0 a1:=by
 delta X1f.F ln tN wI eS
 obtain⟨p1,p2⟩:=h
 have hw1:a0.length≤9223372036854775807:=hw.1.1
 simp only[Bs,B0,B1,Prod.mk.injEq,X01]
 refine⟨⟨by omega,by omega,by simp[cL],by simp⟩,?_⟩
 rintro⟨k,i⟩ hI
 simp only at hI ⊢
 have h2:=hI.1
 have h3:=hI.2
 refine⟨fun hi=>?_,fun hi=>XiA hI hi⟩
 · have hs:=X4a X16 ((0:Int),(0:Int)) (l:=a0) (i:=i.toNat) (by omega)
   have hk:=hI.3
   have c1:=X2z X70 (a0.take i.toNat)
   have c2:=X2z X70 (a0.drop (i.toNat+1))
   have c3:=X70 (a0.getD i.toNat ((0:Int),(0:Int)))
   have hmod:Int.tmod k 3=k % 3:=Int.tmod_eq_emod_of_nonneg (by omega)
   have no:X8p (a0.getD i.toNat ((0:Int),(0:Int))) k=false→-1=X7N a0 a1:=fun ho=>Xo2 ((0:Int),(0:Int)) hI hi ho
   have yes:X8p (a0.getD i.toNat ((0:Int),(0:Int))) k=true→hdI X16 X8p a0 a1 (k+X16 (a0.getD i.toNat ((0:Int),(0:Int)))) (i+1):=fun ho=>Xff ((0:Int),(0:Int)) hI hi ho rfl
   generalize a0.getD i.toNat ((0:Int),(0:Int))=x at*
   have hc:X16 x=X16 x:=rfl
   conv at hc=>rhs;unfold X16
   simp only[X8p]at no yes
   simp (disch:=omega) only[w64,pMT]
   repeat' (with_reducible (first | (refine And.intro ?_ ?_) | intro _))
   all_goals (first | omega | (unfold hdM;omega) | skip)
   all_goals (try simp (disch:=first | omega | assumption) only[X42,X3I,w64,Bool.not_eq_false]at*)
   all_goals (try simp (disch:=first | omega | assumption) only[X42,X3I,w64,Bool.not_eq_false]at*)
   all_goals (first | omega | grind)
theorem X1f.eq:EqS X5R Tryz.f216 [3] [] [] (fun i x=>X1f.L x.1 x.2) (fun i x=>X1f.F x.1 x.2):=by intro i x;kernel_rfl
theorem X1f.ok:X0k Tryz.prog 216 X5R:=X1Z X1f.eq Tryz.func216 rfl (by kernel_rfl) fun i x h hi hw=>X1f.pure x.1 x.2 h hw
def X1f.e:GE:=⟨216,X5R,⟨_,Tryz.func216,rfl,rfl⟩,X1f.ok⟩
end Go.Proofs.YtcfaphojdacmbaaGreatR.B
