/- Values of the type Session:how large,the same,marked. -/
import Derived.Test.YtcfaphojdacmbaaGreatRCTypes
import Derived.Test.YtcfaphojdacmbaaGreatRCTAnswer
set_option maxRecDepth 100000
set_option linter.unusedVariables false
set_option linter.unusedSimpArgs false
namespace Go.Proofs.YtcfaphojdacmbaaGreatR.B
open Go Go.Proofs.YtcfaphojdacmbaaGreatR.Bv
def XnT(x:U3q):Nat:=(XpB x.2.2)
def Xmx.L(a0:(List U3q))(a1:Int):Nat→Option X0e:=fun p=>Go.Proofs.YtcfaphojdacmbaaGreatR.Bv.look p [(122,{kp:={hold:=[0],slots:=[1,5],boxes:=[],rows:=[]},T:=T0q,I:=fun st y=>szLI XnT a0 a1 y.1 y.2,μ:=fun st y=>szLM a0 a1 y.1 y.2})]
def Xoc.L(a0:(List U3q)):Nat→Option X0e:=fun p=>Go.Proofs.YtcfaphojdacmbaaGreatR.Bv.look p [(58,{kp:={hold:=[0,3],slots:=[4],boxes:=[],rows:=[{bx:=false,s:=3,i:=0,k:=1000387,e:=88,hot:=true}]},T:=(.pair (.int .i64) (.list T2q)),I:=fun st y=>cpI ((0:Int),((0:Int),((0:Int),((0:Int),((0:Int),([]:U5q)))))) a0 y.1 y.2,μ:=fun st y=>cpM a0 y.1 y.2})]
instance dec_Session:DecidableEq U3q:=by(iterate 20 (all_goals (first | infer_instance | refine @instDecidableEqProd _ _ ?_ ?_)))
def X4E(a b:U3q):Bool:=decide (a=b)
def X6n:Con:={A:=(.pair T2q T2q),shA:=[.agg 6,.agg 6],R:=.bool,shR:=[(false,1)],pre:=fun _ _=>True,f:=some fun _ a=>((X4E a.1 a.2),((),()))}
def X2q.F(a0:U3q)(a1:U3q):Prop:=(X00 (a0.1 !=a1.1) (Eq (false,((),())) ((X4E a0 a1),((),()))) (X00 (a0.2.1 !=a1.2.1) (Eq (false,((),())) ((X4E a0 a1),((),()))) (True∧∀r1,(Eq r1 ((X5C (a0.2.2.1,(a0.2.2.2.1,(a0.2.2.2.2.1,a0.2.2.2.2.2))) (a1.2.2.1,(a1.2.2.2.1,(a1.2.2.2.2.1,a1.2.2.2.2.2)))),((),())))→(X00 (!r1.1) (Eq (false,((),())) ((X4E a0 a1),((),()))) (Eq (true,((),())) ((X4E a0 a1),((),())))))))
theorem X2q.pure(a0:U3q)(a1:U3q)(h:True)(hw:Wf X6n.A (a0,a1)):X2q.F a0 a1:=by
 unfold X2q.F
 obtain⟨x1,x2,⟨x3,x4,x5,x6⟩⟩:=a0
 obtain⟨y1,y2,⟨y3,y4,y5,y6⟩⟩:=a1
 simp only[Bs,B0,B1,Prod.mk.injEq,X01,X4E,X5C]
 repeat' (first | (refine And.intro ?_ ?_) | intro _)
 all_goals simp_all
theorem X2q.eq:EqS X6n Tryz.f146 [4] [X2X.e] [] noL (fun i x=>X2q.F x.1 x.2):=by intro i x;kernel_rfl
theorem X2q.ok:X0k Tryz.prog 146 X6n:=X1Z X2q.eq Tryz.func146 rfl (by kernel_rfl) fun i x h hi hw=>X2q.pure x.1 x.2 h hw
def X2q.e:GE:=⟨146,X6n,⟨_,Tryz.func146,rfl,rfl⟩,X2q.ok⟩
def X4b(a b:List U3q):Bool:=decide (a=b)
def X5x:Con:={A:=(.pair (.list T2q) (.list T2q)),shA:=[.one,.one],R:=.bool,shR:=[(false,1)],pre:=fun _ _=>True,f:=some fun _ a=>((X4b a.1 a.2),((),()))}
def X1b.F(a0:(List U3q))(a1:(List U3q)):Prop:=(X00 ((ln a0)!=(ln a1)) (Eq (false,((),())) ((X4b a0 a1),((),()))) (eS [(0,.val false [.lst T2q a0 none]),(1,.val false [.lst T2q a1 none])] [(0,.val false [.lst T2q a0 none]),(1,.val false [.lst T2q a1 none])]∧((XeQ a0 a1 0)∧∀(y1:Int),(XeQ a0 a1 y1)→(X00 (decide (y1<(ln a0))) (0≤y1∧(y1<(ln a0)∧(0≤y1∧(y1<(ln a1)∧(True∧∀r2,(Eq r2 ((X4E ((List.getD a0 (tN y1) (0,(0,(0,(0,(0,[])))))).1,((List.getD a0 (tN y1) (0,(0,(0,(0,(0,[])))))).2.1,((List.getD a0 (tN y1) (0,(0,(0,(0,(0,[])))))).2.2.1,((List.getD a0 (tN y1) (0,(0,(0,(0,(0,[])))))).2.2.2.1,((List.getD a0 (tN y1) (0,(0,(0,(0,(0,[])))))).2.2.2.2.1,(List.getD a0 (tN y1) (0,(0,(0,(0,(0,[])))))).2.2.2.2.2))))) ((List.getD a1 (tN y1) (0,(0,(0,(0,(0,[])))))).1,((List.getD a1 (tN y1) (0,(0,(0,(0,(0,[])))))).2.1,((List.getD a1 (tN y1) (0,(0,(0,(0,(0,[])))))).2.2.1,((List.getD a1 (tN y1) (0,(0,(0,(0,(0,[])))))).2.2.2.1,((List.getD a1 (tN y1) (0,(0,(0,(0,(0,[])))))).2.2.2.2.1,(List.getD a1 (tN y1) (0,(0,(0,(0,(0,[])))))).2.2.2.2.2)))))),((),())))→(X00 (!r2.1) (Eq (false,((),())) ((X4b a0 a1),((),()))) (eS [(0,.val false [.lst T2q a0 none]),(1,.val false [.lst T2q a1 none])] [(0,.val false [.lst T2q a0 none]),(1,.val false [.lst T2q a1 none])]∧(XeQ a0 a1 (wI (y1+(1:Int))))∧(XgD a0 a1 (wI (y1+(1:Int))))<(XgD a0 a1 y1)))))))) (Eq (true,((),())) ((X4b a0 a1),((),())))))))
def X1b.L(a0:(List U3q))(a1:(List U3q)):Nat→Option X0e:=fun p=>Go.Proofs.YtcfaphojdacmbaaGreatR.Bv.look p [(58,{kp:={hold:=[0,1],slots:=[5],boxes:=[],rows:=[]},T:=(.int .i64),I:=fun st y=>XeQ a0 a1 y,μ:=fun st y=>XgD a0 a1 y})]
theorem X1b.pure(a0:(List U3q))(a1:(List U3q))(h:True)(hw:Wf X5x.A (a0,a1)):X1b.F a0 a1:=by
 delta X1b.F ln tN wI eS
 have hw1:a0.length≤9223372036854775807:=hw.1.1
 simp only[Bs,B0,B1,Prod.mk.injEq,X01]
 refine⟨fun h1=>?_,fun h1=>?_⟩
 · have:a0≠a1:=fun e=>by subst e;simp at h1
   simp[X4b,this]
 have hl:a0.length=a1.length:=by omega
 refine⟨⟨by omega,by omega,hl,by simp⟩,?_⟩
 rintro i hI
 have h2:=hI.1
 have h3:=hI.2.1
 refine⟨fun hi=>⟨h2,hi,h2,by omega,fun hne=>?_,fun he=>?_⟩,fun hi=>?_⟩
 · have:a0≠a1:=fun e=>by subst e;simp[X4E]at hne
   simp[X4b,this]
 · have hg:a0.getD i.toNat ((0:Int),((0:Int),((0:Int),((0:Int),((0:Int),([]:U5q))))))=a1.getD i.toNat ((0:Int),((0:Int),((0:Int),((0:Int),((0:Int),([]:U5q)))))):=by simpa only[X4E,decide_eq_true_eq] using he
   rw[w64 (x:=i+1) (by omega) (by omega)]
   exact⟨Xcz hI hi hg,by unfold XgD;omega⟩
 · have h6:=Xf8 hI hi
   simp[X4b,h6]
theorem X1b.eq:EqS X5x Tryz.f66 [4] [X2q.e] [] (fun i x=>X1b.L x.1 x.2) (fun i x=>X1b.F x.1 x.2):=by intro i x;kernel_rfl
theorem X1b.ok:X0k Tryz.prog 66 X5x:=X1Z X1b.eq Tryz.func66 rfl (by kernel_rfl) fun i x h hi hw=>X1b.pure x.1 x.2 h hw
def X1b.e:GE:=⟨66,X5x,⟨_,Tryz.func66,rfl,rfl⟩,X1b.ok⟩
def X0u(x:U3q):Int:=1+1+1+1+1+1
def X5m(x:U3q)(k:Int):U3q:=(k,(k+1),(((k+1)+1),(((k+1)+1)+1),((((k+1)+1)+1)+1),(fMT (((((k+1)+1)+1)+1)+1))))
def X4U(x:U3q)(k:Int):Bool:=(decide (x.1=k))&&(decide (x.2.1=(k+1)))&&(decide (x.2.2.1=((k+1)+1)))&&(decide (x.2.2.2.1=(((k+1)+1)+1)))&&(decide (x.2.2.2.2.1=((((k+1)+1)+1)+1)))&&(decide (x.2.2.2.2.2=fMT (((((k+1)+1)+1)+1)+1)))
theorem Xgf:∀(x:U3q) (k:Int),X4U (X5m x k) k=true∧X0u (X5m x k)=X0u x:=fun x k=>by
 simp[X4U,X5m,X0u]
theorem X4N:∀x:U3q,0≤X0u x:=fun x=>by
 unfold X0u;omega
def X4u(l:List U3q)(k:Int):Prop:=0≤k∧k+cL X0u l≤4611686018427387904
def X5t(l:List U3q)(k:Int):Int×List U3q:=(k+cL X0u l,mL X0u X5m l k)
def X4I:Con:={A:=(.pair (.list T2q) (.int .i64)),shA:=[.one,.one],backA:=[(0,88)],B:=(.list T2q),R:=(.int .i64),shR:=[(false,1)],pre:=fun _ a=>(X4u a.1 a.2),f:=some fun _ a=>((X5t a.1 a.2).1,((),(X5t a.1 a.2).2))}
def X0H.F(a0:(List U3q))(a1:Int):Prop:=(eS [(0,.val false [.own T2q 2])] [(0,.val false [.own T2q 2])]∧((mkI X0u X5m a0 a1 a1 0 a0)∧∀(y1:(Int×(Int×(List U3q)))),(mkI X0u X5m a0 a1 y1.1 y1.2.1 y1.2.2)→(X00 (decide (y1.2.1<(ln y1.2.2))) (0≤y1.2.1∧(y1.2.1<(ln y1.2.2)∧(let l2:List U3q:=(List.set y1.2.2 (tN y1.2.1) (y1.1,((List.getD y1.2.2 (tN y1.2.1) (0,(0,(0,(0,(0,[])))))).2.1,((List.getD y1.2.2 (tN y1.2.1) (0,(0,(0,(0,(0,[])))))).2.2.1,((List.getD y1.2.2 (tN y1.2.1) (0,(0,(0,(0,(0,[])))))).2.2.2.1,((List.getD y1.2.2 (tN y1.2.1) (0,(0,(0,(0,(0,[])))))).2.2.2.2.1,(List.getD y1.2.2 (tN y1.2.1) (0,(0,(0,(0,(0,[])))))).2.2.2.2.2))))));(0≤y1.2.1∧(y1.2.1<(ln l2)∧(let l3:List U3q:=(List.set l2 (tN y1.2.1) ((List.getD l2 (tN y1.2.1) (0,(0,(0,(0,(0,[])))))).1,((wI (y1.1+(1:Int))),((List.getD l2 (tN y1.2.1) (0,(0,(0,(0,(0,[])))))).2.2.1,((List.getD l2 (tN y1.2.1) (0,(0,(0,(0,(0,[])))))).2.2.2.1,((List.getD l2 (tN y1.2.1) (0,(0,(0,(0,(0,[])))))).2.2.2.2.1,(List.getD l2 (tN y1.2.1) (0,(0,(0,(0,(0,[])))))).2.2.2.2.2))))));(0≤y1.2.1∧(y1.2.1<(ln l3)∧(let l4:List U3q:=(List.set l3 (tN y1.2.1) ((List.getD l3 (tN y1.2.1) (0,(0,(0,(0,(0,[])))))).1,((List.getD l3 (tN y1.2.1) (0,(0,(0,(0,(0,[])))))).2.1,((wI ((wI (y1.1+(1:Int)))+(1:Int))),((List.getD l3 (tN y1.2.1) (0,(0,(0,(0,(0,[])))))).2.2.2.1,((List.getD l3 (tN y1.2.1) (0,(0,(0,(0,(0,[])))))).2.2.2.2.1,(List.getD l3 (tN y1.2.1) (0,(0,(0,(0,(0,[])))))).2.2.2.2.2))))));(0≤y1.2.1∧(y1.2.1<(ln l4)∧(let l5:List U3q:=(List.set l4 (tN y1.2.1) ((List.getD l4 (tN y1.2.1) (0,(0,(0,(0,(0,[])))))).1,((List.getD l4 (tN y1.2.1) (0,(0,(0,(0,(0,[])))))).2.1,((List.getD l4 (tN y1.2.1) (0,(0,(0,(0,(0,[])))))).2.2.1,((wI ((wI ((wI (y1.1+(1:Int)))+(1:Int)))+(1:Int))),((List.getD l4 (tN y1.2.1) (0,(0,(0,(0,(0,[])))))).2.2.2.2.1,(List.getD l4 (tN y1.2.1) (0,(0,(0,(0,(0,[])))))).2.2.2.2.2))))));(0≤y1.2.1∧(y1.2.1<(ln l5)∧(let l6:List U3q:=(List.set l5 (tN y1.2.1) ((List.getD l5 (tN y1.2.1) (0,(0,(0,(0,(0,[])))))).1,((List.getD l5 (tN y1.2.1) (0,(0,(0,(0,(0,[])))))).2.1,((List.getD l5 (tN y1.2.1) (0,(0,(0,(0,(0,[])))))).2.2.1,((List.getD l5 (tN y1.2.1) (0,(0,(0,(0,(0,[])))))).2.2.2.1,((wI ((wI ((wI ((wI (y1.1+(1:Int)))+(1:Int)))+(1:Int)))+(1:Int))),(List.getD l5 (tN y1.2.1) (0,(0,(0,(0,(0,[])))))).2.2.2.2.2))))));((pMT (wI ((wI ((wI ((wI ((wI (y1.1+(1:Int)))+(1:Int)))+(1:Int)))+(1:Int)))+(1:Int))))∧∀r7,(Eq r7 ((fMT (wI ((wI ((wI ((wI ((wI (y1.1+(1:Int)))+(1:Int)))+(1:Int)))+(1:Int)))+(1:Int)))),((),())))→(0≤y1.2.1∧(y1.2.1<(ln l6)∧(let l8:List U3q:=(List.set l6 (tN y1.2.1) ((List.getD l6 (tN y1.2.1) (0,(0,(0,(0,(0,[])))))).1,((List.getD l6 (tN y1.2.1) (0,(0,(0,(0,(0,[])))))).2.1,((List.getD l6 (tN y1.2.1) (0,(0,(0,(0,(0,[])))))).2.2.1,((List.getD l6 (tN y1.2.1) (0,(0,(0,(0,(0,[])))))).2.2.2.1,((List.getD l6 (tN y1.2.1) (0,(0,(0,(0,(0,[])))))).2.2.2.2.1,r7.1))))));(eS [(0,.val false [.own T2q 2])] [(0,.val false [.own T2q 2])]∧(mkI X0u X5m a0 a1 (wI ((wI ((wI ((wI ((wI ((wI (y1.1+(1:Int)))+(1:Int)))+(1:Int)))+(1:Int)))+(1:Int)))+(1:Int))) (wI (y1.2.1+(1:Int))) l8)∧(mkM a0 a1 (wI ((wI ((wI ((wI ((wI ((wI (y1.1+(1:Int)))+(1:Int)))+(1:Int)))+(1:Int)))+(1:Int)))+(1:Int))) (wI (y1.2.1+(1:Int))) l8)<(mkM a0 a1 y1.1 y1.2.1 y1.2.2))))))))))))))))))))) (Eq (y1.1,((),y1.2.2)) ((X5t a0 a1).1,((),(X5t a0 a1).2))))))
def X0H.L(a0:(List U3q))(a1:Int):Nat→Option X0e:=fun p=>Go.Proofs.YtcfaphojdacmbaaGreatR.Bv.look p [(26,{kp:={hold:=[0],slots:=[1,5],boxes:=[],rows:=[{bx:=false,s:=0,i:=0,k:=2,e:=88,hot:=true}]},T:=(.pair (.int .i64) (.pair (.int .i64) (.list T2q))),I:=fun st y=>mkI X0u X5m a0 a1 y.1 y.2.1 y.2.2,μ:=fun st y=>mkM a0 a1 y.1 y.2.1 y.2.2})]
theorem X0H.pure(a0:(List U3q))(a1:Int)(h:(X4u a0 a1))(hw:Wf X4I.A (a0,a1)):X0H.F a0 a1:=by
 delta X0H.F ln tN wI eS
 obtain⟨p1,p2⟩:=h
 have hw1:a0.length≤9223372036854775807:=hw.1.1
 simp only[Bs,B0,B1,Prod.mk.injEq,X01]
 refine⟨⟨by omega,by omega,by simp[cL],by simp[mL]⟩,?_⟩
 rintro⟨k,i,l⟩ hI
 simp only at hI ⊢
 have hl:=XiD hI
 have h2:=hI.1
 have h3:=hI.2
 refine⟨fun hi0=>?_,fun hi0=>?_⟩
 · have hi:i<(a0.length:Int):=by omega
   have hi':i.toNat<l.length:=by omega
   have hg:=Xmy (d:=((0:Int),((0:Int),((0:Int),((0:Int),((0:Int),([]:U5q))))))) hI hi
   have hs:=X4a X0u ((0:Int),((0:Int),((0:Int),((0:Int),((0:Int),([]:U5q)))))) (l:=a0) (i:=i.toNat) (by omega)
   have hk:=hI.3
   have c1:=X2z X4N (a0.take i.toNat)
   have c2:=X2z X4N (a0.drop (i.toNat+1))
   have c3:=X4N (a0.getD i.toNat ((0:Int),((0:Int),((0:Int),((0:Int),((0:Int),([]:U5q)))))))
   have hmod:Int.tmod k 3=k % 3:=Int.tmod_eq_emod_of_nonneg (by omega)
   have hc:X0u (a0.getD i.toNat ((0:Int),((0:Int),((0:Int),((0:Int),((0:Int),([]:U5q)))))))=X0u (a0.getD i.toNat ((0:Int),((0:Int),((0:Int),((0:Int),((0:Int),([]:U5q))))))):=rfl
   conv at hc=>rhs;unfold X0u
   try simp only[hg,X1r hi',List.set_set,List.length_set]
   try simp (disch:=first | omega | simp_all) only[X1r,List.set_set,List.length_set,hg,w64,pMT]
   repeat' (with_reducible (first | (refine And.intro ?_ ?_) | intro _))
   all_goals (try simp+zetaDelta (disch:=first | omega | simp_all) only[hg,X1r,List.set_set,List.length_set,w64,pMT])
   all_goals (first | omega | exact XfE (d:=((0:Int),((0:Int),((0:Int),((0:Int),((0:Int),([]:U5q))))))) hI hi (by simp[X5m,hmod]) (by omega) | (unfold mkM;omega) | skip)
 · obtain⟨e1,e2⟩:=Xi5 hI (by omega)
   exact⟨e1,e2⟩
theorem X0H.eq:EqS X4I Tryz.f69 [3] [X0M.e] [] (fun i x=>X0H.L x.1 x.2) (fun i x=>X0H.F x.1 x.2):=by intro i x;kernel_rfl
theorem X0H.ok:X0k Tryz.prog 69 X4I:=X1Z X0H.eq Tryz.func69 rfl (by kernel_rfl) fun i x h hi hw=>X0H.pure x.1 x.2 h hw
def X0H.e:GE:=⟨69,X4I,⟨_,Tryz.func69,rfl,rfl⟩,X0H.ok⟩
def X3s(l:List U3q)(k:Int):Int:=fHd (cL X0u l) (oL X0u X4U l k) k
def X4F:Con:={A:=(.pair (.list T2q) (.int .i64)),shA:=[.one,.one],R:=(.int .i64),shR:=[(false,1)],pre:=fun _ a=>(X4u a.1 a.2),f:=some fun _ a=>((X3s a.1 a.2),((),()))}
def X0G.F(a0:(List U3q))(a1:Int):Prop:=(eS [(0,.val false [.lst T2q a0 none])] [(0,.val false [.lst T2q a0 none])]∧((hdI X0u X4U a0 a1 a1 0)∧∀(y1:(Int×Int)),(hdI X0u X4U a0 a1 y1.1 y1.2)→(X00 (decide (y1.2<(ln a0))) (0≤y1.2∧(y1.2<(ln a0)∧(X00 (((List.getD a0 (tN y1.2) (0,(0,(0,(0,(0,[])))))).1)!=y1.1) (Eq ((-1),((),())) ((X3s a0 a1),((),()))) (0≤y1.2∧(y1.2<(ln a0)∧(X00 (((List.getD a0 (tN y1.2) (0,(0,(0,(0,(0,[])))))).2.1)!=(wI (y1.1+(1:Int)))) (Eq ((-1),((),())) ((X3s a0 a1),((),()))) (0≤y1.2∧(y1.2<(ln a0)∧(X00 (((List.getD a0 (tN y1.2) (0,(0,(0,(0,(0,[])))))).2.2.1)!=(wI ((wI (y1.1+(1:Int)))+(1:Int)))) (Eq ((-1),((),())) ((X3s a0 a1),((),()))) (0≤y1.2∧(y1.2<(ln a0)∧(X00 (((List.getD a0 (tN y1.2) (0,(0,(0,(0,(0,[])))))).2.2.2.1)!=(wI ((wI ((wI (y1.1+(1:Int)))+(1:Int)))+(1:Int)))) (Eq ((-1),((),())) ((X3s a0 a1),((),()))) (0≤y1.2∧(y1.2<(ln a0)∧(X00 (((List.getD a0 (tN y1.2) (0,(0,(0,(0,(0,[])))))).2.2.2.2.1)!=(wI ((wI ((wI ((wI (y1.1+(1:Int)))+(1:Int)))+(1:Int)))+(1:Int)))) (Eq ((-1),((),())) ((X3s a0 a1),((),()))) (0≤y1.2∧(y1.2<(ln a0)∧((pMT (wI ((wI ((wI ((wI ((wI (y1.1+(1:Int)))+(1:Int)))+(1:Int)))+(1:Int)))+(1:Int))))∧∀r2,(Eq r2 ((fMT (wI ((wI ((wI ((wI ((wI (y1.1+(1:Int)))+(1:Int)))+(1:Int)))+(1:Int)))+(1:Int)))),((),())))→(X00 (!(((List.getD a0 (tN y1.2) (0,(0,(0,(0,(0,[])))))).2.2.2.2.2)==r2.1)) (Eq ((-1),((),())) ((X3s a0 a1),((),()))) (eS [(0,.val false [.lst T2q a0 none])] [(0,.val false [.lst T2q a0 none])]∧(hdI X0u X4U a0 a1 (wI ((wI ((wI ((wI ((wI ((wI (y1.1+(1:Int)))+(1:Int)))+(1:Int)))+(1:Int)))+(1:Int)))+(1:Int))) (wI (y1.2+(1:Int))))∧(hdM a0 a1 (wI ((wI ((wI ((wI ((wI ((wI (y1.1+(1:Int)))+(1:Int)))+(1:Int)))+(1:Int)))+(1:Int)))+(1:Int))) (wI (y1.2+(1:Int))))<(hdM a0 a1 y1.1 y1.2))))))))))))))))))))) (Eq (y1.1,((),())) ((X3s a0 a1),((),()))))))
def X0G.L(a0:(List U3q))(a1:Int):Nat→Option X0e:=fun p=>Go.Proofs.YtcfaphojdacmbaaGreatR.Bv.look p [(26,{kp:={hold:=[0],slots:=[1,5],boxes:=[],rows:=[]},T:=T0q,I:=fun st y=>hdI X0u X4U a0 a1 y.1 y.2,μ:=fun st y=>hdM a0 a1 y.1 y.2})]
theorem X0G.pure(a0:(List U3q))(a1:Int)(h:(X4u a0 a1))(hw:Wf X4F.A (a0,a1)):X0G.F a0 a1:=by
 delta X0G.F ln tN wI eS
 obtain⟨p1,p2⟩:=h
 have hw1:a0.length≤9223372036854775807:=hw.1.1
 simp only[Bs,B0,B1,Prod.mk.injEq,X01]
 refine⟨⟨by omega,by omega,by simp[cL],by simp⟩,?_⟩
 rintro⟨k,i⟩ hI
 simp only at hI ⊢
 have h2:=hI.1
 have h3:=hI.2
 refine⟨fun hi=>?_,fun hi=>XiA hI hi⟩
 · have hs:=X4a X0u ((0:Int),((0:Int),((0:Int),((0:Int),((0:Int),([]:U5q)))))) (l:=a0) (i:=i.toNat) (by omega)
   have hk:=hI.3
   have c1:=X2z X4N (a0.take i.toNat)
   have c2:=X2z X4N (a0.drop (i.toNat+1))
   have c3:=X4N (a0.getD i.toNat ((0:Int),((0:Int),((0:Int),((0:Int),((0:Int),([]:U5q)))))))
   have hmod:Int.tmod k 3=k % 3:=Int.tmod_eq_emod_of_nonneg (by omega)
   have no:X4U (a0.getD i.toNat ((0:Int),((0:Int),((0:Int),((0:Int),((0:Int),([]:U5q))))))) k=false→-1=X3s a0 a1:=fun ho=>Xo2 ((0:Int),((0:Int),((0:Int),((0:Int),((0:Int),([]:U5q)))))) hI hi ho
   have yes:X4U (a0.getD i.toNat ((0:Int),((0:Int),((0:Int),((0:Int),((0:Int),([]:U5q))))))) k=true→hdI X0u X4U a0 a1 (k+X0u (a0.getD i.toNat ((0:Int),((0:Int),((0:Int),((0:Int),((0:Int),([]:U5q)))))))) (i+1):=fun ho=>Xff ((0:Int),((0:Int),((0:Int),((0:Int),((0:Int),([]:U5q)))))) hI hi ho rfl
   generalize a0.getD i.toNat ((0:Int),((0:Int),((0:Int),((0:Int),((0:Int),([]:U5q))))))=x at*
   have hc:X0u x=X0u x:=rfl
   conv at hc=>rhs;unfold X0u
   simp only[X4U]at no yes
   simp (disch:=omega) only[w64,pMT]
   repeat' (with_reducible (first | (refine And.intro ?_ ?_) | intro _))
   all_goals (first | omega | (unfold hdM;omega) | skip)
   all_goals (try simp (disch:=first | omega | assumption) only[X42,X3I,w64,Bool.not_eq_false]at*)
   all_goals (try simp (disch:=first | omega | assumption) only[X42,X3I,w64,Bool.not_eq_false]at*)
   all_goals (first | omega | grind)
theorem X0G.eq:EqS X4F Tryz.f72 [3] [X0M.e] [] (fun i x=>X0G.L x.1 x.2) (fun i x=>X0G.F x.1 x.2):=by intro i x;kernel_rfl
theorem X0G.ok:X0k Tryz.prog 72 X4F:=X1Z X0G.eq Tryz.func72 rfl (by kernel_rfl) fun i x h hi hw=>X0G.pure x.1 x.2 h hw
def X0G.e:GE:=⟨72,X4F,⟨_,Tryz.func72,rfl,rfl⟩,X0G.ok⟩
end Go.Proofs.YtcfaphojdacmbaaGreatR.B
