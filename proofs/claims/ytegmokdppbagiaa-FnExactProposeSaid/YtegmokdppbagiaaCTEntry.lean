/- Values of the type Entry:how large,the same,marked. -/
import Derived.Test.YtegmokdppbagiaaCTypes
set_option maxRecDepth 100000
set_option linter.unusedVariables false
set_option linter.unusedSimpArgs false
namespace Go.Proofs.Ytegmokdppbagiaa.B
open Go Go.Proofs.Ytegmokdppbagiaa.Bv
def X29(x:U4q):Nat:=(x.2.length)
def X8P(x:U4q)(left:Int):Prop:=WfD T5q x∧0≤left∧left≤1048576
def X5A(x:U4q)(left:Int):Int:=fSz (X29 x) left
def X3X:Con:={A:=(.pair T5q (.int .i64)),shA:=[.agg 2,.one],R:=(.int .i64),shR:=[(false,1)],pre:=fun _ a=>(X8P a.1 a.2),f:=some fun _ a=>((X5A a.1 a.2),((),()))}
def X1p.F(a0:U4q)(a1:Int):Prop:=(X02 (decide ((wI (a1 - (ln a0.2)))<(0:Int))) (Eq ((-1),((),())) ((X5A a0 a1),((),()))) (Eq ((wI (a1 - (ln a0.2))),((),())) ((X5A a0 a1),((),()))))
theorem X1p.pure(a0:U4q)(a1:Int)(h:(X8P a0 a1))(hw:Wf X3X.A (a0,a1)):X1p.F a0 a1:=by
 delta X1p.F ln wI
 obtain⟨hwf,p1,p2⟩:=h
 have w1:a0.2.length≤9223372036854775807:=hwf.2
 simp only[Bs,B0,B1,Prod.mk.injEq,X04,X29,X5A]
 repeat' (with_reducible (first | (refine And.intro ?_ ?_) | intro _))
 all_goals (try simp (disch:=omega) only[w64,wu8,tn0,tn1,tm1,tm2,List.length_append,List.length_cons,List.length_nil]at*)
 all_goals (try simp (disch:=omega) only[w64,wu8,tn0,tn1,tm1,tm2,List.length_append,List.length_cons,List.length_nil]at*)
 all_goals (try omega)
 all_goals (try grind[fSz])
theorem X1p.eq:EqS X3X Try.f92 [3] [] [] noL (fun i x=>X1p.F x.1 x.2):=by intro i x;kernel_rfl
theorem X1p.ok:X0D Try.prog 92 X3X:=X2U X1p.eq Try.func92 rfl (by kernel_rfl) fun i x h hi hw=>X1p.pure x.1 x.2 h hw
def X1p.e:GE:=⟨92,X3X,⟨_,Try.func92,rfl,rfl⟩,X1p.ok⟩
def X6u(x:List U4q)(left:Int):Prop:=WfD (.list T5q) x∧0≤left∧left≤1048576
def X3L(x:List U4q)(left:Int):Int:=fSz (nL X29 x) left
def X3B:Con:={A:=(.pair (.list T5q) (.int .i64)),shA:=[.one,.one],R:=(.int .i64),shR:=[(false,1)],pre:=fun _ a=>(X6u a.1 a.2),f:=some fun _ a=>((X3L a.1 a.2),((),()))}
def X0P.F(a0:(List U4q))(a1:Int):Prop:=(X02 (decide ((wI (a1 - (ln a0)))<(0:Int))) (Eq ((-1),((),())) ((X3L a0 a1),((),()))) (eS [(0,.val false [.lst T5q a0 none])] [(0,.val false [.lst T5q a0 none])]∧((szLI X29 a0 a1 (wI (a1 - (ln a0))) 0)∧∀(y1:(Int×Int)),(szLI X29 a0 a1 y1.1 y1.2)→(X02 (decide (y1.2<(ln a0))) (0≤y1.2∧(y1.2<(ln a0)∧((X8P ((List.getD a0 (tN y1.2) (0,[])).1,(List.getD a0 (tN y1.2) (0,[])).2) y1.1)∧∀r2,(Eq r2 ((X5A ((List.getD a0 (tN y1.2) (0,[])).1,(List.getD a0 (tN y1.2) (0,[])).2) y1.1),((),())))→(X02 (decide (r2.1<(0:Int))) (Eq ((-1),((),())) ((X3L a0 a1),((),()))) (eS [(0,.val false [.lst T5q a0 none])] [(0,.val false [.lst T5q a0 none])]∧(szLI X29 a0 a1 r2.1 (wI (y1.2+(1:Int))))∧(szLM a0 a1 r2.1 (wI (y1.2+(1:Int))))<(szLM a0 a1 y1.1 y1.2)))))) (Eq (y1.1,((),())) ((X3L a0 a1),((),())))))))
def X0P.L(a0:(List U4q))(a1:Int):Nat→Option X0i:=fun p=>Go.Proofs.Ytegmokdppbagiaa.Bv.look p [(122,{kp:={hold:=[0],slots:=[1,5],boxes:=[],rows:=[]},T:=Xfk,I:=fun st y=>szLI X29 a0 a1 y.1 y.2,μ:=fun st y=>szLM a0 a1 y.1 y.2})]
theorem X0P.pure(a0:(List U4q))(a1:Int)(h:(X6u a0 a1))(hw:Wf X3B.A (a0,a1)):X0P.F a0 a1:=by
 delta X0P.F ln tN wI eS
 obtain⟨hwf,p1,p2⟩:=h
 have hw1:a0.length≤9223372036854775807:=hwf.1
 simp only[Bs,B0,B1,Prod.mk.injEq,X04,X3L]
 rw[w64 (x:=a1 - (a0.length:Int)) (by omega) (by omega)]
 refine⟨fun h1=>(XbP (by unfold nL;omega)).symm,fun h1=>⟨⟨by omega,by omega,by omega,by rw[show Int.toNat 0=0 from rfl,Xec];omega⟩,?_⟩⟩
 rintro⟨left,i⟩ ⟨h2,h3,h4,h5⟩
 simp only at h2 h3 h4 h5 ⊢
 refine⟨fun hi=>?_,fun hi=>?_⟩
 · have hm:a0.getD i.toNat ((0:Int),([]:U9q))∈a0:=Xdm (by omega)
   have s1:=XeZ X29 a0 ((0:Int),([]:U9q)) (i:=i.toNat) (by omega)
   have s2:=XgU X29 a0 (i.toNat+1)
   have hwx:WfD T5q (a0.getD i.toNat ((0:Int),([]:U9q))):=hwf.2 _ hm
   rw[w64 (x:=i+1) (by omega) (by omega)]
   simp only[X5A]
   by_cases hc:left<(X29 (a0.getD i.toNat ((0:Int),([]:U9q))):Int)
   · rw[XbP hc]
     exact⟨h2,hi,⟨hwx,h4,by omega⟩,fun h6=>(XbP (by unfold nL;omega)).symm,fun h6=>absurd (by decide) h6⟩
   · rw[Xcv hc]
     exact⟨h2,hi,⟨hwx,h4,by omega⟩,fun h6=>by omega,fun h6=>⟨⟨by omega,by omega,by omega,by rw[tn1 h2];omega⟩,by unfold szLM;omega⟩⟩
 · have e:i.toNat=a0.length:=by omega
   rw[e]at h5
   rw[Xcv (by unfold nL;omega)]
   unfold nL;omega
theorem X0P.eq:EqS X3B Try.f45 [3] [X1p.e] [] (fun i x=>X0P.L x.1 x.2) (fun i x=>X0P.F x.1 x.2):=by intro i x;kernel_rfl
theorem X0P.ok:X0D Try.prog 45 X3B:=X2U X0P.eq Try.func45 rfl (by kernel_rfl) fun i x h hi hw=>X0P.pure x.1 x.2 h hw
def X0P.e:GE:=⟨45,X3B,⟨_,Try.func45,rfl,rfl⟩,X0P.ok⟩
def X65(x:U4q):Prop:=X29 x≤1048576
def X6d(x:U4q):U4q:=x
def X43:Con:={A:=T5q,shA:=[.agg 2],R:=T5q,shR:=[(true,2)],pre:=fun _ a=>(X65 a),f:=some fun _ a=>((X6d a),((),()))}
def X1o.F(a0:U4q):Prop:=(Eq ((a0.1,a0.2),((),())) ((X6d a0),((),())))
theorem X1o.pure(a0:U4q)(h:(X65 a0))(hw:Wf X43.A a0):X1o.F a0:=by
 unfold X1o.F
 have hp:X29 a0≤1048576:=h
 simp only[X29]at hp
 simp only[Bs,B0,B1,Prod.mk.injEq,X04,X29,X6d,X65]
 repeat' (with_reducible (first | (refine And.intro ?_ ?_) | intro _))
 all_goals (try simp (disch:=omega) only[w64,wu8,tn0,tn1,tm1,tm2,List.length_append,List.length_cons,List.length_nil]at*)
 all_goals (try simp (disch:=omega) only[w64,wu8,tn0,tn1,tm1,tm2,List.length_append,List.length_cons,List.length_nil]at*)
 all_goals (try omega)
 all_goals (try grind[])
theorem X1o.eq:EqS X43 Try.f97 [101] [] [] noL (fun i x=>X1o.F x):=by intro i x;kernel_rfl
theorem X1o.ok:X0D Try.prog 97 X43:=X2U X1o.eq Try.func97 rfl (by kernel_rfl) fun i x h hi hw=>X1o.pure x h hw
def X1o.e:GE:=⟨97,X43,⟨_,Try.func97,rfl,rfl⟩,X1o.ok⟩
def X6A(x:List U4q):Prop:=nL X29 x≤1048576
def X5C(x:List U4q):List U4q:=x
def X3p:Con:={A:=(.list T5q),shA:=[.one],R:=(.list T5q),shR:=[(false,1)],fresh:=[(0,101)],pre:=fun _ a=>(X6A a),f:=some fun _ a=>((X5C a),((),()))}
def X0R.F(a0:(List U4q)):Prop:=(0≤(ln a0)∧((ln a0)≤(ln a0)∧((ln a0)≤9223372036854775807∧(((24:Nat):Int)*(ln a0)≤140737488355328∧(eS [(0,.val false [.lst T5q a0 none]),(3,.val false [.own T5q 1000387])] [(0,.val false [.lst T5q a0 none]),(3,.val false [.own T5q 1000387])]∧((cpI ((0:Int),([]:U9q)) a0 0 (List.replicate (tN (ln a0)) ((0:Int),([]:U9q))))∧∀(y1:(Int×(List U4q))),(cpI ((0:Int),([]:U9q)) a0 y1.1 y1.2)→(X02 (decide (y1.1<(ln a0))) (0≤y1.1∧(y1.1<(ln a0)∧((X65 ((List.getD a0 (tN y1.1) (0,[])).1,(List.getD a0 (tN y1.1) (0,[])).2))∧∀r2,(Eq r2 ((X6d ((List.getD a0 (tN y1.1) (0,[])).1,(List.getD a0 (tN y1.1) (0,[])).2)),((),())))→(0≤y1.1∧(y1.1<(ln y1.2)∧(eS [(0,.val false [.lst T5q a0 none]),(3,.val false [.own T5q 1000387])] [(0,.val false [.lst T5q a0 none]),(3,.val false [.own T5q 1000387])]∧(cpI ((0:Int),([]:U9q)) a0 (wI (y1.1+(1:Int))) (List.set y1.2 (tN y1.1) (r2.1.1,r2.1.2)))∧(cpM a0 (wI (y1.1+(1:Int))) (List.set y1.2 (tN y1.1) (r2.1.1,r2.1.2)))<(cpM a0 y1.1 y1.2))))))) (Eq (y1.2,((),())) ((X5C a0),((),()))))))))))
def X0R.L(a0:(List U4q)):Nat→Option X0i:=fun p=>Go.Proofs.Ytegmokdppbagiaa.Bv.look p [(58,{kp:={hold:=[0,3],slots:=[4],boxes:=[],rows:=[{bx:=false,s:=3,i:=0,k:=1000387,e:=101,hot:=true}]},T:=(.pair (.int .i64) (.list T5q)),I:=fun st y=>cpI ((0:Int),([]:U9q)) a0 y.1 y.2,μ:=fun st y=>cpM a0 y.1 y.2})]
theorem X0R.pure(a0:(List U4q))(h:(X6A a0))(hw:Wf X3p.A a0):X0R.F a0:=by
 delta X0R.F ln tN wI eS
 have hb:a0.length≤1048576:=by have h1:nL X29 a0≤1048576:=h;unfold nL at h1;omega
 simp only[Bs,B0,B1,Prod.mk.injEq,X04,X5C]
 refine⟨by omega,by omega,by omega,by omega,⟨by omega,by omega,by simp⟩,?_⟩
 rintro⟨i,out⟩ hI
 simp only at hI ⊢
 refine⟨fun hi=>?_,fun hi=>Xgf hI hi⟩
 have hl:=Xgg hI
 have h3:=hI.2.1
 have h2:=hI.1
 have hp:X65 (a0.getD i.toNat ((0:Int),([]:U9q))):=by
  have h1:nL X29 a0≤1048576:=h
  have hm:a0.getD i.toNat ((0:Int),([]:U9q))∈a0:=Xdm (by omega)
  show X29 _≤1048576
  have:=Xhx X29 hm;omega
 rw[w64 (x:=i+1) (by omega) (by omega)]
 simp only[X6d,hl]
 exact⟨h2,hi,hp,h2,hi,XeT hI hi,by unfold cpM;omega⟩
theorem X0R.eq:EqS X3p Try.f50 [47] [X1o.e] [] (fun i x=>X0R.L x) (fun i x=>X0R.F x):=by intro i x;kernel_rfl
theorem X0R.ok:X0D Try.prog 50 X3p:=X2U X0R.eq Try.func50 rfl (by kernel_rfl) fun i x h hi hw=>X0R.pure x h hw
def X0R.e:GE:=⟨50,X3p,⟨_,Try.func50,rfl,rfl⟩,X0R.ok⟩
instance dec_Entry:DecidableEq U4q:=by(iterate 20 (all_goals (first | infer_instance | refine @instDecidableEqProd _ _ ?_ ?_)))
def X4b(a b:U4q):Bool:=decide (a=b)
def X3U:Con:={A:=(.pair T5q T5q),shA:=[.agg 2,.agg 2],R:=.bool,shR:=[(false,1)],pre:=fun _ _=>True,f:=some fun _ a=>((X4b a.1 a.2),((),()))}
def X1q.F(a0:U4q)(a1:U4q):Prop:=(X02 (a0.1 !=a1.1) (Eq (false,((),())) ((X4b a0 a1),((),()))) (X02 (!(a0.2==a1.2)) (Eq (false,((),())) ((X4b a0 a1),((),()))) (Eq (true,((),())) ((X4b a0 a1),((),())))))
theorem X1q.pure(a0:U4q)(a1:U4q)(h:True)(hw:Wf X3U.A (a0,a1)):X1q.F a0 a1:=by
 unfold X1q.F
 obtain⟨x1,x2⟩:=a0
 obtain⟨y1,y2⟩:=a1
 simp only[Bs,B0,B1,Prod.mk.injEq,X04,X4b]
 repeat' (first | (refine And.intro ?_ ?_) | intro _)
 all_goals simp_all
theorem X1q.eq:EqS X3U Try.f105 [4] [] [] noL (fun i x=>X1q.F x.1 x.2):=by intro i x;kernel_rfl
theorem X1q.ok:X0D Try.prog 105 X3U:=X2U X1q.eq Try.func105 rfl (by kernel_rfl) fun i x h hi hw=>X1q.pure x.1 x.2 h hw
def X1q.e:GE:=⟨105,X3U,⟨_,Try.func105,rfl,rfl⟩,X1q.ok⟩
def X27(a b:List U4q):Bool:=decide (a=b)
def X3D:Con:={A:=(.pair (.list T5q) (.list T5q)),shA:=[.one,.one],R:=.bool,shR:=[(false,1)],pre:=fun _ _=>True,f:=some fun _ a=>((X27 a.1 a.2),((),()))}
def X0C.F(a0:(List U4q))(a1:(List U4q)):Prop:=(X02 ((ln a0)!=(ln a1)) (Eq (false,((),())) ((X27 a0 a1),((),()))) (eS [(0,.val false [.lst T5q a0 none]),(1,.val false [.lst T5q a1 none])] [(0,.val false [.lst T5q a0 none]),(1,.val false [.lst T5q a1 none])]∧((Xct a0 a1 0)∧∀(y1:Int),(Xct a0 a1 y1)→(X02 (decide (y1<(ln a0))) (0≤y1∧(y1<(ln a0)∧(0≤y1∧(y1<(ln a1)∧(True∧∀r2,(Eq r2 ((X4b ((List.getD a0 (tN y1) (0,[])).1,(List.getD a0 (tN y1) (0,[])).2) ((List.getD a1 (tN y1) (0,[])).1,(List.getD a1 (tN y1) (0,[])).2)),((),())))→(X02 (!r2.1) (Eq (false,((),())) ((X27 a0 a1),((),()))) (eS [(0,.val false [.lst T5q a0 none]),(1,.val false [.lst T5q a1 none])] [(0,.val false [.lst T5q a0 none]),(1,.val false [.lst T5q a1 none])]∧(Xct a0 a1 (wI (y1+(1:Int))))∧(Xe7 a0 a1 (wI (y1+(1:Int))))<(Xe7 a0 a1 y1)))))))) (Eq (true,((),())) ((X27 a0 a1),((),())))))))
def X0C.L(a0:(List U4q))(a1:(List U4q)):Nat→Option X0i:=fun p=>Go.Proofs.Ytegmokdppbagiaa.Bv.look p [(58,{kp:={hold:=[0,1],slots:=[5],boxes:=[],rows:=[]},T:=(.int .i64),I:=fun st y=>Xct a0 a1 y,μ:=fun st y=>Xe7 a0 a1 y})]
theorem X0C.pure(a0:(List U4q))(a1:(List U4q))(h:True)(hw:Wf X3D.A (a0,a1)):X0C.F a0 a1:=by
 delta X0C.F ln tN wI eS
 have hw1:a0.length≤9223372036854775807:=hw.1.1
 simp only[Bs,B0,B1,Prod.mk.injEq,X04]
 refine⟨fun h1=>?_,fun h1=>?_⟩
 · have:a0≠a1:=fun e=>by subst e;simp at h1
   simp[X27,this]
 have hl:a0.length=a1.length:=by omega
 refine⟨⟨by omega,by omega,hl,by simp⟩,?_⟩
 rintro i hI
 have h2:=hI.1
 have h3:=hI.2.1
 refine⟨fun hi=>⟨h2,hi,h2,by omega,fun hne=>?_,fun he=>?_⟩,fun hi=>?_⟩
 · have:a0≠a1:=fun e=>by subst e;simp[X4b]at hne
   simp[X27,this]
 · have hg:a0.getD i.toNat ((0:Int),([]:U9q))=a1.getD i.toNat ((0:Int),([]:U9q)):=by simpa only[X4b,decide_eq_true_eq] using he
   rw[w64 (x:=i+1) (by omega) (by omega)]
   exact⟨Xay hI hi hg,by unfold Xe7;omega⟩
 · have h6:=Xcj hI hi
   simp[X27,h6]
theorem X0C.eq:EqS X3D Try.f56 [4] [X1q.e] [] (fun i x=>X0C.L x.1 x.2) (fun i x=>X0C.F x.1 x.2):=by intro i x;kernel_rfl
theorem X0C.ok:X0D Try.prog 56 X3D:=X2U X0C.eq Try.func56 rfl (by kernel_rfl) fun i x h hi hw=>X0C.pure x.1 x.2 h hw
def X0C.e:GE:=⟨56,X3D,⟨_,Try.func56,rfl,rfl⟩,X0C.ok⟩
def X0a(x:U4q):Int:=1+1
def X4f(x:U4q)(k:Int):U4q:=(k,(fMT (k+1)))
def X3K(x:U4q)(k:Int):Bool:=(decide (x.1=k))&&(decide (x.2=fMT (k+1)))
theorem X8C:∀(x:U4q) (k:Int),X3K (X4f x k) k=true∧X0a (X4f x k)=X0a x:=fun x k=>by
 simp[X3K,X4f,X0a]
theorem X2s:∀x:U4q,0≤X0a x:=fun x=>by
 unfold X0a;omega
def X1U(l:List U4q)(k:Int):Prop:=0≤k∧k+cL X0a l≤4611686018427387904
def X2t(l:List U4q)(k:Int):Int×List U4q:=(k+cL X0a l,mL X0a X4f l k)
def X2J:Con:={A:=(.pair (.list T5q) (.int .i64)),shA:=[.one,.one],backA:=[(0,101)],B:=(.list T5q),R:=(.int .i64),shR:=[(false,1)],pre:=fun _ a=>(X1U a.1 a.2),f:=some fun _ a=>((X2t a.1 a.2).1,((),(X2t a.1 a.2).2))}
def X0j.F(a0:(List U4q))(a1:Int):Prop:=(eS [(0,.val false [.own T5q 2])] [(0,.val false [.own T5q 2])]∧((mkI X0a X4f a0 a1 a1 0 a0)∧∀(y1:(Int×(Int×(List U4q)))),(mkI X0a X4f a0 a1 y1.1 y1.2.1 y1.2.2)→(X02 (decide (y1.2.1<(ln y1.2.2))) (0≤y1.2.1∧(y1.2.1<(ln y1.2.2)∧((pMT (wI (y1.1+(1:Int))))∧∀r2,(Eq r2 ((fMT (wI (y1.1+(1:Int)))),((),())))→(0≤y1.2.1∧(y1.2.1<(ln (List.set y1.2.2 (tN y1.2.1) (y1.1,(List.getD y1.2.2 (tN y1.2.1) (0,[])).2)))∧(eS [(0,.val false [.own T5q 2])] [(0,.val false [.own T5q 2])]∧(mkI X0a X4f a0 a1 (wI ((wI (y1.1+(1:Int)))+(1:Int))) (wI (y1.2.1+(1:Int))) (List.set (List.set y1.2.2 (tN y1.2.1) (y1.1,(List.getD y1.2.2 (tN y1.2.1) (0,[])).2)) (tN y1.2.1) ((List.getD (List.set y1.2.2 (tN y1.2.1) (y1.1,(List.getD y1.2.2 (tN y1.2.1) (0,[])).2)) (tN y1.2.1) (0,[])).1,r2.1)))∧(mkM a0 a1 (wI ((wI (y1.1+(1:Int)))+(1:Int))) (wI (y1.2.1+(1:Int))) (List.set (List.set y1.2.2 (tN y1.2.1) (y1.1,(List.getD y1.2.2 (tN y1.2.1) (0,[])).2)) (tN y1.2.1) ((List.getD (List.set y1.2.2 (tN y1.2.1) (y1.1,(List.getD y1.2.2 (tN y1.2.1) (0,[])).2)) (tN y1.2.1) (0,[])).1,r2.1)))<(mkM a0 a1 y1.1 y1.2.1 y1.2.2))))))) (Eq (y1.1,((),y1.2.2)) ((X2t a0 a1).1,((),(X2t a0 a1).2))))))
def X0j.L(a0:(List U4q))(a1:Int):Nat→Option X0i:=fun p=>Go.Proofs.Ytegmokdppbagiaa.Bv.look p [(26,{kp:={hold:=[0],slots:=[1,5],boxes:=[],rows:=[{bx:=false,s:=0,i:=0,k:=2,e:=101,hot:=true}]},T:=(.pair (.int .i64) (.pair (.int .i64) (.list T5q))),I:=fun st y=>mkI X0a X4f a0 a1 y.1 y.2.1 y.2.2,μ:=fun st y=>mkM a0 a1 y.1 y.2.1 y.2.2})]
theorem X0j.pure(a0:(List U4q))(a1:Int)(h:(X1U a0 a1))(hw:Wf X2J.A (a0,a1)):X0j.F a0 a1:=by
 delta X0j.F ln tN wI eS
 obtain⟨p1,p2⟩:=h
 have hw1:a0.length≤9223372036854775807:=hw.1.1
 simp only[Bs,B0,B1,Prod.mk.injEq,X04]
 refine⟨⟨by omega,by omega,by simp[cL],by simp[mL]⟩,?_⟩
 rintro⟨k,i,l⟩ hI
 simp only at hI ⊢
 have hl:=Xeu hI
 have h2:=hI.1
 have h3:=hI.2
 refine⟨fun hi0=>?_,fun hi0=>?_⟩
 · have hi:i<(a0.length:Int):=by omega
   have hi':i.toNat<l.length:=by omega
   have hg:=XgD (d:=((0:Int),([]:U9q))) hI hi
   have hs:=X52 X0a ((0:Int),([]:U9q)) (l:=a0) (i:=i.toNat) (by omega)
   have hk:=hI.3
   have c1:=X1Z X2s (a0.take i.toNat)
   have c2:=X1Z X2s (a0.drop (i.toNat+1))
   have c3:=X2s (a0.getD i.toNat ((0:Int),([]:U9q)))
   have hmod:Int.tmod k 3=k % 3:=Int.tmod_eq_emod_of_nonneg (by omega)
   have hc:X0a (a0.getD i.toNat ((0:Int),([]:U9q)))=X0a (a0.getD i.toNat ((0:Int),([]:U9q))):=rfl
   conv at hc=>rhs;unfold X0a
   try simp only[hg,X1x hi',List.set_set,List.length_set]
   try simp (disch:=first | omega | simp_all) only[X1x,List.set_set,List.length_set,hg,w64,pMT]
   repeat' (with_reducible (first | (refine And.intro ?_ ?_) | intro _))
   all_goals (try simp+zetaDelta (disch:=first | omega | simp_all) only[hg,X1x,List.set_set,List.length_set,w64,pMT])
   all_goals (first | omega | exact XcE (d:=((0:Int),([]:U9q))) hI hi (by simp[X4f,hmod]) (by omega) | (unfold mkM;omega) | skip)
 · obtain⟨e1,e2⟩:=XeB hI (by omega)
   exact⟨e1,e2⟩
theorem X0j.eq:EqS X2J Try.f59 [3] [X0p.e] [] (fun i x=>X0j.L x.1 x.2) (fun i x=>X0j.F x.1 x.2):=by intro i x;kernel_rfl
theorem X0j.ok:X0D Try.prog 59 X2J:=X2U X0j.eq Try.func59 rfl (by kernel_rfl) fun i x h hi hw=>X0j.pure x.1 x.2 h hw
def X0j.e:GE:=⟨59,X2J,⟨_,Try.func59,rfl,rfl⟩,X0j.ok⟩
def X2I(l:List U4q)(k:Int):Int:=fHd (cL X0a l) (oL X0a X3K l k) k
def X2L:Con:={A:=(.pair (.list T5q) (.int .i64)),shA:=[.one,.one],R:=(.int .i64),shR:=[(false,1)],pre:=fun _ a=>(X1U a.1 a.2),f:=some fun _ a=>((X2I a.1 a.2),((),()))}
def X0l.F(a0:(List U4q))(a1:Int):Prop:=(eS [(0,.val false [.lst T5q a0 none])] [(0,.val false [.lst T5q a0 none])]∧((hdI X0a X3K a0 a1 a1 0)∧∀(y1:(Int×Int)),(hdI X0a X3K a0 a1 y1.1 y1.2)→(X02 (decide (y1.2<(ln a0))) (0≤y1.2∧(y1.2<(ln a0)∧(X02 (((List.getD a0 (tN y1.2) (0,[])).1)!=y1.1) (Eq ((-1),((),())) ((X2I a0 a1),((),()))) (0≤y1.2∧(y1.2<(ln a0)∧((pMT (wI (y1.1+(1:Int))))∧∀r2,(Eq r2 ((fMT (wI (y1.1+(1:Int)))),((),())))→(X02 (!(((List.getD a0 (tN y1.2) (0,[])).2)==r2.1)) (Eq ((-1),((),())) ((X2I a0 a1),((),()))) (eS [(0,.val false [.lst T5q a0 none])] [(0,.val false [.lst T5q a0 none])]∧(hdI X0a X3K a0 a1 (wI ((wI (y1.1+(1:Int)))+(1:Int))) (wI (y1.2+(1:Int))))∧(hdM a0 a1 (wI ((wI (y1.1+(1:Int)))+(1:Int))) (wI (y1.2+(1:Int))))<(hdM a0 a1 y1.1 y1.2))))))))) (Eq (y1.1,((),())) ((X2I a0 a1),((),()))))))
def X0l.L(a0:(List U4q))(a1:Int):Nat→Option X0i:=fun p=>Go.Proofs.Ytegmokdppbagiaa.Bv.look p [(26,{kp:={hold:=[0],slots:=[1,5],boxes:=[],rows:=[]},T:=Xfk,I:=fun st y=>hdI X0a X3K a0 a1 y.1 y.2,μ:=fun st y=>hdM a0 a1 y.1 y.2})]
theorem X0l.pure(a0:(List U4q))(a1:Int)(h:(X1U a0 a1))(hw:Wf X2L.A (a0,a1)):X0l.F a0 a1:=by
 delta X0l.F ln tN wI eS
 obtain⟨p1,p2⟩:=h
 have hw1:a0.length≤9223372036854775807:=hw.1.1
 simp only[Bs,B0,B1,Prod.mk.injEq,X04]
 refine⟨⟨by omega,by omega,by simp[cL],by simp⟩,?_⟩
 rintro⟨k,i⟩ hI
 simp only at hI ⊢
 have h2:=hI.1
 have h3:=hI.2
 refine⟨fun hi=>?_,fun hi=>XeY hI hi⟩
 · have hs:=X52 X0a ((0:Int),([]:U9q)) (l:=a0) (i:=i.toNat) (by omega)
   have hk:=hI.3
   have c1:=X1Z X2s (a0.take i.toNat)
   have c2:=X1Z X2s (a0.drop (i.toNat+1))
   have c3:=X2s (a0.getD i.toNat ((0:Int),([]:U9q)))
   have hmod:Int.tmod k 3=k % 3:=Int.tmod_eq_emod_of_nonneg (by omega)
   have no:X3K (a0.getD i.toNat ((0:Int),([]:U9q))) k=false→-1=X2I a0 a1:=fun ho=>XgH ((0:Int),([]:U9q)) hI hi ho
   have yes:X3K (a0.getD i.toNat ((0:Int),([]:U9q))) k=true→hdI X0a X3K a0 a1 (k+X0a (a0.getD i.toNat ((0:Int),([]:U9q)))) (i+1):=fun ho=>Xcm ((0:Int),([]:U9q)) hI hi ho rfl
   generalize a0.getD i.toNat ((0:Int),([]:U9q))=x at*
   have hc:X0a x=X0a x:=rfl
   conv at hc=>rhs;unfold X0a
   simp only[X3K]at no yes
   simp (disch:=omega) only[w64,pMT]
   repeat' (with_reducible (first | (refine And.intro ?_ ?_) | intro _))
   all_goals (first | omega | (unfold hdM;omega) | skip)
   all_goals (try simp (disch:=first | omega | assumption) only[X4e,X33,w64,Bool.not_eq_false]at*)
   all_goals (try simp (disch:=first | omega | assumption) only[X4e,X33,w64,Bool.not_eq_false]at*)
   all_goals (first | omega | grind)
theorem X0l.eq:EqS X2L Try.f62 [3] [X0p.e] [] (fun i x=>X0l.L x.1 x.2) (fun i x=>X0l.F x.1 x.2):=by intro i x;kernel_rfl
theorem X0l.ok:X0D Try.prog 62 X2L:=X2U X0l.eq Try.func62 rfl (by kernel_rfl) fun i x h hi hw=>X0l.pure x.1 x.2 h hw
def X0l.e:GE:=⟨62,X2L,⟨_,Try.func62,rfl,rfl⟩,X0l.ok⟩
end Go.Proofs.Ytegmokdppbagiaa.B
