/- Values of the type Entry:how large,the same,marked. -/
import Derived.Test.YtakllifahpfmpaaCTypes
set_option maxRecDepth 100000
set_option linter.unusedVariables false
set_option linter.unusedSimpArgs false
namespace Go.Proofs.Ytakllifahpfmpaa.B
open Go Go.Proofs.Ytakllifahpfmpaa.Bv
def X2a(x:U4q):Nat:=(x.2.length)
def X91(x:U4q)(left:Int):Prop:=WfD T5q x∧0≤left∧left≤1048576
def X5U(x:U4q)(left:Int):Int:=fSz (X2a x) left
def X48:Con:={A:=(.pair T5q (.int .i64)),shA:=[.agg 2,.one],R:=(.int .i64),shR:=[(false,1)],pre:=fun _ a=>(X91 a.1 a.2),f:=some fun _ a=>((X5U a.1 a.2),((),()))}
def X1t.F(a0:U4q)(a1:Int):Prop:=(X02 (decide ((wI (a1 - (ln a0.2)))<(0:Int))) (Eq ((-1),((),())) ((X5U a0 a1),((),()))) (Eq ((wI (a1 - (ln a0.2))),((),())) ((X5U a0 a1),((),()))))
theorem X1t.pure(a0:U4q)(a1:Int)(h:(X91 a0 a1))(hw:Wf X48.A (a0,a1)):X1t.F a0 a1:=by
 delta X1t.F ln wI
 obtain⟨hwf,p1,p2⟩:=h
 have w1:a0.2.length≤9223372036854775807:=hwf.2
 simp only[Bs,B0,B1,Prod.mk.injEq,X04,X2a,X5U]
 repeat' (with_reducible (first | (refine And.intro ?_ ?_) | intro _))
 all_goals (try simp (disch:=omega) only[w64,wu8,tn0,tn1,tm1,tm2,List.length_append,List.length_cons,List.length_nil]at*)
 all_goals (try simp (disch:=omega) only[w64,wu8,tn0,tn1,tm1,tm2,List.length_append,List.length_cons,List.length_nil]at*)
 all_goals (try omega)
 all_goals (try grind[fSz])
theorem X1t.eq:EqS X48 Try.f40 [3] [] [] noL (fun i x=>X1t.F x.1 x.2):=by intro i x;kernel_rfl
theorem X1t.ok:X0z Try.prog 40 X48:=X2I X1t.eq Try.func40 rfl (by kernel_rfl) fun i x h hi hw=>X1t.pure x.1 x.2 h hw
def X1t.e:GE:=⟨40,X48,⟨_,Try.func40,rfl,rfl⟩,X1t.ok⟩
def X6U(x:List U4q)(left:Int):Prop:=WfD (.list T5q) x∧0≤left∧left≤1048576
def X44(x:List U4q)(left:Int):Int:=fSz (nL X2a x) left
def X3O:Con:={A:=(.pair (.list T5q) (.int .i64)),shA:=[.one,.one],R:=(.int .i64),shR:=[(false,1)],pre:=fun _ a=>(X6U a.1 a.2),f:=some fun _ a=>((X44 a.1 a.2),((),()))}
def X0Q.F(a0:(List U4q))(a1:Int):Prop:=(X02 (decide ((wI (a1 - (ln a0)))<(0:Int))) (Eq ((-1),((),())) ((X44 a0 a1),((),()))) (eS [(0,.val false [.lst T5q a0 none])] [(0,.val false [.lst T5q a0 none])]∧((szLI X2a a0 a1 (wI (a1 - (ln a0))) 0)∧∀(y1:(Int×Int)),(szLI X2a a0 a1 y1.1 y1.2)→(X02 (decide (y1.2<(ln a0))) (0≤y1.2∧(y1.2<(ln a0)∧((X91 ((List.getD a0 (tN y1.2) (0,[])).1,(List.getD a0 (tN y1.2) (0,[])).2) y1.1)∧∀r2,(Eq r2 ((X5U ((List.getD a0 (tN y1.2) (0,[])).1,(List.getD a0 (tN y1.2) (0,[])).2) y1.1),((),())))→(X02 (decide (r2.1<(0:Int))) (Eq ((-1),((),())) ((X44 a0 a1),((),()))) (eS [(0,.val false [.lst T5q a0 none])] [(0,.val false [.lst T5q a0 none])]∧(szLI X2a a0 a1 r2.1 (wI (y1.2+(1:Int))))∧(szLM a0 a1 r2.1 (wI (y1.2+(1:Int))))<(szLM a0 a1 y1.1 y1.2)))))) (Eq (y1.1,((),())) ((X44 a0 a1),((),())))))))
def X0Q.L(a0:(List U4q))(a1:Int):Nat→Option X0w:=fun p=>Go.Proofs.Ytakllifahpfmpaa.Bv.look p [(122,{kp:={hold:=[0],slots:=[1,5],boxes:=[],rows:=[]},T:=XfX,I:=fun st y=>szLI X2a a0 a1 y.1 y.2,μ:=fun st y=>szLM a0 a1 y.1 y.2})]
theorem X0Q.pure(a0:(List U4q))(a1:Int)(h:(X6U a0 a1))(hw:Wf X3O.A (a0,a1)):X0Q.F a0 a1:=by
 delta X0Q.F ln tN wI eS
 obtain⟨hwf,p1,p2⟩:=h
 have hw1:a0.length≤9223372036854775807:=hwf.1
 simp only[Bs,B0,B1,Prod.mk.injEq,X04,X44]
 rw[w64 (x:=a1 - (a0.length:Int)) (by omega) (by omega)]
 refine⟨fun h1=>(XbW (by unfold nL;omega)).symm,fun h1=>⟨⟨by omega,by omega,by omega,by rw[show Int.toNat 0=0 from rfl,XfR];omega⟩,?_⟩⟩
 rintro⟨left,i⟩ ⟨h2,h3,h4,h5⟩
 simp only at h2 h3 h4 h5 ⊢
 refine⟨fun hi=>?_,fun hi=>?_⟩
 · have hm:a0.getD i.toNat ((0:Int),([]:X4w))∈a0:=XdM (by omega)
   have s1:=Xfr X2a a0 ((0:Int),([]:X4w)) (i:=i.toNat) (by omega)
   have s2:=Xhc X2a a0 (i.toNat+1)
   have hwx:WfD T5q (a0.getD i.toNat ((0:Int),([]:X4w))):=hwf.2 _ hm
   rw[w64 (x:=i+1) (by omega) (by omega)]
   simp only[X5U]
   by_cases hc:left<(X2a (a0.getD i.toNat ((0:Int),([]:X4w))):Int)
   · rw[XbW hc]
     exact⟨h2,hi,⟨hwx,h4,by omega⟩,fun h6=>(XbW (by unfold nL;omega)).symm,fun h6=>absurd (by decide) h6⟩
   · rw[Xcx hc]
     exact⟨h2,hi,⟨hwx,h4,by omega⟩,fun h6=>by omega,fun h6=>⟨⟨by omega,by omega,by omega,by rw[tn1 h2];omega⟩,by unfold szLM;omega⟩⟩
 · have e:i.toNat=a0.length:=by omega
   rw[e]at h5
   rw[Xcx (by unfold nL;omega)]
   unfold nL;omega
theorem X0Q.eq:EqS X3O Try.f14 [3] [X1t.e] [] (fun i x=>X0Q.L x.1 x.2) (fun i x=>X0Q.F x.1 x.2):=by intro i x;kernel_rfl
theorem X0Q.ok:X0z Try.prog 14 X3O:=X2I X0Q.eq Try.func14 rfl (by kernel_rfl) fun i x h hi hw=>X0Q.pure x.1 x.2 h hw
def X0Q.e:GE:=⟨14,X3O,⟨_,Try.func14,rfl,rfl⟩,X0Q.ok⟩
def X6D(x:U4q):Prop:=X2a x≤1048576
def X6x(x:U4q):U4q:=x
def X4h:Con:={A:=T5q,shA:=[.agg 2],R:=T5q,shR:=[(true,2)],pre:=fun _ a=>(X6D a),f:=some fun _ a=>((X6x a),((),()))}
def X1r.F(a0:U4q):Prop:=(Eq ((a0.1,a0.2),((),())) ((X6x a0),((),())))
theorem X1r.pure(a0:U4q)(h:(X6D a0))(hw:Wf X4h.A a0):X1r.F a0:=by
 unfold X1r.F
 have hp:X2a a0≤1048576:=h
 simp only[X2a]at hp
 simp only[Bs,B0,B1,Prod.mk.injEq,X04,X2a,X6x,X6D]
 repeat' (with_reducible (first | (refine And.intro ?_ ?_) | intro _))
 all_goals (try simp (disch:=omega) only[w64,wu8,tn0,tn1,tm1,tm2,List.length_append,List.length_cons,List.length_nil]at*)
 all_goals (try simp (disch:=omega) only[w64,wu8,tn0,tn1,tm1,tm2,List.length_append,List.length_cons,List.length_nil]at*)
 all_goals (try omega)
 all_goals (try grind[])
theorem X1r.eq:EqS X4h Try.f47 [73] [] [] noL (fun i x=>X1r.F x):=by intro i x;kernel_rfl
theorem X1r.ok:X0z Try.prog 47 X4h:=X2I X1r.eq Try.func47 rfl (by kernel_rfl) fun i x h hi hw=>X1r.pure x h hw
def X1r.e:GE:=⟨47,X4h,⟨_,Try.func47,rfl,rfl⟩,X1r.ok⟩
def X6Y(x:List U4q):Prop:=nL X2a x≤1048576
def X5S(x:List U4q):List U4q:=x
def X3M:Con:={A:=(.list T5q),shA:=[.one],R:=(.list T5q),shR:=[(false,1)],fresh:=[(0,73)],pre:=fun _ a=>(X6Y a),f:=some fun _ a=>((X5S a),((),()))}
def X0R.F(a0:(List U4q)):Prop:=(0≤(ln a0)∧((ln a0)≤(ln a0)∧((ln a0)≤9223372036854775807∧(((24:Nat):Int)*(ln a0)≤140737488355328∧(eS [(0,.val false [.lst T5q a0 none]),(3,.val false [.own T5q 1000387])] [(0,.val false [.lst T5q a0 none]),(3,.val false [.own T5q 1000387])]∧((cpI ((0:Int),([]:X4w)) a0 0 (List.replicate (tN (ln a0)) ((0:Int),([]:X4w))))∧∀(y1:(Int×(List U4q))),(cpI ((0:Int),([]:X4w)) a0 y1.1 y1.2)→(X02 (decide (y1.1<(ln a0))) (0≤y1.1∧(y1.1<(ln a0)∧((X6D ((List.getD a0 (tN y1.1) (0,[])).1,(List.getD a0 (tN y1.1) (0,[])).2))∧∀r2,(Eq r2 ((X6x ((List.getD a0 (tN y1.1) (0,[])).1,(List.getD a0 (tN y1.1) (0,[])).2)),((),())))→(0≤y1.1∧(y1.1<(ln y1.2)∧(eS [(0,.val false [.lst T5q a0 none]),(3,.val false [.own T5q 1000387])] [(0,.val false [.lst T5q a0 none]),(3,.val false [.own T5q 1000387])]∧(cpI ((0:Int),([]:X4w)) a0 (wI (y1.1+(1:Int))) (List.set y1.2 (tN y1.1) (r2.1.1,r2.1.2)))∧(cpM a0 (wI (y1.1+(1:Int))) (List.set y1.2 (tN y1.1) (r2.1.1,r2.1.2)))<(cpM a0 y1.1 y1.2))))))) (Eq (y1.2,((),())) ((X5S a0),((),()))))))))))
def X0R.L(a0:(List U4q)):Nat→Option X0w:=fun p=>Go.Proofs.Ytakllifahpfmpaa.Bv.look p [(58,{kp:={hold:=[0,3],slots:=[4],boxes:=[],rows:=[{bx:=false,s:=3,i:=0,k:=1000387,e:=73,hot:=true}]},T:=(.pair (.int .i64) (.list T5q)),I:=fun st y=>cpI ((0:Int),([]:X4w)) a0 y.1 y.2,μ:=fun st y=>cpM a0 y.1 y.2})]
theorem X0R.pure(a0:(List U4q))(h:(X6Y a0))(hw:Wf X3M.A a0):X0R.F a0:=by
 delta X0R.F ln tN wI eS
 have hb:a0.length≤1048576:=by have h1:nL X2a a0≤1048576:=h;unfold nL at h1;omega
 simp only[Bs,B0,B1,Prod.mk.injEq,X04,X5S]
 refine⟨by omega,by omega,by omega,by omega,⟨by omega,by omega,by simp⟩,?_⟩
 rintro⟨i,out⟩ hI
 simp only at hI ⊢
 refine⟨fun hi=>?_,fun hi=>XgX hI hi⟩
 have hl:=XgQ hI
 have h3:=hI.2.1
 have h2:=hI.1
 have hp:X6D (a0.getD i.toNat ((0:Int),([]:X4w))):=by
  have h1:nL X2a a0≤1048576:=h
  have hm:a0.getD i.toNat ((0:Int),([]:X4w))∈a0:=XdM (by omega)
  show X2a _≤1048576
  have:=Xie X2a hm;omega
 rw[w64 (x:=i+1) (by omega) (by omega)]
 simp only[X6x,hl]
 exact⟨h2,hi,hp,h2,hi,XfG hI hi,by unfold cpM;omega⟩
theorem X0R.eq:EqS X3M Try.f21 [27] [X1r.e] [] (fun i x=>X0R.L x) (fun i x=>X0R.F x):=by intro i x;kernel_rfl
theorem X0R.ok:X0z Try.prog 21 X3M:=X2I X0R.eq Try.func21 rfl (by kernel_rfl) fun i x h hi hw=>X0R.pure x h hw
def X0R.e:GE:=⟨21,X3M,⟨_,Try.func21,rfl,rfl⟩,X0R.ok⟩
instance dec_Entry:DecidableEq U4q:=by(iterate 20 (all_goals (first | infer_instance | refine @instDecidableEqProd _ _ ?_ ?_)))
def X4m(a b:U4q):Bool:=decide (a=b)
def X4d:Con:={A:=(.pair T5q T5q),shA:=[.agg 2,.agg 2],R:=.bool,shR:=[(false,1)],pre:=fun _ _=>True,f:=some fun _ a=>((X4m a.1 a.2),((),()))}
def X1x.F(a0:U4q)(a1:U4q):Prop:=(X02 (a0.1 !=a1.1) (Eq (false,((),())) ((X4m a0 a1),((),()))) (X02 (!(a0.2==a1.2)) (Eq (false,((),())) ((X4m a0 a1),((),()))) (Eq (true,((),())) ((X4m a0 a1),((),())))))
theorem X1x.pure(a0:U4q)(a1:U4q)(h:True)(hw:Wf X4d.A (a0,a1)):X1x.F a0 a1:=by
 unfold X1x.F
 obtain⟨x1,x2⟩:=a0
 obtain⟨y1,y2⟩:=a1
 simp only[Bs,B0,B1,Prod.mk.injEq,X04,X4m]
 repeat' (first | (refine And.intro ?_ ?_) | intro _)
 all_goals simp_all
theorem X1x.eq:EqS X4d Try.f59 [4] [] [] noL (fun i x=>X1x.F x.1 x.2):=by intro i x;kernel_rfl
theorem X1x.ok:X0z Try.prog 59 X4d:=X2I X1x.eq Try.func59 rfl (by kernel_rfl) fun i x h hi hw=>X1x.pure x.1 x.2 h hw
def X1x.e:GE:=⟨59,X4d,⟨_,Try.func59,rfl,rfl⟩,X1x.ok⟩
def X2g(a b:List U4q):Bool:=decide (a=b)
def X3B:Con:={A:=(.pair (.list T5q) (.list T5q)),shA:=[.one,.one],R:=.bool,shR:=[(false,1)],pre:=fun _ _=>True,f:=some fun _ a=>((X2g a.1 a.2),((),()))}
def X0F.F(a0:(List U4q))(a1:(List U4q)):Prop:=(X02 ((ln a0)!=(ln a1)) (Eq (false,((),())) ((X2g a0 a1),((),()))) (eS [(0,.val false [.lst T5q a0 none]),(1,.val false [.lst T5q a1 none])] [(0,.val false [.lst T5q a0 none]),(1,.val false [.lst T5q a1 none])]∧((Xde a0 a1 0)∧∀(y1:Int),(Xde a0 a1 y1)→(X02 (decide (y1<(ln a0))) (0≤y1∧(y1<(ln a0)∧(0≤y1∧(y1<(ln a1)∧(True∧∀r2,(Eq r2 ((X4m ((List.getD a0 (tN y1) (0,[])).1,(List.getD a0 (tN y1) (0,[])).2) ((List.getD a1 (tN y1) (0,[])).1,(List.getD a1 (tN y1) (0,[])).2)),((),())))→(X02 (!r2.1) (Eq (false,((),())) ((X2g a0 a1),((),()))) (eS [(0,.val false [.lst T5q a0 none]),(1,.val false [.lst T5q a1 none])] [(0,.val false [.lst T5q a0 none]),(1,.val false [.lst T5q a1 none])]∧(Xde a0 a1 (wI (y1+(1:Int))))∧(XeG a0 a1 (wI (y1+(1:Int))))<(XeG a0 a1 y1)))))))) (Eq (true,((),())) ((X2g a0 a1),((),())))))))
def X0F.L(a0:(List U4q))(a1:(List U4q)):Nat→Option X0w:=fun p=>Go.Proofs.Ytakllifahpfmpaa.Bv.look p [(58,{kp:={hold:=[0,1],slots:=[5],boxes:=[],rows:=[]},T:=(.int .i64),I:=fun st y=>Xde a0 a1 y,μ:=fun st y=>XeG a0 a1 y})]
theorem X0F.pure(a0:(List U4q))(a1:(List U4q))(h:True)(hw:Wf X3B.A (a0,a1)):X0F.F a0 a1:=by
 delta X0F.F ln tN wI eS
 have hw1:a0.length≤9223372036854775807:=hw.1.1
 simp only[Bs,B0,B1,Prod.mk.injEq,X04]
 refine⟨fun h1=>?_,fun h1=>?_⟩
 · have:a0≠a1:=fun e=>by subst e;simp at h1
   simp[X2g,this]
 have hl:a0.length=a1.length:=by omega
 refine⟨⟨by omega,by omega,hl,by simp⟩,?_⟩
 rintro i hI
 have h2:=hI.1
 have h3:=hI.2.1
 refine⟨fun hi=>⟨h2,hi,h2,by omega,fun hne=>?_,fun he=>?_⟩,fun hi=>?_⟩
 · have:a0≠a1:=fun e=>by subst e;simp[X4m]at hne
   simp[X2g,this]
 · have hg:a0.getD i.toNat ((0:Int),([]:X4w))=a1.getD i.toNat ((0:Int),([]:X4w)):=by simpa only[X4m,decide_eq_true_eq] using he
   rw[w64 (x:=i+1) (by omega) (by omega)]
   exact⟨Xbl hI hi hg,by unfold XeG;omega⟩
 · have h6:=XcU hI hi
   simp[X2g,h6]
theorem X0F.eq:EqS X3B Try.f32 [4] [X1x.e] [] (fun i x=>X0F.L x.1 x.2) (fun i x=>X0F.F x.1 x.2):=by intro i x;kernel_rfl
theorem X0F.ok:X0z Try.prog 32 X3B:=X2I X0F.eq Try.func32 rfl (by kernel_rfl) fun i x h hi hw=>X0F.pure x.1 x.2 h hw
def X0F.e:GE:=⟨32,X3B,⟨_,Try.func32,rfl,rfl⟩,X0F.ok⟩
def X0b(x:U4q):Int:=1+1
def X4t(x:U4q)(k:Int):U4q:=(k,(fMT (k+1)))
def X42(x:U4q)(k:Int):Bool:=(decide (x.1=k))&&(decide (x.2=fMT (k+1)))
theorem X8W:∀(x:U4q) (k:Int),X42 (X4t x k) k=true∧X0b (X4t x k)=X0b x:=fun x k=>by
 simp[X42,X4t,X0b]
theorem X2A:∀x:U4q,0≤X0b x:=fun x=>by
 unfold X0b;omega
def X22(l:List U4q)(k:Int):Prop:=0≤k∧k+cL X0b l≤4611686018427387904
def X2C(l:List U4q)(k:Int):Int×List U4q:=(k+cL X0b l,mL X0b X4t l k)
def X2O:Con:={A:=(.pair (.list T5q) (.int .i64)),shA:=[.one,.one],backA:=[(0,73)],B:=(.list T5q),R:=(.int .i64),shR:=[(false,1)],pre:=fun _ a=>(X22 a.1 a.2),f:=some fun _ a=>((X2C a.1 a.2).1,((),(X2C a.1 a.2).2))}
def X0n.F(a0:(List U4q))(a1:Int):Prop:=(eS [(0,.val false [.own T5q 2])] [(0,.val false [.own T5q 2])]∧((mkI X0b X4t a0 a1 a1 0 a0)∧∀(y1:(Int×(Int×(List U4q)))),(mkI X0b X4t a0 a1 y1.1 y1.2.1 y1.2.2)→(X02 (decide (y1.2.1<(ln y1.2.2))) (0≤y1.2.1∧(y1.2.1<(ln y1.2.2)∧((pMT (wI (y1.1+(1:Int))))∧∀r2,(Eq r2 ((fMT (wI (y1.1+(1:Int)))),((),())))→(0≤y1.2.1∧(y1.2.1<(ln (List.set y1.2.2 (tN y1.2.1) (y1.1,(List.getD y1.2.2 (tN y1.2.1) (0,[])).2)))∧(eS [(0,.val false [.own T5q 2])] [(0,.val false [.own T5q 2])]∧(mkI X0b X4t a0 a1 (wI ((wI (y1.1+(1:Int)))+(1:Int))) (wI (y1.2.1+(1:Int))) (List.set (List.set y1.2.2 (tN y1.2.1) (y1.1,(List.getD y1.2.2 (tN y1.2.1) (0,[])).2)) (tN y1.2.1) ((List.getD (List.set y1.2.2 (tN y1.2.1) (y1.1,(List.getD y1.2.2 (tN y1.2.1) (0,[])).2)) (tN y1.2.1) (0,[])).1,r2.1)))∧(mkM a0 a1 (wI ((wI (y1.1+(1:Int)))+(1:Int))) (wI (y1.2.1+(1:Int))) (List.set (List.set y1.2.2 (tN y1.2.1) (y1.1,(List.getD y1.2.2 (tN y1.2.1) (0,[])).2)) (tN y1.2.1) ((List.getD (List.set y1.2.2 (tN y1.2.1) (y1.1,(List.getD y1.2.2 (tN y1.2.1) (0,[])).2)) (tN y1.2.1) (0,[])).1,r2.1)))<(mkM a0 a1 y1.1 y1.2.1 y1.2.2))))))) (Eq (y1.1,((),y1.2.2)) ((X2C a0 a1).1,((),(X2C a0 a1).2))))))
def X0n.L(a0:(List U4q))(a1:Int):Nat→Option X0w:=fun p=>Go.Proofs.Ytakllifahpfmpaa.Bv.look p [(26,{kp:={hold:=[0],slots:=[1,5],boxes:=[],rows:=[{bx:=false,s:=0,i:=0,k:=2,e:=73,hot:=true}]},T:=(.pair (.int .i64) (.pair (.int .i64) (.list T5q))),I:=fun st y=>mkI X0b X4t a0 a1 y.1 y.2.1 y.2.2,μ:=fun st y=>mkM a0 a1 y.1 y.2.1 y.2.2})]
theorem X0n.pure(a0:(List U4q))(a1:Int)(h:(X22 a0 a1))(hw:Wf X2O.A (a0,a1)):X0n.F a0 a1:=by
 delta X0n.F ln tN wI eS
 obtain⟨p1,p2⟩:=h
 have hw1:a0.length≤9223372036854775807:=hw.1.1
 simp only[Bs,B0,B1,Prod.mk.injEq,X04]
 refine⟨⟨by omega,by omega,by simp[cL],by simp[mL]⟩,?_⟩
 rintro⟨k,i,l⟩ hI
 simp only at hI ⊢
 have hl:=XfC hI
 have h2:=hI.1
 have h3:=hI.2
 refine⟨fun hi0=>?_,fun hi0=>?_⟩
 · have hi:i<(a0.length:Int):=by omega
   have hi':i.toNat<l.length:=by omega
   have hg:=Xhw (d:=((0:Int),([]:X4w))) hI hi
   have hs:=X5o X0b ((0:Int),([]:X4w)) (l:=a0) (i:=i.toNat) (by omega)
   have hk:=hI.3
   have c1:=X26 X2A (a0.take i.toNat)
   have c2:=X26 X2A (a0.drop (i.toNat+1))
   have c3:=X2A (a0.getD i.toNat ((0:Int),([]:X4w)))
   have hmod:Int.tmod k 3=k % 3:=Int.tmod_eq_emod_of_nonneg (by omega)
   have hc:X0b (a0.getD i.toNat ((0:Int),([]:X4w)))=X0b (a0.getD i.toNat ((0:Int),([]:X4w))):=rfl
   conv at hc=>rhs;unfold X0b
   try simp only[hg,X1G hi',List.set_set,List.length_set]
   try simp (disch:=first | omega | simp_all) only[X1G,List.set_set,List.length_set,hg,w64,pMT]
   repeat' (with_reducible (first | (refine And.intro ?_ ?_) | intro _))
   all_goals (try simp+zetaDelta (disch:=first | omega | simp_all) only[hg,X1G,List.set_set,List.length_set,w64,pMT])
   all_goals (first | omega | exact XcQ (d:=((0:Int),([]:X4w))) hI hi (by simp (disch:=omega) [X4t,hmod,Int.tmod_eq_emod_of_nonneg]<;>rfl) (by omega) | (unfold mkM;omega) | skip)
 · obtain⟨e1,e2⟩:=Xfi hI (by omega)
   exact⟨e1,e2⟩
theorem X0n.eq:EqS X2O Try.f35 [3] [X0s.e] [] (fun i x=>X0n.L x.1 x.2) (fun i x=>X0n.F x.1 x.2):=by intro i x;kernel_rfl
theorem X0n.ok:X0z Try.prog 35 X2O:=X2I X0n.eq Try.func35 rfl (by kernel_rfl) fun i x h hi hw=>X0n.pure x.1 x.2 h hw
def X0n.e:GE:=⟨35,X2O,⟨_,Try.func35,rfl,rfl⟩,X0n.ok⟩
def X2S(l:List U4q)(k:Int):Int:=fHd (cL X0b l) (oL X0b X42 l k) k
def X2T:Con:={A:=(.pair (.list T5q) (.int .i64)),shA:=[.one,.one],R:=(.int .i64),shR:=[(false,1)],pre:=fun _ a=>(X22 a.1 a.2),f:=some fun _ a=>((X2S a.1 a.2),((),()))}
def X0m.F(a0:(List U4q))(a1:Int):Prop:=(eS [(0,.val false [.lst T5q a0 none])] [(0,.val false [.lst T5q a0 none])]∧((hdI X0b X42 a0 a1 a1 0)∧∀(y1:(Int×Int)),(hdI X0b X42 a0 a1 y1.1 y1.2)→(X02 (decide (y1.2<(ln a0))) (0≤y1.2∧(y1.2<(ln a0)∧(X02 (((List.getD a0 (tN y1.2) (0,[])).1)!=y1.1) (Eq ((-1),((),())) ((X2S a0 a1),((),()))) (0≤y1.2∧(y1.2<(ln a0)∧((pMT (wI (y1.1+(1:Int))))∧∀r2,(Eq r2 ((fMT (wI (y1.1+(1:Int)))),((),())))→(X02 (!(((List.getD a0 (tN y1.2) (0,[])).2)==r2.1)) (Eq ((-1),((),())) ((X2S a0 a1),((),()))) (eS [(0,.val false [.lst T5q a0 none])] [(0,.val false [.lst T5q a0 none])]∧(hdI X0b X42 a0 a1 (wI ((wI (y1.1+(1:Int)))+(1:Int))) (wI (y1.2+(1:Int))))∧(hdM a0 a1 (wI ((wI (y1.1+(1:Int)))+(1:Int))) (wI (y1.2+(1:Int))))<(hdM a0 a1 y1.1 y1.2))))))))) (Eq (y1.1,((),())) ((X2S a0 a1),((),()))))))
def X0m.L(a0:(List U4q))(a1:Int):Nat→Option X0w:=fun p=>Go.Proofs.Ytakllifahpfmpaa.Bv.look p [(26,{kp:={hold:=[0],slots:=[1,5],boxes:=[],rows:=[]},T:=XfX,I:=fun st y=>hdI X0b X42 a0 a1 y.1 y.2,μ:=fun st y=>hdM a0 a1 y.1 y.2})]
theorem X0m.pure(a0:(List U4q))(a1:Int)(h:(X22 a0 a1))(hw:Wf X2T.A (a0,a1)):X0m.F a0 a1:=by
 delta X0m.F ln tN wI eS
 obtain⟨p1,p2⟩:=h
 have hw1:a0.length≤9223372036854775807:=hw.1.1
 simp only[Bs,B0,B1,Prod.mk.injEq,X04]
 refine⟨⟨by omega,by omega,by simp[cL],by simp⟩,?_⟩
 rintro⟨k,i⟩ hI
 simp only at hI ⊢
 have h2:=hI.1
 have h3:=hI.2
 refine⟨fun hi=>?_,fun hi=>Xfb hI hi⟩
 · have hs:=X5o X0b ((0:Int),([]:X4w)) (l:=a0) (i:=i.toNat) (by omega)
   have hk:=hI.3
   have c1:=X26 X2A (a0.take i.toNat)
   have c2:=X26 X2A (a0.drop (i.toNat+1))
   have c3:=X2A (a0.getD i.toNat ((0:Int),([]:X4w)))
   have hmod:Int.tmod k 3=k % 3:=Int.tmod_eq_emod_of_nonneg (by omega)
   have no:X42 (a0.getD i.toNat ((0:Int),([]:X4w))) k=false→-1=X2S a0 a1:=fun ho=>Xhp ((0:Int),([]:X4w)) hI hi ho
   have yes:X42 (a0.getD i.toNat ((0:Int),([]:X4w))) k=true→hdI X0b X42 a0 a1 (k+X0b (a0.getD i.toNat ((0:Int),([]:X4w)))) (i+1):=fun ho=>Xd8 ((0:Int),([]:X4w)) hI hi ho rfl
   generalize a0.getD i.toNat ((0:Int),([]:X4w))=x at*
   have hc:X0b x=X0b x:=rfl
   conv at hc=>rhs;unfold X0b
   simp only[X42]at no yes
   simp (disch:=omega) only[w64,pMT]
   repeat' (with_reducible (first | (refine And.intro ?_ ?_) | intro _))
   all_goals (first | omega | (unfold hdM;omega) | skip)
   all_goals (try simp (disch:=first | omega | assumption) only[X4r,X3i,w64,Bool.not_eq_false]at*)
   all_goals (try simp (disch:=first | omega | assumption) only[X4r,X3i,w64,Bool.not_eq_false]at*)
   all_goals (first | omega | grind)
theorem X0m.eq:EqS X2T Try.f38 [3] [X0s.e] [] (fun i x=>X0m.L x.1 x.2) (fun i x=>X0m.F x.1 x.2):=by intro i x;kernel_rfl
theorem X0m.ok:X0z Try.prog 38 X2T:=X2I X0m.eq Try.func38 rfl (by kernel_rfl) fun i x h hi hw=>X0m.pure x.1 x.2 h hw
def X0m.e:GE:=⟨38,X2T,⟨_,Try.func38,rfl,rfl⟩,X0m.ok⟩
end Go.Proofs.Ytakllifahpfmpaa.B
