/- Values of the type Entry:how large,the same,marked. -/
import Derived.Test.YtegmokdppbagiaaCTypes
set_option maxRecDepth 100000
set_option linter.unusedVariables false
set_option linter.unusedSimpArgs false
namespace Go.Proofs.Ytegmokdppbagiaa.B
open Go Go.Proofs.Ytegmokdppbagiaa.Bv
def X1T(x:U4q):Nat:=(x.2.length)
def X8T(x:U4q)(left:Int):Prop:=WfD T5q x∧0≤left∧left≤1048576
def X5g(x:U4q)(left:Int):Int:=fSz (X1T x) left
def X3N:Con:={A:=(.pair T5q (.int .i64)),shA:=[.agg 2,.one],R:=(.int .i64),shR:=[(false,1)],pre:=fun _ a=>(X8T a.1 a.2),f:=some fun _ a=>((X5g a.1 a.2),((),()))}
def X1f.F(a0:U4q)(a1:Int):Prop:=(X03 (decide ((wI (a1 - (ln a0.2)))<(0:Int))) (Eq ((-1),((),())) ((X5g a0 a1),((),()))) (Eq ((wI (a1 - (ln a0.2))),((),())) ((X5g a0 a1),((),()))))
theorem X1f.pure(a0:U4q)(a1:Int)(h:(X8T a0 a1))(hw:Wf X3N.A (a0,a1)):X1f.F a0 a1:=by
 delta X1f.F ln wI
 obtain⟨hwf,p1,p2⟩:=h
 have w1:a0.2.length≤9223372036854775807:=hwf.2
 simp only[Bs,B0,B1,Prod.mk.injEq,X04,X1T,X5g]
 repeat' (with_reducible (first | (refine And.intro ?_ ?_) | intro _))
 all_goals (try simp (disch:=omega) only[w64,wu8,tn0,tn1,tm1,tm2,List.length_append,List.length_cons,List.length_nil]at*)
 all_goals (try simp (disch:=omega) only[w64,wu8,tn0,tn1,tm1,tm2,List.length_append,List.length_cons,List.length_nil]at*)
 all_goals (try omega)
 all_goals (try grind[fSz])
theorem X1f.eq:EqS X3N Try.f92 [3] [] [] noL (fun i x=>X1f.F x.1 x.2):=by intro i x;kernel_rfl
theorem X1f.ok:X0I Try.prog 92 X3N:=X35 X1f.eq Try.func92 rfl (by kernel_rfl) fun i x h hi hw=>X1f.pure x.1 x.2 h hw
def X1f.e:GE:=⟨92,X3N,⟨_,Try.func92,rfl,rfl⟩,X1f.ok⟩
def X6a(x:List U4q)(left:Int):Prop:=WfD (.list T5q) x∧0≤left∧left≤1048576
def X3A(x:List U4q)(left:Int):Int:=fSz (nL X1T x) left
def X3i:Con:={A:=(.pair (.list T5q) (.int .i64)),shA:=[.one,.one],R:=(.int .i64),shR:=[(false,1)],pre:=fun _ a=>(X6a a.1 a.2),f:=some fun _ a=>((X3A a.1 a.2),((),()))}
def X0F.F(a0:(List U4q))(a1:Int):Prop:=(X03 (decide ((wI (a1 - (ln a0)))<(0:Int))) (Eq ((-1),((),())) ((X3A a0 a1),((),()))) (eS [(0,.val false [.lst T5q a0 none])] [(0,.val false [.lst T5q a0 none])]∧((szLI X1T a0 a1 (wI (a1 - (ln a0))) 0)∧∀(y1:(Int×Int)),(szLI X1T a0 a1 y1.1 y1.2)→(X03 (decide (y1.2<(ln a0))) (0≤y1.2∧(y1.2<(ln a0)∧((X8T ((List.getD a0 (tN y1.2) (0,[])).1,(List.getD a0 (tN y1.2) (0,[])).2) y1.1)∧∀r2,(Eq r2 ((X5g ((List.getD a0 (tN y1.2) (0,[])).1,(List.getD a0 (tN y1.2) (0,[])).2) y1.1),((),())))→(X03 (decide (r2.1<(0:Int))) (Eq ((-1),((),())) ((X3A a0 a1),((),()))) (eS [(0,.val false [.lst T5q a0 none])] [(0,.val false [.lst T5q a0 none])]∧(szLI X1T a0 a1 r2.1 (wI (y1.2+(1:Int))))∧(szLM a0 a1 r2.1 (wI (y1.2+(1:Int))))<(szLM a0 a1 y1.1 y1.2)))))) (Eq (y1.1,((),())) ((X3A a0 a1),((),())))))))
def X0F.L(a0:(List U4q))(a1:Int):Nat→Option X0l:=fun p=>Go.Proofs.Ytegmokdppbagiaa.Bv.look p [(122,{kp:={hold:=[0],slots:=[1,5],boxes:=[],rows:=[]},T:=T9q,I:=fun st y=>szLI X1T a0 a1 y.1 y.2,μ:=fun st y=>szLM a0 a1 y.1 y.2})]
theorem X0F.pure(a0:(List U4q))(a1:Int)(h:(X6a a0 a1))(hw:Wf X3i.A (a0,a1)):X0F.F a0 a1:=by
 delta X0F.F ln tN wI eS
 obtain⟨hwf,p1,p2⟩:=h
 have hw1:a0.length≤9223372036854775807:=hwf.1
 simp only[Bs,B0,B1,Prod.mk.injEq,X04,X3A]
 rw[w64 (x:=a1 - (a0.length:Int)) (by omega) (by omega)]
 refine⟨fun h1=>(Xbx (by unfold nL;omega)).symm,fun h1=>⟨⟨by omega,by omega,by omega,by rw[show Int.toNat 0=0 from rfl,XeH];omega⟩,?_⟩⟩
 rintro⟨left,i⟩ ⟨h2,h3,h4,h5⟩
 simp only at h2 h3 h4 h5 ⊢
 refine⟨fun hi=>?_,fun hi=>?_⟩
 · have hm:a0.getD i.toNat ((0:Int),([]:U7q))∈a0:=Xcv (by omega)
   have s1:=Xe3 X1T a0 ((0:Int),([]:U7q)) (i:=i.toNat) (by omega)
   have s2:=XfU X1T a0 (i.toNat+1)
   have hwx:WfD T5q (a0.getD i.toNat ((0:Int),([]:U7q))):=hwf.2 _ hm
   rw[w64 (x:=i+1) (by omega) (by omega)]
   simp only[X5g]
   by_cases hc:left<(X1T (a0.getD i.toNat ((0:Int),([]:U7q))):Int)
   · rw[Xbx hc]
     exact⟨h2,hi,⟨hwx,h4,by omega⟩,fun h6=>(Xbx (by unfold nL;omega)).symm,fun h6=>absurd (by decide) h6⟩
   · rw[Xc9 hc]
     exact⟨h2,hi,⟨hwx,h4,by omega⟩,fun h6=>by omega,fun h6=>⟨⟨by omega,by omega,by omega,by rw[tn1 h2];omega⟩,by unfold szLM;omega⟩⟩
 · have e:i.toNat=a0.length:=by omega
   rw[e]at h5
   rw[Xc9 (by unfold nL;omega)]
   unfold nL;omega
theorem X0F.eq:EqS X3i Try.f45 [3] [X1f.e] [] (fun i x=>X0F.L x.1 x.2) (fun i x=>X0F.F x.1 x.2):=by intro i x;kernel_rfl
theorem X0F.ok:X0I Try.prog 45 X3i:=X35 X0F.eq Try.func45 rfl (by kernel_rfl) fun i x h hi hw=>X0F.pure x.1 x.2 h hw
def X0F.e:GE:=⟨45,X3i,⟨_,Try.func45,rfl,rfl⟩,X0F.ok⟩
def X5Y(x:U4q):Prop:=X1T x≤1048576
def X5W(x:U4q):U4q:=x
def X3H:Con:={A:=T5q,shA:=[.agg 2],R:=T5q,shR:=[(true,2)],pre:=fun _ a=>(X5Y a),f:=some fun _ a=>((X5W a),((),()))}
def X1h.F(a0:U4q):Prop:=(Eq ((a0.1,a0.2),((),())) ((X5W a0),((),())))
theorem X1h.pure(a0:U4q)(h:(X5Y a0))(hw:Wf X3H.A a0):X1h.F a0:=by
 unfold X1h.F
 have hp:X1T a0≤1048576:=h
 simp only[X1T]at hp
 simp only[Bs,B0,B1,Prod.mk.injEq,X04,X1T,X5W,X5Y]
 repeat' (with_reducible (first | (refine And.intro ?_ ?_) | intro _))
 all_goals (try simp (disch:=omega) only[w64,wu8,tn0,tn1,tm1,tm2,List.length_append,List.length_cons,List.length_nil]at*)
 all_goals (try simp (disch:=omega) only[w64,wu8,tn0,tn1,tm1,tm2,List.length_append,List.length_cons,List.length_nil]at*)
 all_goals (try omega)
 all_goals (try grind[])
theorem X1h.eq:EqS X3H Try.f97 [101] [] [] noL (fun i x=>X1h.F x):=by intro i x;kernel_rfl
theorem X1h.ok:X0I Try.prog 97 X3H:=X35 X1h.eq Try.func97 rfl (by kernel_rfl) fun i x h hi hw=>X1h.pure x h hw
def X1h.e:GE:=⟨97,X3H,⟨_,Try.func97,rfl,rfl⟩,X1h.ok⟩
def X6l(x:List U4q):Prop:=nL X1T x≤1048576
def X5b(x:List U4q):List U4q:=x
def X3b:Con:={A:=(.list T5q),shA:=[.one],R:=(.list T5q),shR:=[(false,1)],fresh:=[(0,101)],pre:=fun _ a=>(X6l a),f:=some fun _ a=>((X5b a),((),()))}
def X0E.F(a0:(List U4q)):Prop:=(0≤(ln a0)∧((ln a0)≤(ln a0)∧((ln a0)≤9223372036854775807∧(((24:Nat):Int)*(ln a0)≤140737488355328∧(eS [(0,.val false [.lst T5q a0 none]),(3,.val false [.own T5q 1000387])] [(0,.val false [.lst T5q a0 none]),(3,.val false [.own T5q 1000387])]∧((cpI ((0:Int),([]:U7q)) a0 0 (List.replicate (tN (ln a0)) ((0:Int),([]:U7q))))∧∀(y1:(Int×(List U4q))),(cpI ((0:Int),([]:U7q)) a0 y1.1 y1.2)→(X03 (decide (y1.1<(ln a0))) (0≤y1.1∧(y1.1<(ln a0)∧((X5Y ((List.getD a0 (tN y1.1) (0,[])).1,(List.getD a0 (tN y1.1) (0,[])).2))∧∀r2,(Eq r2 ((X5W ((List.getD a0 (tN y1.1) (0,[])).1,(List.getD a0 (tN y1.1) (0,[])).2)),((),())))→(0≤y1.1∧(y1.1<(ln y1.2)∧(eS [(0,.val false [.lst T5q a0 none]),(3,.val false [.own T5q 1000387])] [(0,.val false [.lst T5q a0 none]),(3,.val false [.own T5q 1000387])]∧(cpI ((0:Int),([]:U7q)) a0 (wI (y1.1+(1:Int))) (List.set y1.2 (tN y1.1) (r2.1.1,r2.1.2)))∧(cpM a0 (wI (y1.1+(1:Int))) (List.set y1.2 (tN y1.1) (r2.1.1,r2.1.2)))<(cpM a0 y1.1 y1.2))))))) (Eq (y1.2,((),())) ((X5b a0),((),()))))))))))
def X0E.L(a0:(List U4q)):Nat→Option X0l:=fun p=>Go.Proofs.Ytegmokdppbagiaa.Bv.look p [(58,{kp:={hold:=[0,3],slots:=[4],boxes:=[],rows:=[{bx:=false,s:=3,i:=0,k:=1000387,e:=101,hot:=true}]},T:=(.pair (.int .i64) (.list T5q)),I:=fun st y=>cpI ((0:Int),([]:U7q)) a0 y.1 y.2,μ:=fun st y=>cpM a0 y.1 y.2})]
theorem X0E.pure(a0:(List U4q))(h:(X6l a0))(hw:Wf X3b.A a0):X0E.F a0:=by
 delta X0E.F ln tN wI eS
 have hb:a0.length≤1048576:=by have h1:nL X1T a0≤1048576:=h;unfold nL at h1;omega
 simp only[Bs,B0,B1,Prod.mk.injEq,X04,X5b]
 refine⟨by omega,by omega,by omega,by omega,⟨by omega,by omega,by simp⟩,?_⟩
 rintro⟨i,out⟩ hI
 simp only at hI ⊢
 refine⟨fun hi=>?_,fun hi=>XfB hI hi⟩
 have hl:=XfM hI
 have h3:=hI.2.1
 have h2:=hI.1
 have hp:X5Y (a0.getD i.toNat ((0:Int),([]:U7q))):=by
  have h1:nL X1T a0≤1048576:=h
  have hm:a0.getD i.toNat ((0:Int),([]:U7q))∈a0:=Xcv (by omega)
  show X1T _≤1048576
  have:=XgI X1T hm;omega
 rw[w64 (x:=i+1) (by omega) (by omega)]
 simp only[X5W,hl]
 exact⟨h2,hi,hp,h2,hi,XeA hI hi,by unfold cpM;omega⟩
theorem X0E.eq:EqS X3b Try.f50 [47] [X1h.e] [] (fun i x=>X0E.L x) (fun i x=>X0E.F x):=by intro i x;kernel_rfl
theorem X0E.ok:X0I Try.prog 50 X3b:=X35 X0E.eq Try.func50 rfl (by kernel_rfl) fun i x h hi hw=>X0E.pure x h hw
def X0E.e:GE:=⟨50,X3b,⟨_,Try.func50,rfl,rfl⟩,X0E.ok⟩
instance dec_Entry:DecidableEq U4q:=by(iterate 20 (all_goals (first | infer_instance | refine @instDecidableEqProd _ _ ?_ ?_)))
def X3Q(a b:U4q):Bool:=decide (a=b)
def X3D:Con:={A:=(.pair T5q T5q),shA:=[.agg 2,.agg 2],R:=.bool,shR:=[(false,1)],pre:=fun _ _=>True,f:=some fun _ a=>((X3Q a.1 a.2),((),()))}
def X1l.F(a0:U4q)(a1:U4q):Prop:=(X03 (a0.1 !=a1.1) (Eq (false,((),())) ((X3Q a0 a1),((),()))) (X03 (!(a0.2==a1.2)) (Eq (false,((),())) ((X3Q a0 a1),((),()))) (Eq (true,((),())) ((X3Q a0 a1),((),())))))
theorem X1l.pure(a0:U4q)(a1:U4q)(h:True)(hw:Wf X3D.A (a0,a1)):X1l.F a0 a1:=by
 unfold X1l.F
 obtain⟨x1,x2⟩:=a0
 obtain⟨y1,y2⟩:=a1
 simp only[Bs,B0,B1,Prod.mk.injEq,X04,X3Q]
 repeat' (first | (refine And.intro ?_ ?_) | intro _)
 all_goals simp_all
theorem X1l.eq:EqS X3D Try.f105 [4] [] [] noL (fun i x=>X1l.F x.1 x.2):=by intro i x;kernel_rfl
theorem X1l.ok:X0I Try.prog 105 X3D:=X35 X1l.eq Try.func105 rfl (by kernel_rfl) fun i x h hi hw=>X1l.pure x.1 x.2 h hw
def X1l.e:GE:=⟨105,X3D,⟨_,Try.func105,rfl,rfl⟩,X1l.ok⟩
def X1X(a b:List U4q):Bool:=decide (a=b)
def X3n:Con:={A:=(.pair (.list T5q) (.list T5q)),shA:=[.one,.one],R:=.bool,shR:=[(false,1)],pre:=fun _ _=>True,f:=some fun _ a=>((X1X a.1 a.2),((),()))}
def X0z.F(a0:(List U4q))(a1:(List U4q)):Prop:=(X03 ((ln a0)!=(ln a1)) (Eq (false,((),())) ((X1X a0 a1),((),()))) (eS [(0,.val false [.lst T5q a0 none]),(1,.val false [.lst T5q a1 none])] [(0,.val false [.lst T5q a0 none]),(1,.val false [.lst T5q a1 none])]∧((Xcb a0 a1 0)∧∀(y1:Int),(Xcb a0 a1 y1)→(X03 (decide (y1<(ln a0))) (0≤y1∧(y1<(ln a0)∧(0≤y1∧(y1<(ln a1)∧(True∧∀r2,(Eq r2 ((X3Q ((List.getD a0 (tN y1) (0,[])).1,(List.getD a0 (tN y1) (0,[])).2) ((List.getD a1 (tN y1) (0,[])).1,(List.getD a1 (tN y1) (0,[])).2)),((),())))→(X03 (!r2.1) (Eq (false,((),())) ((X1X a0 a1),((),()))) (eS [(0,.val false [.lst T5q a0 none]),(1,.val false [.lst T5q a1 none])] [(0,.val false [.lst T5q a0 none]),(1,.val false [.lst T5q a1 none])]∧(Xcb a0 a1 (wI (y1+(1:Int))))∧(XdE a0 a1 (wI (y1+(1:Int))))<(XdE a0 a1 y1)))))))) (Eq (true,((),())) ((X1X a0 a1),((),())))))))
def X0z.L(a0:(List U4q))(a1:(List U4q)):Nat→Option X0l:=fun p=>Go.Proofs.Ytegmokdppbagiaa.Bv.look p [(58,{kp:={hold:=[0,1],slots:=[5],boxes:=[],rows:=[]},T:=(.int .i64),I:=fun st y=>Xcb a0 a1 y,μ:=fun st y=>XdE a0 a1 y})]
theorem X0z.pure(a0:(List U4q))(a1:(List U4q))(h:True)(hw:Wf X3n.A (a0,a1)):X0z.F a0 a1:=by
 delta X0z.F ln tN wI eS
 have hw1:a0.length≤9223372036854775807:=hw.1.1
 simp only[Bs,B0,B1,Prod.mk.injEq,X04]
 refine⟨fun h1=>?_,fun h1=>?_⟩
 · have:a0≠a1:=fun e=>by subst e;simp at h1
   simp[X1X,this]
 have hl:a0.length=a1.length:=by omega
 refine⟨⟨by omega,by omega,hl,by simp⟩,?_⟩
 rintro i hI
 have h2:=hI.1
 have h3:=hI.2.1
 refine⟨fun hi=>⟨h2,hi,h2,by omega,fun hne=>?_,fun he=>?_⟩,fun hi=>?_⟩
 · have:a0≠a1:=fun e=>by subst e;simp[X3Q]at hne
   simp[X1X,this]
 · have hg:a0.getD i.toNat ((0:Int),([]:U7q))=a1.getD i.toNat ((0:Int),([]:U7q)):=by simpa only[X3Q,decide_eq_true_eq] using he
   rw[w64 (x:=i+1) (by omega) (by omega)]
   exact⟨Xaq hI hi hg,by unfold XdE;omega⟩
 · have h6:=XbK hI hi
   simp[X1X,h6]
theorem X0z.eq:EqS X3n Try.f56 [4] [X1l.e] [] (fun i x=>X0z.L x.1 x.2) (fun i x=>X0z.F x.1 x.2):=by intro i x;kernel_rfl
theorem X0z.ok:X0I Try.prog 56 X3n:=X35 X0z.eq Try.func56 rfl (by kernel_rfl) fun i x h hi hw=>X0z.pure x.1 x.2 h hw
def X0z.e:GE:=⟨56,X3n,⟨_,Try.func56,rfl,rfl⟩,X0z.ok⟩
def X09(x:U4q):Int:=1+1
def X40(x:U4q)(k:Int):U4q:=(k,(fMT (k+1)))
def X3w(x:U4q)(k:Int):Bool:=(decide (x.1=k))&&(decide (x.2=fMT (k+1)))
theorem X8c:∀(x:U4q) (k:Int),X3w (X40 x k) k=true∧X09 (X40 x k)=X09 x:=fun x k=>by
 simp[X3w,X40,X09]
theorem X2c:∀x:U4q,0≤X09 x:=fun x=>by
 unfold X09;omega
def X1J(l:List U4q)(k:Int):Prop:=0≤k∧k+cL X09 l≤4611686018427387904
def X2i(l:List U4q)(k:Int):Int×List U4q:=(k+cL X09 l,mL X09 X40 l k)
def X2v:Con:={A:=(.pair (.list T5q) (.int .i64)),shA:=[.one,.one],backA:=[(0,101)],B:=(.list T5q),R:=(.int .i64),shR:=[(false,1)],pre:=fun _ a=>(X1J a.1 a.2),f:=some fun _ a=>((X2i a.1 a.2).1,((),(X2i a.1 a.2).2))}
def X0i.F(a0:(List U4q))(a1:Int):Prop:=(eS [(0,.val false [.own T5q 2])] [(0,.val false [.own T5q 2])]∧((mkI X09 X40 a0 a1 a1 0 a0)∧∀(y1:(Int×(Int×(List U4q)))),(mkI X09 X40 a0 a1 y1.1 y1.2.1 y1.2.2)→(X03 (decide (y1.2.1<(ln y1.2.2))) (0≤y1.2.1∧(y1.2.1<(ln y1.2.2)∧((pMT (wI (y1.1+(1:Int))))∧∀r2,(Eq r2 ((fMT (wI (y1.1+(1:Int)))),((),())))→(0≤y1.2.1∧(y1.2.1<(ln (List.set y1.2.2 (tN y1.2.1) (y1.1,(List.getD y1.2.2 (tN y1.2.1) (0,[])).2)))∧(eS [(0,.val false [.own T5q 2])] [(0,.val false [.own T5q 2])]∧(mkI X09 X40 a0 a1 (wI ((wI (y1.1+(1:Int)))+(1:Int))) (wI (y1.2.1+(1:Int))) (List.set (List.set y1.2.2 (tN y1.2.1) (y1.1,(List.getD y1.2.2 (tN y1.2.1) (0,[])).2)) (tN y1.2.1) ((List.getD (List.set y1.2.2 (tN y1.2.1) (y1.1,(List.getD y1.2.2 (tN y1.2.1) (0,[])).2)) (tN y1.2.1) (0,[])).1,r2.1)))∧(mkM a0 a1 (wI ((wI (y1.1+(1:Int)))+(1:Int))) (wI (y1.2.1+(1:Int))) (List.set (List.set y1.2.2 (tN y1.2.1) (y1.1,(List.getD y1.2.2 (tN y1.2.1) (0,[])).2)) (tN y1.2.1) ((List.getD (List.set y1.2.2 (tN y1.2.1) (y1.1,(List.getD y1.2.2 (tN y1.2.1) (0,[])).2)) (tN y1.2.1) (0,[])).1,r2.1)))<(mkM a0 a1 y1.1 y1.2.1 y1.2.2))))))) (Eq (y1.1,((),y1.2.2)) ((X2i a0 a1).1,((),(X2i a0 a1).2))))))
def X0i.L(a0:(List U4q))(a1:Int):Nat→Option X0l:=fun p=>Go.Proofs.Ytegmokdppbagiaa.Bv.look p [(26,{kp:={hold:=[0],slots:=[1,5],boxes:=[],rows:=[{bx:=false,s:=0,i:=0,k:=2,e:=101,hot:=true}]},T:=(.pair (.int .i64) (.pair (.int .i64) (.list T5q))),I:=fun st y=>mkI X09 X40 a0 a1 y.1 y.2.1 y.2.2,μ:=fun st y=>mkM a0 a1 y.1 y.2.1 y.2.2})]
theorem X0i.pure(a0:(List U4q))(a1:Int)(h:(X1J a0 a1))(hw:Wf X2v.A (a0,a1)):X0i.F a0 a1:=by
 delta X0i.F ln tN wI eS
 obtain⟨p1,p2⟩:=h
 have hw1:a0.length≤9223372036854775807:=hw.1.1
 simp only[Bs,B0,B1,Prod.mk.injEq,X04]
 refine⟨⟨by omega,by omega,by simp[cL],by simp[mL]⟩,?_⟩
 rintro⟨k,i,l⟩ hI
 simp only at hI ⊢
 have hl:=Xes hI
 have h2:=hI.1
 have h3:=hI.2
 refine⟨fun hi0=>?_,fun hi0=>?_⟩
 · have hi:i<(a0.length:Int):=by omega
   have hi':i.toNat<l.length:=by omega
   have hg:=Xgf (d:=((0:Int),([]:U7q))) hI hi
   have hs:=X4M X09 ((0:Int),([]:U7q)) (l:=a0) (i:=i.toNat) (by omega)
   have hk:=hI.3
   have c1:=X1L X2c (a0.take i.toNat)
   have c2:=X1L X2c (a0.drop (i.toNat+1))
   have c3:=X2c (a0.getD i.toNat ((0:Int),([]:U7q)))
   have hmod:Int.tmod k 3=k % 3:=Int.tmod_eq_emod_of_nonneg (by omega)
   have hc:X09 (a0.getD i.toNat ((0:Int),([]:U7q)))=X09 (a0.getD i.toNat ((0:Int),([]:U7q))):=rfl
   conv at hc=>rhs;unfold X09
   try simp only[hg,X1q hi',List.set_set,List.length_set]
   try simp (disch:=first | omega | simp_all) only[X1q,List.set_set,List.length_set,hg,w64,pMT]
   repeat' (with_reducible (first | (refine And.intro ?_ ?_) | intro _))
   all_goals (try simp+zetaDelta (disch:=first | omega | simp_all) only[hg,X1q,List.set_set,List.length_set,w64,pMT])
   all_goals (first | omega | exact XbX (d:=((0:Int),([]:U7q))) hI hi (by simp[X40,hmod]) (by omega) | (unfold mkM;omega) | skip)
 · obtain⟨e1,e2⟩:=Xeq hI (by omega)
   exact⟨e1,e2⟩
theorem X0i.eq:EqS X2v Try.f59 [3] [X0o.e] [] (fun i x=>X0i.L x.1 x.2) (fun i x=>X0i.F x.1 x.2):=by intro i x;kernel_rfl
theorem X0i.ok:X0I Try.prog 59 X2v:=X35 X0i.eq Try.func59 rfl (by kernel_rfl) fun i x h hi hw=>X0i.pure x.1 x.2 h hw
def X0i.e:GE:=⟨59,X2v,⟨_,Try.func59,rfl,rfl⟩,X0i.ok⟩
def X2t(l:List U4q)(k:Int):Int:=fHd (cL X09 l) (oL X09 X3w l k) k
def X2u:Con:={A:=(.pair (.list T5q) (.int .i64)),shA:=[.one,.one],R:=(.int .i64),shR:=[(false,1)],pre:=fun _ a=>(X1J a.1 a.2),f:=some fun _ a=>((X2t a.1 a.2),((),()))}
def X0h.F(a0:(List U4q))(a1:Int):Prop:=(eS [(0,.val false [.lst T5q a0 none])] [(0,.val false [.lst T5q a0 none])]∧((hdI X09 X3w a0 a1 a1 0)∧∀(y1:(Int×Int)),(hdI X09 X3w a0 a1 y1.1 y1.2)→(X03 (decide (y1.2<(ln a0))) (0≤y1.2∧(y1.2<(ln a0)∧(X03 (((List.getD a0 (tN y1.2) (0,[])).1)!=y1.1) (Eq ((-1),((),())) ((X2t a0 a1),((),()))) (0≤y1.2∧(y1.2<(ln a0)∧((pMT (wI (y1.1+(1:Int))))∧∀r2,(Eq r2 ((fMT (wI (y1.1+(1:Int)))),((),())))→(X03 (!(((List.getD a0 (tN y1.2) (0,[])).2)==r2.1)) (Eq ((-1),((),())) ((X2t a0 a1),((),()))) (eS [(0,.val false [.lst T5q a0 none])] [(0,.val false [.lst T5q a0 none])]∧(hdI X09 X3w a0 a1 (wI ((wI (y1.1+(1:Int)))+(1:Int))) (wI (y1.2+(1:Int))))∧(hdM a0 a1 (wI ((wI (y1.1+(1:Int)))+(1:Int))) (wI (y1.2+(1:Int))))<(hdM a0 a1 y1.1 y1.2))))))))) (Eq (y1.1,((),())) ((X2t a0 a1),((),()))))))
def X0h.L(a0:(List U4q))(a1:Int):Nat→Option X0l:=fun p=>Go.Proofs.Ytegmokdppbagiaa.Bv.look p [(26,{kp:={hold:=[0],slots:=[1,5],boxes:=[],rows:=[]},T:=T9q,I:=fun st y=>hdI X09 X3w a0 a1 y.1 y.2,μ:=fun st y=>hdM a0 a1 y.1 y.2})]
theorem X0h.pure(a0:(List U4q))(a1:Int)(h:(X1J a0 a1))(hw:Wf X2u.A (a0,a1)):X0h.F a0 a1:=by
 delta X0h.F ln tN wI eS
 obtain⟨p1,p2⟩:=h
 have hw1:a0.length≤9223372036854775807:=hw.1.1
 simp only[Bs,B0,B1,Prod.mk.injEq,X04]
 refine⟨⟨by omega,by omega,by simp[cL],by simp⟩,?_⟩
 rintro⟨k,i⟩ hI
 simp only at hI ⊢
 have h2:=hI.1
 have h3:=hI.2
 refine⟨fun hi=>?_,fun hi=>Xek hI hi⟩
 · have hs:=X4M X09 ((0:Int),([]:U7q)) (l:=a0) (i:=i.toNat) (by omega)
   have hk:=hI.3
   have c1:=X1L X2c (a0.take i.toNat)
   have c2:=X1L X2c (a0.drop (i.toNat+1))
   have c3:=X2c (a0.getD i.toNat ((0:Int),([]:U7q)))
   have hmod:Int.tmod k 3=k % 3:=Int.tmod_eq_emod_of_nonneg (by omega)
   have no:X3w (a0.getD i.toNat ((0:Int),([]:U7q))) k=false→-1=X2t a0 a1:=fun ho=>Xgx ((0:Int),([]:U7q)) hI hi ho
   have yes:X3w (a0.getD i.toNat ((0:Int),([]:U7q))) k=true→hdI X09 X3w a0 a1 (k+X09 (a0.getD i.toNat ((0:Int),([]:U7q)))) (i+1):=fun ho=>Xca ((0:Int),([]:U7q)) hI hi ho rfl
   generalize a0.getD i.toNat ((0:Int),([]:U7q))=x at*
   have hc:X09 x=X09 x:=rfl
   conv at hc=>rhs;unfold X09
   simp only[X3w]at no yes
   simp (disch:=omega) only[w64,pMT]
   repeat' (with_reducible (first | (refine And.intro ?_ ?_) | intro _))
   all_goals (first | omega | (unfold hdM;omega) | skip)
   all_goals (try simp (disch:=first | omega | assumption) only[X3Y,X2Q,w64,Bool.not_eq_false]at*)
   all_goals (try simp (disch:=first | omega | assumption) only[X3Y,X2Q,w64,Bool.not_eq_false]at*)
   all_goals (first | omega | grind)
theorem X0h.eq:EqS X2u Try.f62 [3] [X0o.e] [] (fun i x=>X0h.L x.1 x.2) (fun i x=>X0h.F x.1 x.2):=by intro i x;kernel_rfl
theorem X0h.ok:X0I Try.prog 62 X2u:=X35 X0h.eq Try.func62 rfl (by kernel_rfl) fun i x h hi hw=>X0h.pure x.1 x.2 h hw
def X0h.e:GE:=⟨62,X2u,⟨_,Try.func62,rfl,rfl⟩,X0h.ok⟩
end Go.Proofs.Ytegmokdppbagiaa.B
