/- Values of the type Series:how large,the same,marked. -/
import Derived.Test.YtcfaphojdacmbaaGreatRCTypes
import Derived.Test.YtcfaphojdacmbaaGreatRCTPoint
set_option maxRecDepth 100000
set_option linter.unusedVariables false
set_option linter.unusedSimpArgs false
namespace Go.Proofs.YtcfaphojdacmbaaGreatR.B
open Go Go.Proofs.YtcfaphojdacmbaaGreatR.Bv
def Xpw(x:(U5q×U6q)):Nat:=(x.1.length)+(List.length x.2)
def Xoy.L(a0:U1q)(a1:Int):Nat→Option X0e:=fun p=>Go.Proofs.YtcfaphojdacmbaaGreatR.Bv.look p [(122,{kp:={hold:=[0],slots:=[1,5],boxes:=[],rows:=[]},T:=T0q,I:=fun st y=>szLI Xpw a0 a1 y.1 y.2,μ:=fun st y=>szLM a0 a1 y.1 y.2})]
def XoE.L(a0:U1q):Nat→Option X0e:=fun p=>Go.Proofs.YtcfaphojdacmbaaGreatR.Bv.look p [(58,{kp:={hold:=[0,3],slots:=[4],boxes:=[],rows:=[{bx:=false,s:=3,i:=0,k:=1000387,e:=83,hot:=true}]},T:=(.pair (.int .i64) X5X),I:=fun st y=>cpI (([]:U5q),([]:U6q)) a0 y.1 y.2,μ:=fun st y=>cpM a0 y.1 y.2})]
instance dec_Series:DecidableEq (U5q×U6q):=by(iterate 20 (all_goals (first | infer_instance | refine @instDecidableEqProd _ _ ?_ ?_)))
def X6H(a b:(U5q×U6q)):Bool:=decide (a=b)
def X7o:Con:={A:=(.pair T4q T4q),shA:=[.agg 2,.agg 2],R:=.bool,shR:=[(false,1)],pre:=fun _ _=>True,f:=some fun _ a=>((X6H a.1 a.2),((),()))}
def X2T.F(a0:(U5q×U6q))(a1:(U5q×U6q)):Prop:=(X00 (!(a0.1==a1.1)) (Eq (false,((),())) ((X6H a0 a1),((),()))) (True∧∀r1,(Eq r1 ((X5v a0.2 a1.2),((),())))→(X00 (!r1.1) (Eq (false,((),())) ((X6H a0 a1),((),()))) (Eq (true,((),())) ((X6H a0 a1),((),()))))))
theorem X2T.pure(a0:(U5q×U6q))(a1:(U5q×U6q))(h:True)(hw:Wf X7o.A (a0,a1)):X2T.F a0 a1:=by
 unfold X2T.F
 obtain⟨x1,x2⟩:=a0
 obtain⟨y1,y2⟩:=a1
 simp only[Bs,B0,B1,Prod.mk.injEq,X01,X6H,X5v]
 repeat' (first | (refine And.intro ?_ ?_) | intro _)
 all_goals simp_all
theorem X2T.eq:EqS X7o Tryz.f214 [4] [X29.e] [] noL (fun i x=>X2T.F x.1 x.2):=by intro i x;kernel_rfl
theorem X2T.ok:X0k Tryz.prog 214 X7o:=X1Z X2T.eq Tryz.func214 rfl (by kernel_rfl) fun i x h hi hw=>X2T.pure x.1 x.2 h hw
def X2T.e:GE:=⟨214,X7o,⟨_,Tryz.func214,rfl,rfl⟩,X2T.ok⟩
def X4B(a b:List (U5q×U6q)):Bool:=decide (a=b)
def X6c:Con:={A:=(.pair X5X X5X),shA:=[.one,.one],R:=.bool,shR:=[(false,1)],pre:=fun _ _=>True,f:=some fun _ a=>((X4B a.1 a.2),((),()))}
def X1H.F(a0:U1q)(a1:U1q):Prop:=(X00 ((ln a0)!=(ln a1)) (Eq (false,((),())) ((X4B a0 a1),((),()))) (eS [(0,.val false [.lst T4q a0 none]),(1,.val false [.lst T4q a1 none])] [(0,.val false [.lst T4q a0 none]),(1,.val false [.lst T4q a1 none])]∧((XeQ a0 a1 0)∧∀(y1:Int),(XeQ a0 a1 y1)→(X00 (decide (y1<(ln a0))) (0≤y1∧(y1<(ln a0)∧(0≤y1∧(y1<(ln a1)∧(True∧∀r2,(Eq r2 ((X6H ((List.getD a0 (tN y1) ([],[])).1,(List.getD a0 (tN y1) ([],[])).2) ((List.getD a1 (tN y1) ([],[])).1,(List.getD a1 (tN y1) ([],[])).2)),((),())))→(X00 (!r2.1) (Eq (false,((),())) ((X4B a0 a1),((),()))) (eS [(0,.val false [.lst T4q a0 none]),(1,.val false [.lst T4q a1 none])] [(0,.val false [.lst T4q a0 none]),(1,.val false [.lst T4q a1 none])]∧(XeQ a0 a1 (wI (y1+(1:Int))))∧(XgD a0 a1 (wI (y1+(1:Int))))<(XgD a0 a1 y1)))))))) (Eq (true,((),())) ((X4B a0 a1),((),())))))))
def X1H.L(a0:U1q)(a1:U1q):Nat→Option X0e:=fun p=>Go.Proofs.YtcfaphojdacmbaaGreatR.Bv.look p [(58,{kp:={hold:=[0,1],slots:=[5],boxes:=[],rows:=[]},T:=(.int .i64),I:=fun st y=>XeQ a0 a1 y,μ:=fun st y=>XgD a0 a1 y})]
theorem X1H.pure(a0:U1q)(a1:U1q)(h:True)(hw:Wf X6c.A (a0,a1)):X1H.F a0 a1:=by
 delta X1H.F ln tN wI eS
 have hw1:a0.length≤9223372036854775807:=hw.1.1
 simp only[Bs,B0,B1,Prod.mk.injEq,X01]
 refine⟨fun h1=>?_,fun h1=>?_⟩
 · have:a0≠a1:=fun e=>by subst e;simp at h1
   simp[X4B,this]
 have hl:a0.length=a1.length:=by omega
 refine⟨⟨by omega,by omega,hl,by simp⟩,?_⟩
 rintro i hI
 have h2:=hI.1
 have h3:=hI.2.1
 refine⟨fun hi=>⟨h2,hi,h2,by omega,fun hne=>?_,fun he=>?_⟩,fun hi=>?_⟩
 · have:a0≠a1:=fun e=>by subst e;simp[X6H]at hne
   simp[X4B,this]
 · have hg:a0.getD i.toNat (([]:U5q),([]:U6q))=a1.getD i.toNat (([]:U5q),([]:U6q)):=by simpa only[X6H,decide_eq_true_eq] using he
   rw[w64 (x:=i+1) (by omega) (by omega)]
   exact⟨Xcz hI hi hg,by unfold XgD;omega⟩
 · have h6:=Xf8 hI hi
   simp[X4B,h6]
theorem X1H.eq:EqS X6c Tryz.f144 [4] [X2T.e] [] (fun i x=>X1H.L x.1 x.2) (fun i x=>X1H.F x.1 x.2):=by intro i x;kernel_rfl
theorem X1H.ok:X0k Tryz.prog 144 X6c:=X1Z X1H.eq Tryz.func144 rfl (by kernel_rfl) fun i x h hi hw=>X1H.pure x.1 x.2 h hw
def X1H.e:GE:=⟨144,X6c,⟨_,Tryz.func144,rfl,rfl⟩,X1H.ok⟩
def X0p(x:(U5q×U6q)):Int:=1+cL X16 x.2
def X6o(x:(U5q×U6q))(k:Int):(U5q×U6q):=((fMT k),(mL X16 X9V x.2 (k+1)))
def X5I(x:(U5q×U6q))(k:Int):Bool:=(decide (x.1=fMT k))&&(oL X16 X8p x.2 (k+1))
theorem XiV:∀(x:(U5q×U6q)) (k:Int),X5I (X6o x k) k=true∧X0p (X6o x k)=X0p x:=fun x k=>by
 simp[X5I,X6o,X0p,(Xfb XkC _ _).1,(Xfb XkC _ _).2]
theorem X4q:∀x:(U5q×U6q),0≤X0p x:=fun x=>by
 have p0:=fun l=>X2z X70 l
 have q0:=p0 x.2
 unfold X0p;omega
def X5i(l:List (U5q×U6q))(k:Int):Prop:=0≤k∧k+cL X0p l≤4611686018427387904
def X6A(l:List (U5q×U6q))(k:Int):Int×List (U5q×U6q):=(k+cL X0p l,mL X0p X6o l k)
def X55:Con:={A:=(.pair X5X (.int .i64)),shA:=[.one,.one],backA:=[(0,83)],B:=X5X,R:=(.int .i64),shR:=[(false,1)],pre:=fun _ a=>(X5i a.1 a.2),f:=some fun _ a=>((X6A a.1 a.2).1,((),(X6A a.1 a.2).2))}
def X0V.F(a0:U1q)(a1:Int):Prop:=(eS [(0,.val false [.own T4q 2])] [(0,.val false [.own T4q 2])]∧((mkI X0p X6o a0 a1 a1 0 a0)∧∀(y1:(Int×(Int×U1q))),(mkI X0p X6o a0 a1 y1.1 y1.2.1 y1.2.2)→(X00 (decide (y1.2.1<(ln y1.2.2))) ((pMT y1.1)∧∀r2,(Eq r2 ((fMT y1.1),((),())))→(0≤y1.2.1∧(y1.2.1<(ln y1.2.2)∧(0≤y1.2.1∧(y1.2.1<(ln (List.set y1.2.2 (tN y1.2.1) (r2.1,(List.getD y1.2.2 (tN y1.2.1) ([],[])).2)))∧((X6M ((List.getD (List.set y1.2.2 (tN y1.2.1) (r2.1,(List.getD y1.2.2 (tN y1.2.1) ([],[])).2)) (tN y1.2.1) ([],[])).2) (wI (y1.1+(1:Int))))∧∀r3,(Eq r3 ((X7O ((List.getD (List.set y1.2.2 (tN y1.2.1) (r2.1,(List.getD y1.2.2 (tN y1.2.1) ([],[])).2)) (tN y1.2.1) ([],[])).2) (wI (y1.1+(1:Int)))).1,((),(X7O ((List.getD (List.set y1.2.2 (tN y1.2.1) (r2.1,(List.getD y1.2.2 (tN y1.2.1) ([],[])).2)) (tN y1.2.1) ([],[])).2) (wI (y1.1+(1:Int)))).2)))→(eS [(0,.val false [.own T4q 2])] [(0,.val false [.own T4q 2])]∧(mkI X0p X6o a0 a1 r3.1 (wI (y1.2.1+(1:Int))) (List.set (List.set y1.2.2 (tN y1.2.1) (r2.1,(List.getD y1.2.2 (tN y1.2.1) ([],[])).2)) (tN y1.2.1) ((List.getD (List.set y1.2.2 (tN y1.2.1) (r2.1,(List.getD y1.2.2 (tN y1.2.1) ([],[])).2)) (tN y1.2.1) ([],[])).1,r3.2.2)))∧(mkM a0 a1 r3.1 (wI (y1.2.1+(1:Int))) (List.set (List.set y1.2.2 (tN y1.2.1) (r2.1,(List.getD y1.2.2 (tN y1.2.1) ([],[])).2)) (tN y1.2.1) ((List.getD (List.set y1.2.2 (tN y1.2.1) (r2.1,(List.getD y1.2.2 (tN y1.2.1) ([],[])).2)) (tN y1.2.1) ([],[])).1,r3.2.2)))<(mkM a0 a1 y1.1 y1.2.1 y1.2.2)))))))) (Eq (y1.1,((),y1.2.2)) ((X6A a0 a1).1,((),(X6A a0 a1).2))))))
def X0V.L(a0:U1q)(a1:Int):Nat→Option X0e:=fun p=>Go.Proofs.YtcfaphojdacmbaaGreatR.Bv.look p [(26,{kp:={hold:=[0],slots:=[1,5],boxes:=[],rows:=[{bx:=false,s:=0,i:=0,k:=2,e:=83,hot:=true}]},T:=(.pair (.int .i64) (.pair (.int .i64) X5X)),I:=fun st y=>mkI X0p X6o a0 a1 y.1 y.2.1 y.2.2,μ:=fun st y=>mkM a0 a1 y.1 y.2.1 y.2.2})]
theorem X0V.pure(a0:U1q)(a1:Int)(h:(X5i a0 a1))(hw:Wf X55.A (a0,a1)):X0V.F a0 a1:=by
 delta X0V.F ln tN wI eS
 obtain⟨p1,p2⟩:=h
 have hw1:a0.length≤9223372036854775807:=hw.1.1
 simp only[Bs,B0,B1,Prod.mk.injEq,X01]
 refine⟨⟨by omega,by omega,by simp[cL],by simp[mL]⟩,?_⟩
 rintro⟨k,i,l⟩ hI
 simp only at hI ⊢
 have hl:=XiD hI
 have h2:=hI.1
 have h3:=hI.2
 refine⟨fun hi0=>?_,fun hi0=>?_⟩
 · have hi:i<(a0.length:Int):=by omega
   have hi':i.toNat<l.length:=by omega
   have hg:=Xmy (d:=(([]:U5q),([]:U6q))) hI hi
   have hs:=X4a X0p (([]:U5q),([]:U6q)) (l:=a0) (i:=i.toNat) (by omega)
   have hk:=hI.3
   have c1:=X2z X4q (a0.take i.toNat)
   have c2:=X2z X4q (a0.drop (i.toNat+1))
   have c3:=X4q (a0.getD i.toNat (([]:U5q),([]:U6q)))
   have q0:=X2z X70
   have r0:=q0 (a0.getD i.toNat (([]:U5q),([]:U6q))).2
   have hmod:Int.tmod k 3=k % 3:=Int.tmod_eq_emod_of_nonneg (by omega)
   have hc:X0p (a0.getD i.toNat (([]:U5q),([]:U6q)))=X0p (a0.getD i.toNat (([]:U5q),([]:U6q))):=rfl
   conv at hc=>rhs;unfold X0p
   try simp only[hg,X1r hi',List.set_set,List.length_set,X7O,X6M]
   try simp (disch:=first | omega | simp_all) only[X1r,List.set_set,List.length_set,hg,w64,pMT]
   repeat' (with_reducible (first | (refine And.intro ?_ ?_) | intro _))
   all_goals (try simp+zetaDelta (disch:=first | omega | simp_all) only[hg,X1r,List.set_set,List.length_set,w64,pMT])
   all_goals (first | omega | exact XfE (d:=(([]:U5q),([]:U6q))) hI hi (by simp[X6o,hmod]) (by omega) | (unfold mkM;omega) | skip)
 · obtain⟨e1,e2⟩:=Xi5 hI (by omega)
   exact⟨e1,e2⟩
theorem X0V.eq:EqS X55 Tryz.f147 [3] [X0M.e,X1c.e] [] (fun i x=>X0V.L x.1 x.2) (fun i x=>X0V.F x.1 x.2):=by intro i x;kernel_rfl
theorem X0V.ok:X0k Tryz.prog 147 X55:=X1Z X0V.eq Tryz.func147 rfl (by kernel_rfl) fun i x h hi hw=>X0V.pure x.1 x.2 h hw
def X0V.e:GE:=⟨147,X55,⟨_,Tryz.func147,rfl,rfl⟩,X0V.ok⟩
def X6x(l:List (U5q×U6q))(k:Int):Int:=fHd (cL X0p l) (oL X0p X5I l k) k
def X53:Con:={A:=(.pair X5X (.int .i64)),shA:=[.one,.one],R:=(.int .i64),shR:=[(false,1)],pre:=fun _ a=>(X5i a.1 a.2),f:=some fun _ a=>((X6x a.1 a.2),((),()))}
def X0R.F(a0:U1q)(a1:Int):Prop:=(eS [(0,.val false [.lst T4q a0 none])] [(0,.val false [.lst T4q a0 none])]∧((hdI X0p X5I a0 a1 a1 0)∧∀(y1:(Int×Int)),(hdI X0p X5I a0 a1 y1.1 y1.2)→(X00 (decide (y1.2<(ln a0))) (0≤y1.2∧(y1.2<(ln a0)∧((pMT y1.1)∧∀r2,(Eq r2 ((fMT y1.1),((),())))→(X00 (!(((List.getD a0 (tN y1.2) ([],[])).1)==r2.1)) (Eq ((-1),((),())) ((X6x a0 a1),((),()))) (0≤y1.2∧(y1.2<(ln a0)∧((X6M ((List.getD a0 (tN y1.2) ([],[])).2) (wI (y1.1+(1:Int))))∧∀r3,(Eq r3 ((X7N ((List.getD a0 (tN y1.2) ([],[])).2) (wI (y1.1+(1:Int)))),((),())))→(X00 (decide (r3.1<(0:Int))) (Eq ((-1),((),())) ((X6x a0 a1),((),()))) (eS [(0,.val false [.lst T4q a0 none])] [(0,.val false [.lst T4q a0 none])]∧(hdI X0p X5I a0 a1 r3.1 (wI (y1.2+(1:Int))))∧(hdM a0 a1 r3.1 (wI (y1.2+(1:Int))))<(hdM a0 a1 y1.1 y1.2)))))))))) (Eq (y1.1,((),())) ((X6x a0 a1),((),()))))))
def X0R.L(a0:U1q)(a1:Int):Nat→Option X0e:=fun p=>Go.Proofs.YtcfaphojdacmbaaGreatR.Bv.look p [(26,{kp:={hold:=[0],slots:=[1,5],boxes:=[],rows:=[]},T:=T0q,I:=fun st y=>hdI X0p X5I a0 a1 y.1 y.2,μ:=fun st y=>hdM a0 a1 y.1 y.2})]
theorem X0R.pure(a0:U1q)(a1:Int)(h:(X5i a0 a1))(hw:Wf X53.A (a0,a1)):X0R.F a0 a1:=by
 delta X0R.F ln tN wI eS
 obtain⟨p1,p2⟩:=h
 have hw1:a0.length≤9223372036854775807:=hw.1.1
 simp only[Bs,B0,B1,Prod.mk.injEq,X01]
 refine⟨⟨by omega,by omega,by simp[cL],by simp⟩,?_⟩
 rintro⟨k,i⟩ hI
 simp only at hI ⊢
 have h2:=hI.1
 have h3:=hI.2
 refine⟨fun hi=>?_,fun hi=>XiA hI hi⟩
 · have hs:=X4a X0p (([]:U5q),([]:U6q)) (l:=a0) (i:=i.toNat) (by omega)
   have hk:=hI.3
   have c1:=X2z X4q (a0.take i.toNat)
   have c2:=X2z X4q (a0.drop (i.toNat+1))
   have c3:=X4q (a0.getD i.toNat (([]:U5q),([]:U6q)))
   have q0:=X2z X70
   have r0:=q0 (a0.getD i.toNat (([]:U5q),([]:U6q))).2
   have hmod:Int.tmod k 3=k % 3:=Int.tmod_eq_emod_of_nonneg (by omega)
   have no:X5I (a0.getD i.toNat (([]:U5q),([]:U6q))) k=false→-1=X6x a0 a1:=fun ho=>Xo2 (([]:U5q),([]:U6q)) hI hi ho
   have yes:X5I (a0.getD i.toNat (([]:U5q),([]:U6q))) k=true→hdI X0p X5I a0 a1 (k+X0p (a0.getD i.toNat (([]:U5q),([]:U6q)))) (i+1):=fun ho=>Xff (([]:U5q),([]:U6q)) hI hi ho rfl
   generalize a0.getD i.toNat (([]:U5q),([]:U6q))=x at*
   have hc:X0p x=X0p x:=rfl
   conv at hc=>rhs;unfold X0p
   simp only[X5I]at no yes
   simp (disch:=omega) only[w64,pMT,X7N,X6M]
   repeat' (with_reducible (first | (refine And.intro ?_ ?_) | intro _))
   all_goals (first | omega | (unfold hdM;omega) | skip)
   all_goals (try simp (disch:=first | omega | assumption) only[X42,X3I,w64,Bool.not_eq_false]at*)
   all_goals (try simp (disch:=first | omega | assumption) only[X42,X3I,w64,Bool.not_eq_false]at*)
   all_goals (first | omega | grind)
theorem X0R.eq:EqS X53 Tryz.f150 [3] [X0M.e,X1f.e] [] (fun i x=>X0R.L x.1 x.2) (fun i x=>X0R.F x.1 x.2):=by intro i x;kernel_rfl
theorem X0R.ok:X0k Tryz.prog 150 X53:=X1Z X0R.eq Tryz.func150 rfl (by kernel_rfl) fun i x h hi hw=>X0R.pure x.1 x.2 h hw
def X0R.e:GE:=⟨150,X53,⟨_,Tryz.func150,rfl,rfl⟩,X0R.ok⟩
end Go.Proofs.YtcfaphojdacmbaaGreatR.B
