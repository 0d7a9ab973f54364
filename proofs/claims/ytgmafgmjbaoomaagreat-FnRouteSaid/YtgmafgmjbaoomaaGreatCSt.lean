/- States:right or not. -/
import Derived.Test.YtgmafgmjbaoomaaGreatCEngE
import Derived.Test.YtgmafgmjbaoomaaGreatCTypes
set_option maxRecDepth 100000
set_option linter.unusedVariables false
set_option linter.unusedSimpArgs false
namespace Go.Proofs.YtgmafgmjbaoomaaGreat.B
open Go Go.Proofs.YtgmafgmjbaoomaaGreat.Bv
abbrev Ans:=(Int×(Int×(Int×U4q)))
abbrev X5K:=U7q
abbrev Bkt:=Int×Int
abbrev Stt:=U2q
def X52(a:Ans):Bool:=fIn a.1 0 4&&(fIn a.2.1 0 100000&&(X6n a.2.2.1&&decide (a.2.2.2.length≤900)))
def X5F(n mark:Int):Bool:=decide (IntKind.wrap .i64 (IntKind.wrap .i64 (n+1)*100)≤mark)
def ss1(x:X5K):Bool:=fIn x.1 1 4&&(fIn x.2.1 1 1000000&&X52 x.2.2)
def Xeg:X5K:=(0,(0,(0,(0,(0,[])))))
def Xit(l:List X5K)(i:Nat):Bool:=ss1 (l.getD i Xeg)&&(decide (i=0)||decide ((l.getD (i - 1) Xeg).1<(l.getD i Xeg).1))
def X2A(l:List X5K):Bool:=XcP (Xit l) l.length
def sxI(l:List X5K)(i:Int):Prop:=0≤i∧i≤l.length∧∀j,j<i.toNat→Xit l j=true
def sxM(l:List X5K)(i:Int):Nat:=(l.length - i).toNat
def bk1(mark:Int)(b:Bkt):Bool:=fIn b.1 0 10995116277&&(!X5F b.1 mark&&fIn b.2 0 1)
def Xku(l:List Bkt)(mark:Int)(i:Nat):Bool:=bk1 mark (l.getD i (0,0))&&(decide (i=0)||decide ((l.getD (i - 1) (0,0)).1<(l.getD i (0,0)).1))
def X3G(l:List Bkt)(mark:Int):Bool:=decide (l.length≤12)&&XcP (Xku l mark) l.length
def bkI(l:List Bkt)(mark i:Int):Prop:=0≤i∧i≤l.length∧∀j,j<i.toNat→Xku l mark j=true
def bkM(l:List Bkt)(mark i:Int):Nat:=(l.length - i).toNat
def X8s(e:Eng):Bool:=decide (e.1=0)&&(decide (e.2.1.length=0)&&decide (e.2.2.length=0))
def X1S(s:Stt):Bool:=X2A s.2.2.2.2.2&&(if s.1=1 then fIn s.2.1 0 100000&&(X6n s.2.2.1&&(X3G s.2.2.2.1 s.2.2.1&&X8s s.2.2.2.2.1)) else if s.1=2 then decide (s.2.1=0)&&(decide (s.2.2.1=0)&&(decide (s.2.2.2.1.length=0)&&Xc7 s.2.2.2.2.1)) else false)
theorem XgJ{l:List X5K}(h:X2A l=true):∀j,j<l.length→Xit l j=true:=fun j hj=>by
 simp only[X2A,XcP,List.all_eq_true,List.mem_range]at h;exact h j hj
theorem Xl4{l:List X5K}(h:X2A l=true):l.length≤4:=by
 have key:∀j,j<l.length→(j:Int)+1≤(l.getD j Xeg).1∧(l.getD j Xeg).1≤4:=by
  intro j
  induction j with
  | zero=>
    intro hj
    have:=XgJ h 0 hj
    simp only[Xit,ss1,fIn,Bool.and_eq_true,decide_eq_true_eq]at this
    omega
  | succ j ih=>
    intro hj
    have h1:=ih (by omega)
    have:=XgJ h (j+1) hj
    simp only[Xit,ss1,fIn,Bool.and_eq_true,Bool.or_eq_true,decide_eq_true_eq,Nat.add_sub_cancel]at this
    omega
 by_cases hc:l.length≤4
 · exact hc
 · have:=key 4 (by omega);omega
theorem Xjd{l:List Bkt}{mark i:Int}(h:bkI l mark i)(hi:¬i<l.length):decide ((l.length:Int)≤12)=X3G l mark:=by
 obtain⟨h1,h2,h3⟩:=h
 unfold X3G
 rw[X9i fun j hj=>h3 j (by omega),Bool.and_true]
 exact decide_eq_decide.2 (by omega)
theorem Xmp{l:List X5K}{i:Int}(h:sxI l i)(hi:¬i<l.length):true=X2A l:=by
 obtain⟨h1,h2,h3⟩:=h
 exact(X9i fun j hj=>h3 j (by omega)).symm
structure SsK (l:List X5K) (i:Int) (x y:X5K):Prop where
 n1:fIn x.1 1 4=false→X2A l=false
 n2:fIn x.2.1 1 1000000=false→X2A l=false
 n3:X52 x.2.2=false→X2A l=false
 n4:0<i→y.1≥x.1→X2A l=false
 ok:fIn x.1 1 4=true→fIn x.2.1 1 1000000=true→X52 x.2.2=true→(¬0<i∨¬y.1≥x.1)→sxI l (i+1)
theorem Xme{l:List X5K}{i:Int}(h:sxI l i)(hi:i<l.length):SsK l i (l.getD i.toNat Xeg) (l.getD (i.toNat - 1) Xeg):=by
 obtain⟨h1,h2,h3⟩:=h
 have no:Xit l i.toNat=false→X2A l=false:=fun hp=>XgM (p:=Xit l) (n:=l.length) (by omega) hp
 refine⟨fun h=>no (by unfold Xit ss1;simp only[h,Bool.false_and,Bool.and_false]),fun h=>no (by unfold Xit ss1;simp only[h,Bool.false_and,Bool.and_false]),fun h=>no (by unfold Xit ss1;simp only[h,Bool.false_and,Bool.and_false]),fun h h'=>no ?_,fun c1 c2 c3 c4=>⟨by omega,by omega,X8D h1 h3 ?_⟩⟩
 · unfold Xit
   rw[decide_eq_false (by omega:¬i.toNat=0),decide_eq_false (by omega:¬(l.getD (i.toNat - 1) Xeg).1<(l.getD i.toNat Xeg).1)];simp
 · unfold Xit ss1
   rw[c1,c2,c3]
   simp only[Bool.and_true,Bool.true_and,Bool.or_eq_true,decide_eq_true_eq]
   omega
structure BkK (l:List Bkt) (mark i:Int) (x y:Bkt):Prop where
 n1:fIn x.1 0 10995116277=false→X3G l mark=false
 n2:X5F x.1 mark=true→X3G l mark=false
 n3:fIn x.2 0 1=false→X3G l mark=false
 n4:0<i→y.1≥x.1→X3G l mark=false
 ok:fIn x.1 0 10995116277=true→X5F x.1 mark=false→fIn x.2 0 1=true→(¬0<i∨¬y.1≥x.1)→bkI l mark (i+1)
theorem Xma{l:List Bkt}{mark i:Int}(h:bkI l mark i)(hi:i<l.length):BkK l mark i (l.getD i.toNat (0,0)) (l.getD (i.toNat - 1) (0,0)):=by
 obtain⟨h1,h2,h3⟩:=h
 have no:Xku l mark i.toNat=false→X3G l mark=false:=fun hp=>by
  unfold X3G;rw[XgM (p:=Xku l mark) (n:=l.length) (by omega) hp,Bool.and_false]
 refine⟨fun h=>no (by unfold Xku bk1;simp only[h,Bool.not_true,Bool.false_and,Bool.and_false]),fun h=>no (by unfold Xku bk1;simp only[h,Bool.not_true,Bool.false_and,Bool.and_false]),fun h=>no (by unfold Xku bk1;simp only[h,Bool.not_true,Bool.false_and,Bool.and_false]),fun h h'=>no ?_,fun c1 c2 c3 c4=>⟨by omega,by omega,X8D h1 h3 ?_⟩⟩
 · unfold Xku
   rw[decide_eq_false (by omega:¬i.toNat=0),decide_eq_false (by omega:¬(l.getD (i.toNat - 1) (0,0)).1<(l.getD i.toNat (0,0)).1)];simp
 · unfold Xku bk1
   rw[c1,c2,c3]
   simp only[Bool.and_true,Bool.true_and,Bool.not_false,Bool.or_eq_true,decide_eq_true_eq]
   omega
theorem Xaw:X31 1099511627776=10995116277:=by decide
def stI(a:Stt)(i k h m:Int)(b:List Bkt)(f:Int)(c:List Ser)(g:List Str)(s:List X5K):Prop:=a=(k,(h,(m,(b,((f,(c,g)),s)))))∧sxI s i
def stM(a:Stt)(i k h m:Int)(b:List Bkt)(f:Int)(c:List Ser)(g:List Str)(s:List X5K):Nat:=sxM s i
def suI(a:Stt)(i k h m:Int)(b:List Bkt)(f:Int)(c:List Ser)(g:List Str)(s:List X5K):Prop:=a=(k,(h,(m,(b,((f,(c,g)),s)))))∧bkI b m i
def suM(a:Stt)(i k h m:Int)(b:List Bkt)(f:Int)(c:List Ser)(g:List Str)(s:List X5K):Nat:=bkM b m i
def X4H:Con:={A:=(.int .i64),shA:=[.one],R:=(.int .i64),shR:=[(false,1)],pre:=fun _ _=>True,f:=some fun _ a=>((X31 a),((),()))}
def X1F.F(a0:Int):Prop:=(True∧∀r1,(Eq r1 ((fIn a0 0 1099511627776),((),())))→(X00 (!r1.1) (Eq ((-1),((),())) ((X31 a0),((),()))) ((100:Int)≠0∧(Eq ((wI (Int.tdiv a0 (100:Int))),((),())) ((X31 a0),((),()))))))
theorem X1F.pure(a0:Int)(h:True)(hw:Wf X4H.A a0):X1F.F a0:=by
 unfold X1F.F X31
 simp only[forall_eq,true_and,and_true,X03,Prod.mk.injEq,Bool.not_eq_true',Bool.not_eq_false']
 refine⟨fun h1=>by simp[h1],fun h1=>⟨by omega,?_⟩⟩
 have h2:=h1
 simp only[fIn,Bool.and_eq_true,decide_eq_true_eq]at h2
 rw[if_pos h1,Int.tdiv_eq_ediv_of_nonneg h2.1]
 exact Go.IntWalk.i64_in _ (by omega)
theorem X1F.eq:EqS X4H Tryz.f31 [3] [X0A.e] [] noL (fun i x=>X1F.F x):=by intro i x;kernel_rfl
theorem X1F.ok:X0o Tryz.prog 31 X4H:=X2u X1F.eq Tryz.func31 rfl (by kernel_rfl) fun i x h hi hw=>X1F.pure x h hw
def X1F.e:GE:=⟨31,X4H,⟨_,Tryz.func31,rfl,rfl⟩,X1F.ok⟩
def X4B:Con:={A:=(.pair (.int .i64) T9q),shA:=[.agg 4],R:=.bool,shR:=[(false,1)],pre:=fun _ _=>True,f:=some fun _ a=>((X52 a),((),()))}
def X1W.F(a0:(Int×(Int×(Int×U4q)))):Prop:=(True∧∀r1,(Eq r1 ((fIn a0.1 0 4),((),())))→(X00 r1.1 (True∧∀r2,(Eq r2 ((fIn a0.2.1 0 100000),((),())))→(X00 r2.1 (True∧∀r3,(Eq r3 ((fIn a0.2.2.1 0 1099511627776),((),())))→(X00 r3.1 (Eq ((decide ((ln a0.2.2.2)≤(900:Int))),((),())) ((X52 a0),((),()))) (Eq (false,((),())) ((X52 a0),((),()))))) (Eq (false,((),())) ((X52 a0),((),()))))) (Eq (false,((),())) ((X52 a0),((),())))))
theorem X1W.pure(a0:(Int×(Int×(Int×U4q))))(h:True)(hw:Wf X4B.A a0):X1W.F a0:=by
 delta X1W.F ln
 simp only[Bs,B0,B1,Prod.mk.injEq,X03]
 unfold X52 X6n
 refine⟨fun h1=>⟨fun h2=>⟨fun h3=>?_,fun h3=>?_⟩,fun h2=>?_⟩,fun h1=>?_⟩
 · try unfold X6n at h3
   rw[h1,h2,h3,Bool.true_and,Bool.true_and,Bool.true_and];exact decide_eq_decide.2 (by omega)
 · try unfold X6n at h3
   rw[h3];simp
 · rw[h2];simp
 · rw[h1];simp
theorem X1W.eq:EqS X4B Tryz.f25 [4] [X1j.e] [] noL (fun i x=>X1W.F x):=by intro i x;kernel_rfl
theorem X1W.ok:X0o Tryz.prog 25 X4B:=X2u X1W.eq Tryz.func25 rfl (by kernel_rfl) fun i x h hi hw=>X1W.pure x h hw
def X1W.e:GE:=⟨25,X4B,⟨_,Tryz.func25,rfl,rfl⟩,X1W.ok⟩
def X4F:Con:={A:=(.pair (.int .i64) T9q),shA:=[.agg 4],R:=.bool,shR:=[(false,1)],pre:=fun _ _=>True,f:=some fun _ a=>((X52 a),((),()))}
def X21.F(a0:(Int×(Int×(Int×U4q)))):Prop:=(True∧∀r1,(Eq r1 ((fIn a0.1 0 4),((),())))→(X00 r1.1 (True∧∀r2,(Eq r2 ((fIn a0.2.1 0 100000),((),())))→(X00 r2.1 (True∧∀r3,(Eq r3 ((X6n a0.2.2.1),((),())))→(X00 r3.1 (Eq ((decide ((ln a0.2.2.2)≤(900:Int))),((),())) ((X52 a0),((),()))) (Eq (false,((),())) ((X52 a0),((),()))))) (Eq (false,((),())) ((X52 a0),((),()))))) (Eq (false,((),())) ((X52 a0),((),())))))
theorem X21.pure(a0:(Int×(Int×(Int×U4q))))(h:True)(hw:Wf X4F.A a0):X21.F a0:=by
 delta X21.F ln
 simp only[Bs,B0,B1,Prod.mk.injEq,X03]
 unfold X52 X6n
 refine⟨fun h1=>⟨fun h2=>⟨fun h3=>?_,fun h3=>?_⟩,fun h2=>?_⟩,fun h1=>?_⟩
 · try unfold X6n at h3
   rw[h1,h2,h3,Bool.true_and,Bool.true_and,Bool.true_and];exact decide_eq_decide.2 (by omega)
 · try unfold X6n at h3
   rw[h3];simp
 · rw[h2];simp
 · rw[h1];simp
theorem X21.eq:EqS X4F Tryz.f89 [4] [X0A.e,X2d.e] [] noL (fun i x=>X21.F x):=by intro i x;kernel_rfl
theorem X21.ok:X0o Tryz.prog 89 X4F:=X2u X21.eq Tryz.func89 rfl (by kernel_rfl) fun i x h hi hw=>X21.pure x h hw
def X21.e:GE:=⟨89,X4F,⟨_,Tryz.func89,rfl,rfl⟩,X21.ok⟩
def X5e:Con:={A:=T0q,shA:=[.one,.one],R:=.bool,shR:=[(false,1)],pre:=fun _ _=>True,f:=some fun _ a=>((X5F a.1 a.2),((),()))}
def X1J.F(a0:Int)(a1:Int):Prop:=(Eq ((decide ((wI ((wI (a0+(1:Int)))*(100:Int)))≤a1)),((),())) ((X5F a0 a1),((),())))
theorem X1J.pure(a0:Int)(a1:Int)(h:True)(hw:Wf X5e.A (a0,a1)):X1J.F a0 a1:=by
 delta X1J.F wI
 simp only[Bs,B0,B1,Prod.mk.injEq,X03,X5F]
theorem X1J.eq:EqS X5e Tryz.f28 [4] [] [] noL (fun i x=>X1J.F x.1 x.2):=by intro i x;kernel_rfl
theorem X1J.ok:X0o Tryz.prog 28 X5e:=X2u X1J.eq Tryz.func28 rfl (by kernel_rfl) fun i x h hi hw=>X1J.pure x.1 x.2 h hw
def X1J.e:GE:=⟨28,X5e,⟨_,Tryz.func28,rfl,rfl⟩,X1J.ok⟩
def X7E:Con:={A:=T0q,shA:=[.one,.one],R:=.bool,shR:=[(false,1)],pre:=fun _ _=>True,f:=some fun _ a=>((X5F a.1 a.2),((),()))}
def X3c.F(a0:Int)(a1:Int):Prop:=(Eq ((decide ((wI ((wI (a0+(1:Int)))*(100:Int)))≤a1)),((),())) ((X5F a0 a1),((),())))
theorem X3c.pure(a0:Int)(a1:Int)(h:True)(hw:Wf X7E.A (a0,a1)):X3c.F a0 a1:=by
 delta X3c.F wI
 simp only[Bs,B0,B1,Prod.mk.injEq,X03,X5F]
theorem X3c.eq:EqS X7E Tryz.f90 [4] [] [] noL (fun i x=>X3c.F x.1 x.2):=by intro i x;kernel_rfl
theorem X3c.ok:X0o Tryz.prog 90 X7E:=X2u X3c.eq Tryz.func90 rfl (by kernel_rfl) fun i x h hi hw=>X3c.pure x.1 x.2 h hw
def X3c.e:GE:=⟨90,X7E,⟨_,Tryz.func90,rfl,rfl⟩,X3c.ok⟩
def X4R:Con:={A:=(.int .i64),shA:=[.one],R:=.bool,shR:=[(false,1)],pre:=fun _ _=>True,f:=some fun _ a=>(((fun a=>fIn a 1 4) a),((),()))}
def X25.F(a0:Int):Prop:=(True∧∀r1,(Eq r1 ((fIn a0 1 4),((),())))→(Eq (r1.1,((),())) (((fun a=>fIn a 1 4) a0),((),()))))
theorem X25.pure(a0:Int)(h:True)(hw:Wf X4R.A a0):X25.F a0:=by
 unfold X25.F
 simp only[Bs,B0,B1,Prod.mk.injEq,X03]
theorem X25.eq:EqS X4R Tryz.f87 [4] [X0A.e] [] noL (fun i x=>X25.F x):=by intro i x;kernel_rfl
theorem X25.ok:X0o Tryz.prog 87 X4R:=X2u X25.eq Tryz.func87 rfl (by kernel_rfl) fun i x h hi hw=>X25.pure x h hw
def X25.e:GE:=⟨87,X4R,⟨_,Tryz.func87,rfl,rfl⟩,X25.ok⟩
def X4S:Con:={A:=(.int .i64),shA:=[.one],R:=.bool,shR:=[(false,1)],pre:=fun _ _=>True,f:=some fun _ a=>(((fun a=>fIn a 1 1000000) a),((),()))}
def X1X.F(a0:Int):Prop:=(True∧∀r1,(Eq r1 ((fIn a0 1 1000000),((),())))→(Eq (r1.1,((),())) (((fun a=>fIn a 1 1000000) a0),((),()))))
theorem X1X.pure(a0:Int)(h:True)(hw:Wf X4S.A a0):X1X.F a0:=by
 unfold X1X.F
 simp only[Bs,B0,B1,Prod.mk.injEq,X03]
theorem X1X.eq:EqS X4S Tryz.f88 [4] [X0A.e] [] noL (fun i x=>X1X.F x):=by intro i x;kernel_rfl
theorem X1X.ok:X0o Tryz.prog 88 X4S:=X2u X1X.eq Tryz.func88 rfl (by kernel_rfl) fun i x h hi hw=>X1X.pure x h hw
def X1X.e:GE:=⟨88,X4S,⟨_,Tryz.func88,rfl,rfl⟩,X1X.ok⟩
def X3N:Con:={A:=(.list T1q),shA:=[.one],R:=.bool,shR:=[(false,1)],pre:=fun _ _=>True,f:=some fun _ a=>((X2A a),((),()))}
def X0V.F(a0:(List U7q)):Prop:=(eS [(0,.val false [.lst T1q a0 none]),(5,.val false [.lst T1q a0 none]),(6,.val false [.int .i64 (ln a0)])] [(0,.val false [.lst T1q a0 none]),(5,.val false [.lst T1q a0 none]),(6,.val false [.int .i64 (ln a0)])]∧((sxI a0 0)∧∀(y1:Int),(sxI a0 y1)→(X00 (decide (y1<(ln a0))) (0≤y1∧(y1<(ln a0)∧(True∧∀r2,(Eq r2 (((fun a=>fIn a 1 4) ((List.getD a0 (tN y1) (0,(0,(0,(0,(0,[])))))).1)),((),())))→(X00 (!r2.1) (Eq (false,((),())) ((X2A a0),((),()))) (True∧∀r3,(Eq r3 (((fun a=>fIn a 1 1000000) ((List.getD a0 (tN y1) (0,(0,(0,(0,(0,[])))))).2.1)),((),())))→(X00 (!r3.1) (Eq (false,((),())) ((X2A a0),((),()))) (True∧∀r4,(Eq r4 ((X52 ((List.getD a0 (tN y1) (0,(0,(0,(0,(0,[])))))).2.2.1,((List.getD a0 (tN y1) (0,(0,(0,(0,(0,[])))))).2.2.2.1,((List.getD a0 (tN y1) (0,(0,(0,(0,(0,[])))))).2.2.2.2.1,(List.getD a0 (tN y1) (0,(0,(0,(0,(0,[])))))).2.2.2.2.2)))),((),())))→(X00 (!r4.1) (Eq (false,((),())) ((X2A a0),((),()))) (X00 (decide (y1>(0:Int))) (0≤(wI (y1 - (1:Int)))∧((wI (y1 - (1:Int)))<(ln a0)∧(X00 (decide (((List.getD a0 (tN (wI (y1 - (1:Int)))) (0,(0,(0,(0,(0,[])))))).1)≥((List.getD a0 (tN y1) (0,(0,(0,(0,(0,[])))))).1))) (Eq (false,((),())) ((X2A a0),((),()))) (eS [(0,.val false [.lst T1q a0 none]),(5,.val false [.lst T1q a0 none]),(6,.val false [.int .i64 (ln a0)])] [(0,.val false [.lst T1q a0 none]),(5,.val false [.lst T1q a0 none]),(6,.val false [.int .i64 (ln a0)])]∧(sxI a0 (wI (y1+(1:Int))))∧(sxM a0 (wI (y1+(1:Int))))<(sxM a0 y1))))) (eS [(0,.val false [.lst T1q a0 none]),(5,.val false [.lst T1q a0 none]),(6,.val false [.int .i64 (ln a0)])] [(0,.val false [.lst T1q a0 none]),(5,.val false [.lst T1q a0 none]),(6,.val false [.int .i64 (ln a0)])]∧(sxI a0 (wI (y1+(1:Int))))∧(sxM a0 (wI (y1+(1:Int))))<(sxM a0 y1))))))))))) (Eq (true,((),())) ((X2A a0),((),()))))))
def X0V.L(a0:(List U7q)):Nat→Option X0a:=fun p=>Go.Proofs.YtgmafgmjbaoomaaGreat.Bv.look p [(26,{kp:={hold:=[0,5,6],slots:=[7],boxes:=[],rows:=[]},T:=(.int .i64),I:=fun st y=>sxI a0 y,μ:=fun st y=>sxM a0 y})]
theorem X0V.pure(a0:(List U7q))(h:True)(hw:Wf X3N.A a0):X0V.F a0:=by
 delta X0V.F ln tN wI eS
 simp only[Bs,B0,B1,Prod.mk.injEq,X03,Prod.eta]
 have hl:a0.length≤9223372036854775807:=hw.1
 refine⟨⟨by omega,by omega,fun j hj=>absurd hj (by simp)⟩,?_⟩
 rintro i hI
 have q1:=hI.1
 have q2:=hI.2.1
 refine⟨fun hi=>?_,fun hi=>Xmp hI hi⟩
 have K:=Xme hI hi
 have dn:sxM a0 (i+1)<sxM a0 i:=by unfold sxM;omega
 rw[w64 (x:=i+1) (by omega) (by omega),w64 (x:=i - 1) (by omega) (by omega),show(i - 1).toNat=i.toNat - 1 by omega]
 refine⟨q1,hi,fun c=>(K.n1 c).symm,fun c1=>⟨fun c=>(K.n2 c).symm,fun c2=>⟨fun c=>(K.n3 c).symm,fun c3=>⟨fun c4=>⟨by omega,by omega,fun c=>(K.n4 c4 c).symm,fun c=>⟨K.ok c1 c2 c3 (.inr c),dn⟩⟩,fun c=>⟨K.ok c1 c2 c3 (.inl c),dn⟩⟩⟩⟩⟩
theorem X0V.eq:EqS X3N Tryz.f47 [4] [X25.e,X1X.e,X21.e] [] (fun i x=>X0V.L x) (fun i x=>X0V.F x):=by intro i x;kernel_rfl
theorem X0V.ok:X0o Tryz.prog 47 X3N:=X2u X0V.eq Tryz.func47 rfl (by kernel_rfl) fun i x h hi hw=>X0V.pure x h hw
def X0V.e:GE:=⟨47,X3N,⟨_,Tryz.func47,rfl,rfl⟩,X0V.ok⟩
def X48:Con:={A:=(.pair X60 (.int .i64)),shA:=[.one,.one],R:=.bool,shR:=[(false,1)],pre:=fun _ _=>True,f:=some fun _ a=>((X3G a.1 a.2),((),()))}
def X1a.F(a0:U5q)(a1:Int):Prop:=(eS [(0,.val false [.lst T0q a0 none]),(1,.val false [.int .i64 a1]),(7,.val false [.lst T0q a0 none]),(8,.val false [.int .i64 (ln a0)])] [(0,.val false [.lst T0q a0 none]),(1,.val false [.int .i64 a1]),(7,.val false [.lst T0q a0 none]),(8,.val false [.int .i64 (ln a0)])]∧((bkI a0 a1 0)∧∀(y1:Int),(bkI a0 a1 y1)→(X00 (decide (y1<(ln a0))) (0≤y1∧(y1<(ln a0)∧(True∧∀r2,(Eq r2 ((X31 1099511627776),((),())))→(True∧∀r3,(Eq r3 ((fIn ((List.getD a0 (tN y1) (0,0)).1) 0 r2.1),((),())))→(X00 (!r3.1) (Eq (false,((),())) ((X3G a0 a1),((),()))) (True∧∀r4,(Eq r4 ((X5F ((List.getD a0 (tN y1) (0,0)).1) a1),((),())))→(X00 r4.1 (Eq (false,((),())) ((X3G a0 a1),((),()))) (True∧∀r5,(Eq r5 ((fIn ((List.getD a0 (tN y1) (0,0)).2) 0 1),((),())))→(X00 (!r5.1) (Eq (false,((),())) ((X3G a0 a1),((),()))) (X00 (decide (y1>(0:Int))) (0≤(wI (y1 - (1:Int)))∧((wI (y1 - (1:Int)))<(ln a0)∧(X00 (decide (((List.getD a0 (tN (wI (y1 - (1:Int)))) (0,0)).1)≥((List.getD a0 (tN y1) (0,0)).1))) (Eq (false,((),())) ((X3G a0 a1),((),()))) (eS [(0,.val false [.lst T0q a0 none]),(1,.val false [.int .i64 a1]),(7,.val false [.lst T0q a0 none]),(8,.val false [.int .i64 (ln a0)])] [(0,.val false [.lst T0q a0 none]),(1,.val false [.int .i64 a1]),(7,.val false [.lst T0q a0 none]),(8,.val false [.int .i64 (ln a0)])]∧(bkI a0 a1 (wI (y1+(1:Int))))∧(bkM a0 a1 (wI (y1+(1:Int))))<(bkM a0 a1 y1))))) (eS [(0,.val false [.lst T0q a0 none]),(1,.val false [.int .i64 a1]),(7,.val false [.lst T0q a0 none]),(8,.val false [.int .i64 (ln a0)])] [(0,.val false [.lst T0q a0 none]),(1,.val false [.int .i64 a1]),(7,.val false [.lst T0q a0 none]),(8,.val false [.int .i64 (ln a0)])]∧(bkI a0 a1 (wI (y1+(1:Int))))∧(bkM a0 a1 (wI (y1+(1:Int))))<(bkM a0 a1 y1)))))))))))) (Eq ((decide ((ln a0)≤(12:Int))),((),())) ((X3G a0 a1),((),()))))))
def X1a.L(a0:U5q)(a1:Int):Nat→Option X0a:=fun p=>Go.Proofs.YtgmafgmjbaoomaaGreat.Bv.look p [(26,{kp:={hold:=[0,1,7,8],slots:=[9],boxes:=[],rows:=[]},T:=(.int .i64),I:=fun st y=>bkI a0 a1 y,μ:=fun st y=>bkM a0 a1 y})]
theorem X1a.pure(a0:U5q)(a1:Int)(h:True)(hw:Wf X48.A (a0,a1)):X1a.F a0 a1:=by
 delta X1a.F ln tN wI eS
 simp only[Bs,B0,B1,Prod.mk.injEq,X03,Prod.eta,Xaw]
 have hl:a0.length≤9223372036854775807:=hw.1.1
 refine⟨⟨by omega,by omega,fun j hj=>absurd hj (by simp)⟩,?_⟩
 rintro i hI
 have q1:=hI.1
 have q2:=hI.2.1
 refine⟨fun hi=>?_,fun hi=>Xjd hI hi⟩
 have K:=Xma hI hi
 have dn:bkM a0 a1 (i+1)<bkM a0 a1 i:=by unfold bkM;omega
 rw[w64 (x:=i+1) (by omega) (by omega),w64 (x:=i - 1) (by omega) (by omega),show(i - 1).toNat=i.toNat - 1 by omega]
 refine⟨q1,hi,fun c=>(K.n1 c).symm,fun c1=>⟨fun c=>(K.n2 c).symm,fun c2=>⟨fun c=>(K.n3 c).symm,fun c3=>⟨fun c4=>⟨by omega,by omega,fun c=>(K.n4 c4 c).symm,fun c=>⟨K.ok c1 c2 c3 (.inr c),dn⟩⟩,fun c=>⟨K.ok c1 c2 c3 (.inl c),dn⟩⟩⟩⟩⟩
theorem X1a.eq:EqS X48 Tryz.f50 [4] [X1F.e,X0A.e,X3c.e] [] (fun i x=>X1a.L x.1 x.2) (fun i x=>X1a.F x.1 x.2):=by intro i x;kernel_rfl
theorem X1a.ok:X0o Tryz.prog 50 X48:=X2u X1a.eq Tryz.func50 rfl (by kernel_rfl) fun i x h hi hw=>X1a.pure x.1 x.2 h hw
def X1a.e:GE:=⟨50,X48,⟨_,Tryz.func50,rfl,rfl⟩,X1a.ok⟩
def X33:Con:={A:=Xfd,shA:=[.agg 3],R:=.bool,shR:=[(false,1)],pre:=fun _ _=>True,f:=some fun _ a=>((X8s a),((),()))}
def X0G.F(a0:Xhd):Prop:=(X00 (a0.1==(0:Int)) (X00 ((ln a0.2.1)==(0:Int)) (Eq (((ln a0.2.2)==(0:Int)),((),())) ((X8s a0),((),()))) (Eq (false,((),())) ((X8s a0),((),())))) (Eq (false,((),())) ((X8s a0),((),()))))
theorem X0G.pure(a0:Xhd)(h:True)(hw:Wf X33.A a0):X0G.F a0:=by
 delta X0G.F ln
 simp only[Bs,B0,B1,Prod.mk.injEq,X03]
 unfold X8s
 refine⟨fun h1=>⟨fun h2=>?_,fun h2=>?_⟩,fun h1=>?_⟩
 · rw[decide_eq_true h1,decide_eq_true (by omega:a0.2.1.length=0),Bool.true_and,Bool.true_and,Bool.eq_iff_iff];simp
 · rw[decide_eq_false (by omega:¬a0.2.1.length=0)];simp
 · rw[decide_eq_false h1];simp
theorem X0G.eq:EqS X33 Tryz.f26 [4] [] [] noL (fun i x=>X0G.F x):=by intro i x;kernel_rfl
theorem X0G.ok:X0o Tryz.prog 26 X33:=X2u X0G.eq Tryz.func26 rfl (by kernel_rfl) fun i x h hi hw=>X0G.pure x h hw
def X0G.e:GE:=⟨26,X33,⟨_,Tryz.func26,rfl,rfl⟩,X0G.ok⟩
def XmF.L(a0:U2q):Nat→Option X0a:=fun p=>Go.Proofs.YtgmafgmjbaoomaaGreat.Bv.look p [(58,{kp:={hold:=[1],slots:=[3],boxes:=[2],rows:=[]},T:=T12q,I:=fun st y=>stI a0 y.1 y.2.1 y.2.2.1 y.2.2.2.1 y.2.2.2.2.1 y.2.2.2.2.2.1 y.2.2.2.2.2.2.1 y.2.2.2.2.2.2.2.1 y.2.2.2.2.2.2.2.2,μ:=fun st y=>stM a0 y.1 y.2.1 y.2.2.1 y.2.2.2.1 y.2.2.2.2.1 y.2.2.2.2.2.1 y.2.2.2.2.2.2.1 y.2.2.2.2.2.2.2.1 y.2.2.2.2.2.2.2.2}),(7850,{kp:={hold:=[1],slots:=[5],boxes:=[2],rows:=[]},T:=T12q,I:=fun st y=>suI a0 y.1 y.2.1 y.2.2.1 y.2.2.2.1 y.2.2.2.2.1 y.2.2.2.2.2.1 y.2.2.2.2.2.2.1 y.2.2.2.2.2.2.2.1 y.2.2.2.2.2.2.2.2,μ:=fun st y=>suM a0 y.1 y.2.1 y.2.2.1 y.2.2.2.1 y.2.2.2.2.1 y.2.2.2.2.2.1 y.2.2.2.2.2.2.1 y.2.2.2.2.2.2.2.1 y.2.2.2.2.2.2.2.2})]
end Go.Proofs.YtgmafgmjbaoomaaGreat.B
