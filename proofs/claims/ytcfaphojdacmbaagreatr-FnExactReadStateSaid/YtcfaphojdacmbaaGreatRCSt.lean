/- States:right or not. -/
import Derived.Test.YtcfaphojdacmbaaGreatRCEngE
import Derived.Test.YtcfaphojdacmbaaGreatRCTypes
set_option maxRecDepth 100000
set_option linter.unusedVariables false
set_option linter.unusedSimpArgs false
namespace Go.Proofs.YtcfaphojdacmbaaGreatR.B
open Go Go.Proofs.YtcfaphojdacmbaaGreatR.Bv
abbrev Ans:=Xjj
abbrev X8m:=U3q
abbrev Bkt:=Int×Int
abbrev Stt:=U7q
def X48(a:Ans):Bool:=fIn a.1 0 4&&(fIn a.2.1 0 100000&&(X8w a.2.2.1&&decide (a.2.2.2.length≤900)))
def Xew(n mark:Int):Bool:=decide (IntKind.wrap .i64 (IntKind.wrap .i64 (n+1)*100)≤mark)
def ss1(x:X8m):Bool:=fIn x.1 1 4&&(fIn x.2.1 1 1000000&&X48 x.2.2)
def X8c:X8m:=(0,(0,(0,(0,(0,[])))))
def Xkx(l:List X8m)(i:Nat):Bool:=ss1 (l.getD i X8c)&&(decide (i=0)||decide ((l.getD (i - 1) X8c).1<(l.getD i X8c).1))
def X3H(l:List X8m):Bool:=Xe9 (Xkx l) l.length
def sxI(l:List X8m)(i:Int):Prop:=0≤i∧i≤l.length∧∀j,j<i.toNat→Xkx l j=true
def sxM(l:List X8m)(i:Int):Nat:=(l.length - i).toNat
def bk1(mark:Int)(b:Bkt):Bool:=fIn b.1 0 10995116277&&(!Xew b.1 mark&&fIn b.2 0 1)
def XoA(l:List Bkt)(mark:Int)(i:Nat):Bool:=bk1 mark (l.getD i (0,0))&&(decide (i=0)||decide ((l.getD (i - 1) (0,0)).1<(l.getD i (0,0)).1))
def X5k(l:List Bkt)(mark:Int):Bool:=decide (l.length≤12)&&Xe9 (XoA l mark) l.length
def bkI(l:List Bkt)(mark i:Int):Prop:=0≤i∧i≤l.length∧∀j,j<i.toNat→XoA l mark j=true
def bkM(l:List Bkt)(mark i:Int):Nat:=(l.length - i).toNat
def X9s(e:Eng):Bool:=decide (e.1=0)&&(decide (e.2.1.length=0)&&decide (e.2.2.length=0))
def X2A(s:Stt):Bool:=X3H s.2.2.2.2.2&&(if s.1=1 then fIn s.2.1 0 100000&&(X8w s.2.2.1&&(X5k s.2.2.2.1 s.2.2.1&&X9s s.2.2.2.2.1)) else if s.1=2 then decide (s.2.1=0)&&(decide (s.2.2.1=0)&&(decide (s.2.2.2.1.length=0)&&X5o s.2.2.2.2.1)) else false)
def pSt(s:Stt):Prop:=XoD s.2.2.2.2.1∧s.2.2.2.2.1.2.1.length≤1000000000∧s.2.2.2.2.1.2.2.length≤1000000000
theorem Xea{l:List X8m}(h:X3H l=true):∀j,j<l.length→Xkx l j=true:=fun j hj=>by
 simp only[X3H,Xe9,List.all_eq_true,List.mem_range]at h;exact h j hj
theorem Xl5{l:List X8m}(h:X3H l=true):l.length≤4:=by
 have key:∀j,j<l.length→(j:Int)+1≤(l.getD j X8c).1∧(l.getD j X8c).1≤4:=by
  intro j
  induction j with
  | zero=>
    intro hj
    have:=Xea h 0 hj
    simp only[Xkx,ss1,fIn,Bool.and_eq_true,decide_eq_true_eq]at this
    omega
  | succ j ih=>
    intro hj
    have h1:=ih (by omega)
    have:=Xea h (j+1) hj
    simp only[Xkx,ss1,fIn,Bool.and_eq_true,Bool.or_eq_true,decide_eq_true_eq,Nat.add_sub_cancel]at this
    omega
 by_cases hc:l.length≤4
 · exact hc
 · have:=key 4 (by omega);omega
theorem Xos{l:List Bkt}{mark i:Int}(h:bkI l mark i)(hi:¬i<l.length):decide ((l.length:Int)≤12)=X5k l mark:=by
 obtain⟨h1,h2,h3⟩:=h
 unfold X5k
 rw[Xbe fun j hj=>h3 j (by omega),Bool.and_true]
 exact decide_eq_decide.2 (by omega)
theorem XpW{l:List X8m}{i:Int}(h:sxI l i)(hi:¬i<l.length):true=X3H l:=by
 obtain⟨h1,h2,h3⟩:=h
 exact(Xbe fun j hj=>h3 j (by omega)).symm
structure SsK (l:List X8m) (i:Int) (x y:X8m):Prop where
 n1:fIn x.1 1 4=false→X3H l=false
 n2:fIn x.2.1 1 1000000=false→X3H l=false
 n3:X48 x.2.2=false→X3H l=false
 n4:0<i→y.1≥x.1→X3H l=false
 ok:fIn x.1 1 4=true→fIn x.2.1 1 1000000=true→X48 x.2.2=true→(¬0<i∨¬y.1≥x.1)→sxI l (i+1)
theorem Xqi{l:List X8m}{i:Int}(h:sxI l i)(hi:i<l.length):SsK l i (l.getD i.toNat X8c) (l.getD (i.toNat - 1) X8c):=by
 obtain⟨h1,h2,h3⟩:=h
 have no:Xkx l i.toNat=false→X3H l=false:=fun hp=>XiX (p:=Xkx l) (n:=l.length) (by omega) hp
 refine⟨fun h=>no (by unfold Xkx ss1;simp only[h,Bool.false_and,Bool.and_false]),fun h=>no (by unfold Xkx ss1;simp only[h,Bool.false_and,Bool.and_false]),fun h=>no (by unfold Xkx ss1;simp only[h,Bool.false_and,Bool.and_false]),fun h h'=>no ?_,fun c1 c2 c3 c4=>⟨by omega,by omega,X9b h1 h3 ?_⟩⟩
 · unfold Xkx
   rw[decide_eq_false (by omega:¬i.toNat=0),decide_eq_false (by omega:¬(l.getD (i.toNat - 1) X8c).1<(l.getD i.toNat X8c).1)];simp
 · unfold Xkx ss1
   rw[c1,c2,c3]
   simp only[Bool.and_true,Bool.true_and,Bool.or_eq_true,decide_eq_true_eq]
   omega
structure BkK (l:List Bkt) (mark i:Int) (x y:Bkt):Prop where
 n1:fIn x.1 0 10995116277=false→X5k l mark=false
 n2:Xew x.1 mark=true→X5k l mark=false
 n3:fIn x.2 0 1=false→X5k l mark=false
 n4:0<i→y.1≥x.1→X5k l mark=false
 ok:fIn x.1 0 10995116277=true→Xew x.1 mark=false→fIn x.2 0 1=true→(¬0<i∨¬y.1≥x.1)→bkI l mark (i+1)
theorem Xqx{l:List Bkt}{mark i:Int}(h:bkI l mark i)(hi:i<l.length):BkK l mark i (l.getD i.toNat (0,0)) (l.getD (i.toNat - 1) (0,0)):=by
 obtain⟨h1,h2,h3⟩:=h
 have no:XoA l mark i.toNat=false→X5k l mark=false:=fun hp=>by
  unfold X5k;rw[XiX (p:=XoA l mark) (n:=l.length) (by omega) hp,Bool.and_false]
 refine⟨fun h=>no (by unfold XoA bk1;simp only[h,Bool.not_true,Bool.false_and,Bool.and_false]),fun h=>no (by unfold XoA bk1;simp only[h,Bool.not_true,Bool.false_and,Bool.and_false]),fun h=>no (by unfold XoA bk1;simp only[h,Bool.not_true,Bool.false_and,Bool.and_false]),fun h h'=>no ?_,fun c1 c2 c3 c4=>⟨by omega,by omega,X9b h1 h3 ?_⟩⟩
 · unfold XoA
   rw[decide_eq_false (by omega:¬i.toNat=0),decide_eq_false (by omega:¬(l.getD (i.toNat - 1) (0,0)).1<(l.getD i.toNat (0,0)).1)];simp
 · unfold XoA bk1
   rw[c1,c2,c3]
   simp only[Bool.and_true,Bool.true_and,Bool.not_false,Bool.or_eq_true,decide_eq_true_eq]
   omega
theorem XgN:X8S 1099511627776=10995116277:=by decide
def stI(a:Stt)(i k h m:Int)(b:List Bkt)(f:Int)(c:List Ser)(g:List Str)(s:List X8m):Prop:=a=(k,(h,(m,(b,((f,(c,g)),s)))))∧sxI s i
def stM(a:Stt)(i k h m:Int)(b:List Bkt)(f:Int)(c:List Ser)(g:List Str)(s:List X8m):Nat:=sxM s i
def suI(a:Stt)(i k h m:Int)(b:List Bkt)(f:Int)(c:List Ser)(g:List Str)(s:List X8m):Prop:=a=(k,(h,(m,(b,((f,(c,g)),s)))))∧bkI b m i
def suM(a:Stt)(i k h m:Int)(b:List Bkt)(f:Int)(c:List Ser)(g:List Str)(s:List X8m):Nat:=bkM b m i
def X7h:Con:={A:=(.int .i64),shA:=[.one],R:=(.int .i64),shR:=[(false,1)],pre:=fun _ _=>True,f:=some fun _ a=>((X8S a),((),()))}
def X2W.F(a0:Int):Prop:=(True∧∀r1,(Eq r1 ((fIn a0 0 1099511627776),((),())))→(X00 (!r1.1) (Eq ((-1),((),())) ((X8S a0),((),()))) ((100:Int)≠0∧(Eq ((wI (Int.tdiv a0 (100:Int))),((),())) ((X8S a0),((),()))))))
theorem X2W.pure(a0:Int)(h:True)(hw:Wf X7h.A a0):X2W.F a0:=by
 unfold X2W.F X8S
 simp only[forall_eq,true_and,and_true,X01,Prod.mk.injEq,Bool.not_eq_true',Bool.not_eq_false']
 refine⟨fun h1=>by simp[h1],fun h1=>⟨by omega,?_⟩⟩
 have h2:=h1
 simp only[fIn,Bool.and_eq_true,decide_eq_true_eq]at h2
 rw[if_pos h1,Int.tdiv_eq_ediv_of_nonneg h2.1]
 exact Go.IntWalk.i64_in _ (by omega)
theorem X2W.eq:EqS X7h Tryz.f55 [3] [X0K.e] [] noL (fun i x=>X2W.F x):=by intro i x;kernel_rfl
theorem X2W.ok:X0k Tryz.prog 55 X7h:=X1Z X2W.eq Tryz.func55 rfl (by kernel_rfl) fun i x h hi hw=>X2W.pure x h hw
def X2W.e:GE:=⟨55,X7h,⟨_,Tryz.func55,rfl,rfl⟩,X2W.ok⟩
def X7s:Con:={A:=XpT,shA:=[.agg 4],R:=.bool,shR:=[(false,1)],pre:=fun _ _=>True,f:=some fun _ a=>((X48 a),((),()))}
def X2v.F(a0:Xjj):Prop:=(True∧∀r1,(Eq r1 ((fIn a0.1 0 4),((),())))→(X00 r1.1 (True∧∀r2,(Eq r2 ((fIn a0.2.1 0 100000),((),())))→(X00 r2.1 (True∧∀r3,(Eq r3 ((fIn a0.2.2.1 0 1099511627776),((),())))→(X00 r3.1 (Eq ((decide ((ln a0.2.2.2)≤(900:Int))),((),())) ((X48 a0),((),()))) (Eq (false,((),())) ((X48 a0),((),()))))) (Eq (false,((),())) ((X48 a0),((),()))))) (Eq (false,((),())) ((X48 a0),((),())))))
theorem X2v.pure(a0:Xjj)(h:True)(hw:Wf X7s.A a0):X2v.F a0:=by
 delta X2v.F ln
 simp only[Bs,B0,B1,Prod.mk.injEq,X01]
 unfold X48 X8w
 refine⟨fun h1=>⟨fun h2=>⟨fun h3=>?_,fun h3=>?_⟩,fun h2=>?_⟩,fun h1=>?_⟩
 · try unfold X8w at h3
   rw[h1,h2,h3,Bool.true_and,Bool.true_and,Bool.true_and];exact decide_eq_decide.2 (by omega)
 · try unfold X8w at h3
   rw[h3];simp
 · rw[h2];simp
 · rw[h1];simp
theorem X2v.eq:EqS X7s Tryz.f50 [4] [X1N.e] [] noL (fun i x=>X2v.F x):=by intro i x;kernel_rfl
theorem X2v.ok:X0k Tryz.prog 50 X7s:=X1Z X2v.eq Tryz.func50 rfl (by kernel_rfl) fun i x h hi hw=>X2v.pure x h hw
def X2v.e:GE:=⟨50,X7s,⟨_,Tryz.func50,rfl,rfl⟩,X2v.ok⟩
def X78:Con:={A:=XpT,shA:=[.agg 4],R:=.bool,shR:=[(false,1)],pre:=fun _ _=>True,f:=some fun _ a=>((X48 a),((),()))}
def X2w.F(a0:Xjj):Prop:=(True∧∀r1,(Eq r1 ((fIn a0.1 0 4),((),())))→(X00 r1.1 (True∧∀r2,(Eq r2 ((fIn a0.2.1 0 100000),((),())))→(X00 r2.1 (True∧∀r3,(Eq r3 ((X8w a0.2.2.1),((),())))→(X00 r3.1 (Eq ((decide ((ln a0.2.2.2)≤(900:Int))),((),())) ((X48 a0),((),()))) (Eq (false,((),())) ((X48 a0),((),()))))) (Eq (false,((),())) ((X48 a0),((),()))))) (Eq (false,((),())) ((X48 a0),((),())))))
theorem X2w.pure(a0:Xjj)(h:True)(hw:Wf X78.A a0):X2w.F a0:=by
 delta X2w.F ln
 simp only[Bs,B0,B1,Prod.mk.injEq,X01]
 unfold X48 X8w
 refine⟨fun h1=>⟨fun h2=>⟨fun h3=>?_,fun h3=>?_⟩,fun h2=>?_⟩,fun h1=>?_⟩
 · try unfold X8w at h3
   rw[h1,h2,h3,Bool.true_and,Bool.true_and,Bool.true_and];exact decide_eq_decide.2 (by omega)
 · try unfold X8w at h3
   rw[h3];simp
 · rw[h2];simp
 · rw[h1];simp
theorem X2w.eq:EqS X78 Tryz.f185 [4] [X0K.e,X3A.e] [] noL (fun i x=>X2w.F x):=by intro i x;kernel_rfl
theorem X2w.ok:X0k Tryz.prog 185 X78:=X1Z X2w.eq Tryz.func185 rfl (by kernel_rfl) fun i x h hi hw=>X2w.pure x h hw
def X2w.e:GE:=⟨185,X78,⟨_,Tryz.func185,rfl,rfl⟩,X2w.ok⟩
def X7Y:Con:={A:=T0q,shA:=[.one,.one],R:=.bool,shR:=[(false,1)],pre:=fun _ _=>True,f:=some fun _ a=>((Xew a.1 a.2),((),()))}
def X3o.F(a0:Int)(a1:Int):Prop:=(Eq ((decide ((wI ((wI (a0+(1:Int)))*(100:Int)))≤a1)),((),())) ((Xew a0 a1),((),())))
theorem X3o.pure(a0:Int)(a1:Int)(h:True)(hw:Wf X7Y.A (a0,a1)):X3o.F a0 a1:=by
 delta X3o.F wI
 simp only[Bs,B0,B1,Prod.mk.injEq,X01,Xew]
theorem X3o.eq:EqS X7Y Tryz.f53 [4] [] [] noL (fun i x=>X3o.F x.1 x.2):=by intro i x;kernel_rfl
theorem X3o.ok:X0k Tryz.prog 53 X7Y:=X1Z X3o.eq Tryz.func53 rfl (by kernel_rfl) fun i x h hi hw=>X3o.pure x.1 x.2 h hw
def X3o.e:GE:=⟨53,X7Y,⟨_,Tryz.func53,rfl,rfl⟩,X3o.ok⟩
def Xap:Con:={A:=T0q,shA:=[.one,.one],R:=.bool,shR:=[(false,1)],pre:=fun _ _=>True,f:=some fun _ a=>((Xew a.1 a.2),((),()))}
def X5s.F(a0:Int)(a1:Int):Prop:=(Eq ((decide ((wI ((wI (a0+(1:Int)))*(100:Int)))≤a1)),((),())) ((Xew a0 a1),((),())))
theorem X5s.pure(a0:Int)(a1:Int)(h:True)(hw:Wf Xap.A (a0,a1)):X5s.F a0 a1:=by
 delta X5s.F wI
 simp only[Bs,B0,B1,Prod.mk.injEq,X01,Xew]
theorem X5s.eq:EqS Xap Tryz.f186 [4] [] [] noL (fun i x=>X5s.F x.1 x.2):=by intro i x;kernel_rfl
theorem X5s.ok:X0k Tryz.prog 186 Xap:=X1Z X5s.eq Tryz.func186 rfl (by kernel_rfl) fun i x h hi hw=>X5s.pure x.1 x.2 h hw
def X5s.e:GE:=⟨186,Xap,⟨_,Tryz.func186,rfl,rfl⟩,X5s.ok⟩
def X7i:Con:={A:=(.int .i64),shA:=[.one],R:=.bool,shR:=[(false,1)],pre:=fun _ _=>True,f:=some fun _ a=>(((fun a=>fIn a 1 4) a),((),()))}
def X2R.F(a0:Int):Prop:=(True∧∀r1,(Eq r1 ((fIn a0 1 4),((),())))→(Eq (r1.1,((),())) (((fun a=>fIn a 1 4) a0),((),()))))
theorem X2R.pure(a0:Int)(h:True)(hw:Wf X7i.A a0):X2R.F a0:=by
 unfold X2R.F
 simp only[Bs,B0,B1,Prod.mk.injEq,X01]
theorem X2R.eq:EqS X7i Tryz.f183 [4] [X0K.e] [] noL (fun i x=>X2R.F x):=by intro i x;kernel_rfl
theorem X2R.ok:X0k Tryz.prog 183 X7i:=X1Z X2R.eq Tryz.func183 rfl (by kernel_rfl) fun i x h hi hw=>X2R.pure x h hw
def X2R.e:GE:=⟨183,X7i,⟨_,Tryz.func183,rfl,rfl⟩,X2R.ok⟩
def X7v:Con:={A:=(.int .i64),shA:=[.one],R:=.bool,shR:=[(false,1)],pre:=fun _ _=>True,f:=some fun _ a=>(((fun a=>fIn a 1 1000000) a),((),()))}
def X2V.F(a0:Int):Prop:=(True∧∀r1,(Eq r1 ((fIn a0 1 1000000),((),())))→(Eq (r1.1,((),())) (((fun a=>fIn a 1 1000000) a0),((),()))))
theorem X2V.pure(a0:Int)(h:True)(hw:Wf X7v.A a0):X2V.F a0:=by
 unfold X2V.F
 simp only[Bs,B0,B1,Prod.mk.injEq,X01]
theorem X2V.eq:EqS X7v Tryz.f184 [4] [X0K.e] [] noL (fun i x=>X2V.F x):=by intro i x;kernel_rfl
theorem X2V.ok:X0k Tryz.prog 184 X7v:=X1Z X2V.eq Tryz.func184 rfl (by kernel_rfl) fun i x h hi hw=>X2V.pure x h hw
def X2V.e:GE:=⟨184,X7v,⟨_,Tryz.func184,rfl,rfl⟩,X2V.ok⟩
def X5O:Con:={A:=(.list T2q),shA:=[.one],R:=.bool,shR:=[(false,1)],pre:=fun _ _=>True,f:=some fun _ a=>((X3H a),((),()))}
def X1e.F(a0:(List U3q)):Prop:=(eS [(0,.val false [.lst T2q a0 none]),(5,.val false [.lst T2q a0 none]),(6,.val false [.int .i64 (ln a0)])] [(0,.val false [.lst T2q a0 none]),(5,.val false [.lst T2q a0 none]),(6,.val false [.int .i64 (ln a0)])]∧((sxI a0 0)∧∀(y1:Int),(sxI a0 y1)→(X00 (decide (y1<(ln a0))) (0≤y1∧(y1<(ln a0)∧(True∧∀r2,(Eq r2 (((fun a=>fIn a 1 4) ((List.getD a0 (tN y1) (0,(0,(0,(0,(0,[])))))).1)),((),())))→(X00 (!r2.1) (Eq (false,((),())) ((X3H a0),((),()))) (True∧∀r3,(Eq r3 (((fun a=>fIn a 1 1000000) ((List.getD a0 (tN y1) (0,(0,(0,(0,(0,[])))))).2.1)),((),())))→(X00 (!r3.1) (Eq (false,((),())) ((X3H a0),((),()))) (True∧∀r4,(Eq r4 ((X48 ((List.getD a0 (tN y1) (0,(0,(0,(0,(0,[])))))).2.2.1,((List.getD a0 (tN y1) (0,(0,(0,(0,(0,[])))))).2.2.2.1,((List.getD a0 (tN y1) (0,(0,(0,(0,(0,[])))))).2.2.2.2.1,(List.getD a0 (tN y1) (0,(0,(0,(0,(0,[])))))).2.2.2.2.2)))),((),())))→(X00 (!r4.1) (Eq (false,((),())) ((X3H a0),((),()))) (X00 (decide (y1>(0:Int))) (0≤(wI (y1 - (1:Int)))∧((wI (y1 - (1:Int)))<(ln a0)∧(X00 (decide (((List.getD a0 (tN (wI (y1 - (1:Int)))) (0,(0,(0,(0,(0,[])))))).1)≥((List.getD a0 (tN y1) (0,(0,(0,(0,(0,[])))))).1))) (Eq (false,((),())) ((X3H a0),((),()))) (eS [(0,.val false [.lst T2q a0 none]),(5,.val false [.lst T2q a0 none]),(6,.val false [.int .i64 (ln a0)])] [(0,.val false [.lst T2q a0 none]),(5,.val false [.lst T2q a0 none]),(6,.val false [.int .i64 (ln a0)])]∧(sxI a0 (wI (y1+(1:Int))))∧(sxM a0 (wI (y1+(1:Int))))<(sxM a0 y1))))) (eS [(0,.val false [.lst T2q a0 none]),(5,.val false [.lst T2q a0 none]),(6,.val false [.int .i64 (ln a0)])] [(0,.val false [.lst T2q a0 none]),(5,.val false [.lst T2q a0 none]),(6,.val false [.int .i64 (ln a0)])]∧(sxI a0 (wI (y1+(1:Int))))∧(sxM a0 (wI (y1+(1:Int))))<(sxM a0 y1))))))))))) (Eq (true,((),())) ((X3H a0),((),()))))))
def X1e.L(a0:(List U3q)):Nat→Option X0e:=fun p=>Go.Proofs.YtcfaphojdacmbaaGreatR.Bv.look p [(26,{kp:={hold:=[0,5,6],slots:=[7],boxes:=[],rows:=[]},T:=(.int .i64),I:=fun st y=>sxI a0 y,μ:=fun st y=>sxM a0 y})]
theorem X1e.pure(a0:(List U3q))(h:True)(hw:Wf X5O.A a0):X1e.F a0:=by
 delta X1e.F ln tN wI eS
 simp only[Bs,B0,B1,Prod.mk.injEq,X01,Prod.eta]
 have hl:a0.length≤9223372036854775807:=hw.1
 refine⟨⟨by omega,by omega,fun j hj=>absurd hj (by simp)⟩,?_⟩
 rintro i hI
 have q1:=hI.1
 have q2:=hI.2.1
 refine⟨fun hi=>?_,fun hi=>XpW hI hi⟩
 have K:=Xqi hI hi
 have dn:sxM a0 (i+1)<sxM a0 i:=by unfold sxM;omega
 rw[w64 (x:=i+1) (by omega) (by omega),w64 (x:=i - 1) (by omega) (by omega),show(i - 1).toNat=i.toNat - 1 by omega]
 refine⟨q1,hi,fun c=>(K.n1 c).symm,fun c1=>⟨fun c=>(K.n2 c).symm,fun c2=>⟨fun c=>(K.n3 c).symm,fun c3=>⟨fun c4=>⟨by omega,by omega,fun c=>(K.n4 c4 c).symm,fun c=>⟨K.ok c1 c2 c3 (.inr c),dn⟩⟩,fun c=>⟨K.ok c1 c2 c3 (.inl c),dn⟩⟩⟩⟩⟩
theorem X1e.eq:EqS X5O Tryz.f113 [4] [X2R.e,X2V.e,X2w.e] [] (fun i x=>X1e.L x) (fun i x=>X1e.F x):=by intro i x;kernel_rfl
theorem X1e.ok:X0k Tryz.prog 113 X5O:=X1Z X1e.eq Tryz.func113 rfl (by kernel_rfl) fun i x h hi hw=>X1e.pure x h hw
def X1e.e:GE:=⟨113,X5O,⟨_,Tryz.func113,rfl,rfl⟩,X1e.ok⟩
def X6i:Con:={A:=(.pair XaB (.int .i64)),shA:=[.one,.one],R:=.bool,shR:=[(false,1)],pre:=fun _ _=>True,f:=some fun _ a=>((X5k a.1 a.2),((),()))}
def X1D.F(a0:U6q)(a1:Int):Prop:=(eS [(0,.val false [.lst T0q a0 none]),(1,.val false [.int .i64 a1]),(7,.val false [.lst T0q a0 none]),(8,.val false [.int .i64 (ln a0)])] [(0,.val false [.lst T0q a0 none]),(1,.val false [.int .i64 a1]),(7,.val false [.lst T0q a0 none]),(8,.val false [.int .i64 (ln a0)])]∧((bkI a0 a1 0)∧∀(y1:Int),(bkI a0 a1 y1)→(X00 (decide (y1<(ln a0))) (0≤y1∧(y1<(ln a0)∧(True∧∀r2,(Eq r2 ((X8S 1099511627776),((),())))→(True∧∀r3,(Eq r3 ((fIn ((List.getD a0 (tN y1) (0,0)).1) 0 r2.1),((),())))→(X00 (!r3.1) (Eq (false,((),())) ((X5k a0 a1),((),()))) (True∧∀r4,(Eq r4 ((Xew ((List.getD a0 (tN y1) (0,0)).1) a1),((),())))→(X00 r4.1 (Eq (false,((),())) ((X5k a0 a1),((),()))) (True∧∀r5,(Eq r5 ((fIn ((List.getD a0 (tN y1) (0,0)).2) 0 1),((),())))→(X00 (!r5.1) (Eq (false,((),())) ((X5k a0 a1),((),()))) (X00 (decide (y1>(0:Int))) (0≤(wI (y1 - (1:Int)))∧((wI (y1 - (1:Int)))<(ln a0)∧(X00 (decide (((List.getD a0 (tN (wI (y1 - (1:Int)))) (0,0)).1)≥((List.getD a0 (tN y1) (0,0)).1))) (Eq (false,((),())) ((X5k a0 a1),((),()))) (eS [(0,.val false [.lst T0q a0 none]),(1,.val false [.int .i64 a1]),(7,.val false [.lst T0q a0 none]),(8,.val false [.int .i64 (ln a0)])] [(0,.val false [.lst T0q a0 none]),(1,.val false [.int .i64 a1]),(7,.val false [.lst T0q a0 none]),(8,.val false [.int .i64 (ln a0)])]∧(bkI a0 a1 (wI (y1+(1:Int))))∧(bkM a0 a1 (wI (y1+(1:Int))))<(bkM a0 a1 y1))))) (eS [(0,.val false [.lst T0q a0 none]),(1,.val false [.int .i64 a1]),(7,.val false [.lst T0q a0 none]),(8,.val false [.int .i64 (ln a0)])] [(0,.val false [.lst T0q a0 none]),(1,.val false [.int .i64 a1]),(7,.val false [.lst T0q a0 none]),(8,.val false [.int .i64 (ln a0)])]∧(bkI a0 a1 (wI (y1+(1:Int))))∧(bkM a0 a1 (wI (y1+(1:Int))))<(bkM a0 a1 y1)))))))))))) (Eq ((decide ((ln a0)≤(12:Int))),((),())) ((X5k a0 a1),((),()))))))
def X1D.L(a0:U6q)(a1:Int):Nat→Option X0e:=fun p=>Go.Proofs.YtcfaphojdacmbaaGreatR.Bv.look p [(26,{kp:={hold:=[0,1,7,8],slots:=[9],boxes:=[],rows:=[]},T:=(.int .i64),I:=fun st y=>bkI a0 a1 y,μ:=fun st y=>bkM a0 a1 y})]
theorem X1D.pure(a0:U6q)(a1:Int)(h:True)(hw:Wf X6i.A (a0,a1)):X1D.F a0 a1:=by
 delta X1D.F ln tN wI eS
 simp only[Bs,B0,B1,Prod.mk.injEq,X01,Prod.eta,XgN]
 have hl:a0.length≤9223372036854775807:=hw.1.1
 refine⟨⟨by omega,by omega,fun j hj=>absurd hj (by simp)⟩,?_⟩
 rintro i hI
 have q1:=hI.1
 have q2:=hI.2.1
 refine⟨fun hi=>?_,fun hi=>Xos hI hi⟩
 have K:=Xqx hI hi
 have dn:bkM a0 a1 (i+1)<bkM a0 a1 i:=by unfold bkM;omega
 rw[w64 (x:=i+1) (by omega) (by omega),w64 (x:=i - 1) (by omega) (by omega),show(i - 1).toNat=i.toNat - 1 by omega]
 refine⟨q1,hi,fun c=>(K.n1 c).symm,fun c1=>⟨fun c=>(K.n2 c).symm,fun c2=>⟨fun c=>(K.n3 c).symm,fun c3=>⟨fun c4=>⟨by omega,by omega,fun c=>(K.n4 c4 c).symm,fun c=>⟨K.ok c1 c2 c3 (.inr c),dn⟩⟩,fun c=>⟨K.ok c1 c2 c3 (.inl c),dn⟩⟩⟩⟩⟩
theorem X1D.eq:EqS X6i Tryz.f116 [4] [X2W.e,X0K.e,X5s.e] [] (fun i x=>X1D.L x.1 x.2) (fun i x=>X1D.F x.1 x.2):=by intro i x;kernel_rfl
theorem X1D.ok:X0k Tryz.prog 116 X6i:=X1Z X1D.eq Tryz.func116 rfl (by kernel_rfl) fun i x h hi hw=>X1D.pure x.1 x.2 h hw
def X1D.e:GE:=⟨116,X6i,⟨_,Tryz.func116,rfl,rfl⟩,X1D.ok⟩
def X4i:Con:={A:=Xjp,shA:=[.agg 3],R:=.bool,shR:=[(false,1)],pre:=fun _ _=>True,f:=some fun _ a=>((X9s a),((),()))}
def X0Z.F(a0:Xad):Prop:=(X00 (a0.1==(0:Int)) (X00 ((ln a0.2.1)==(0:Int)) (Eq (((ln a0.2.2)==(0:Int)),((),())) ((X9s a0),((),()))) (Eq (false,((),())) ((X9s a0),((),())))) (Eq (false,((),())) ((X9s a0),((),()))))
theorem X0Z.pure(a0:Xad)(h:True)(hw:Wf X4i.A a0):X0Z.F a0:=by
 delta X0Z.F ln
 simp only[Bs,B0,B1,Prod.mk.injEq,X01]
 unfold X9s
 refine⟨fun h1=>⟨fun h2=>?_,fun h2=>?_⟩,fun h1=>?_⟩
 · rw[decide_eq_true h1,decide_eq_true (by omega:a0.2.1.length=0),Bool.true_and,Bool.true_and,Bool.eq_iff_iff];simp
 · rw[decide_eq_false (by omega:¬a0.2.1.length=0)];simp
 · rw[decide_eq_false h1];simp
theorem X0Z.eq:EqS X4i Tryz.f51 [4] [] [] noL (fun i x=>X0Z.F x):=by intro i x;kernel_rfl
theorem X0Z.ok:X0k Tryz.prog 51 X4i:=X1Z X0Z.eq Tryz.func51 rfl (by kernel_rfl) fun i x h hi hw=>X0Z.pure x h hw
def X0Z.e:GE:=⟨51,X4i,⟨_,Tryz.func51,rfl,rfl⟩,X0Z.ok⟩
def X7X:Con:={A:=T8q,shA:=[.agg 8],R:=.bool,shR:=[(false,1)],pre:=fun _ a=>(pSt a),f:=some fun _ a=>((X2A a),((),()))}
def X3q.F(a0:U7q):Prop:=(True∧∀r1,(Eq r1 ((X3H a0.2.2.2.2.2),((),())))→(X00 (!r1.1) (Eq (false,((),())) ((X2A a0),((),()))) (X00 (a0.1==(1:Int)) (True∧∀r2,(Eq r2 ((fIn a0.2.1 0 100000),((),())))→(X00 r2.1 (True∧∀r3,(Eq r3 ((X8w a0.2.2.1),((),())))→(X00 r3.1 (True∧∀r4,(Eq r4 ((X5k a0.2.2.2.1 a0.2.2.1),((),())))→(X00 r4.1 (X00 (a0.2.2.2.2.1.1==(0:Int)) (Eq (((wI ((ln a0.2.2.2.2.1.2.1)+(ln a0.2.2.2.2.1.2.2)))==(0:Int)),((),())) ((X2A a0),((),()))) (Eq (false,((),())) ((X2A a0),((),())))) (Eq (false,((),())) ((X2A a0),((),()))))) (Eq (false,((),())) ((X2A a0),((),()))))) (Eq (false,((),())) ((X2A a0),((),()))))) (X00 (a0.1==(2:Int)) (X00 (a0.2.1==(0:Int)) (X00 (a0.2.2.1==(0:Int)) (X00 ((ln a0.2.2.2.1)==(0:Int)) ((XoD (a0.2.2.2.2.1.1,(a0.2.2.2.2.1.2.1,a0.2.2.2.2.1.2.2)))∧∀r5,(Eq r5 ((X5o (a0.2.2.2.2.1.1,(a0.2.2.2.2.1.2.1,a0.2.2.2.2.1.2.2))),((),())))→(Eq (r5.1,((),())) ((X2A a0),((),())))) (Eq (false,((),())) ((X2A a0),((),())))) (Eq (false,((),())) ((X2A a0),((),())))) (Eq (false,((),())) ((X2A a0),((),())))) (Eq (false,((),())) ((X2A a0),((),())))))))
theorem X3q.pure(a0:U7q)(h:(pSt a0))(hw:Wf X7X.A a0):X3q.F a0:=by
 delta X3q.F ln wI
 simp only[Bs,B0,B1,Prod.mk.injEq,X01,Prod.eta]
 obtain⟨hp,hl1,hl2⟩:=h
 have no:∀b,X3H a0.2.2.2.2.2=true→a0.1=1→(fIn a0.2.1 0 100000&&(X8w a0.2.2.1&&(X5k a0.2.2.2.1 a0.2.2.1&&X9s a0.2.2.2.2.1)))=b→b=X2A a0:=fun b h h1 h2=>by unfold X2A;rw[h,if_pos h1,h2,Bool.true_and]
 have no2:∀b,X3H a0.2.2.2.2.2=true→a0.1=2→(decide (a0.2.1=0)&&(decide (a0.2.2.1=0)&&(decide (a0.2.2.2.1.length=0)&&X5o a0.2.2.2.2.1)))=b→b=X2A a0:=fun b h h1 h2=>by unfold X2A;rw[h,if_neg (by omega),if_pos h1,h2,Bool.true_and]
 have no3:¬a0.1=1→¬a0.1=2→false=X2A a0:=fun h1 h2=>by unfold X2A;rw[if_neg h1,if_neg h2,Bool.and_false]
 have no0:X3H a0.2.2.2.2.2=false→false=X2A a0:=fun h=>by unfold X2A;rw[h,Bool.false_and]
 rw[w64 (x:=(a0.2.2.2.2.1.2.1.length:Int)+a0.2.2.2.2.1.2.2.length) (by omega) (by omega)]
 refine⟨no0,fun h0=>⟨fun h1=>⟨fun h2=>⟨fun h3=>⟨fun h4=>⟨fun h5=>no _ h0 h1 ?_,fun h5=>no _ h0 h1 ?_⟩,fun h4=>no _ h0 h1 (by simp[h4])⟩,fun h3=>no _ h0 h1 (by simp[h3])⟩,fun h2=>no _ h0 h1 (by simp[h2])⟩,fun h1=>⟨fun h1b=>⟨fun h2=>⟨fun h3=>⟨fun h4=>⟨hp,no2 _ h0 h1b ?_⟩,fun h4=>no2 _ h0 h1b ?_⟩,fun h3=>no2 _ h0 h1b (by simp[h3])⟩,fun h2=>no2 _ h0 h1b (by simp[h2])⟩,fun h1b=>no3 h1 h1b⟩⟩⟩
 · rw[h2,h3,h4]
   unfold X9s
   rw[decide_eq_true h5]
   simp only[Bool.true_and]
   rw[Bool.eq_iff_iff]
   simp only[beq_iff_eq,Bool.and_eq_true,decide_eq_true_eq]
   omega
 · rw[h2,h3,h4];unfold X9s;rw[decide_eq_false h5];rfl
 · rw[decide_eq_true h2,decide_eq_true h3,decide_eq_true (by omega:a0.2.2.2.1.length=0)];simp
 · rw[decide_eq_false (by omega:¬a0.2.2.2.1.length=0)];simp
theorem X3q.eq:EqS X7X Tryz.f45 [4] [X2U.e,X1e.e,X0K.e,X3A.e,X1D.e] [] noL (fun i x=>X3q.F x):=by intro i x;kernel_rfl
theorem X3q.ok:X0k Tryz.prog 45 X7X:=X1Z X3q.eq Tryz.func45 rfl (by kernel_rfl) fun i x h hi hw=>X3q.pure x h hw
def X3q.e:GE:=⟨45,X7X,⟨_,Tryz.func45,rfl,rfl⟩,X3q.ok⟩
def X83:Con:={A:=T8q,shA:=[.agg 8],R:=.bool,shR:=[(false,1)],pre:=fun _ a=>(pSt a),f:=some fun _ a=>((X2A a),((),()))}
def X2K.F(a0:U7q):Prop:=(X00 (decide ((ln a0.2.2.2.2.2)>(4:Int))) (Eq (false,((),())) ((X2A a0),((),()))) (eS [(1,.box 2 0)] [(1,.box 2 0)]∧((stI a0 0 a0.1 a0.2.1 a0.2.2.1 a0.2.2.2.1 a0.2.2.2.2.1.1 a0.2.2.2.2.1.2.1 a0.2.2.2.2.1.2.2 a0.2.2.2.2.2)∧∀(y1:Xr4),(stI a0 y1.1 y1.2.1 y1.2.2.1 y1.2.2.2.1 y1.2.2.2.2.1 y1.2.2.2.2.2.1 y1.2.2.2.2.2.2.1 y1.2.2.2.2.2.2.2.1 y1.2.2.2.2.2.2.2.2)→(X00 (decide (y1.1<(ln y1.2.2.2.2.2.2.2.2))) (0≤y1.1∧(y1.1<(ln y1.2.2.2.2.2.2.2.2)∧(True∧∀r2,(Eq r2 ((fIn ((List.getD y1.2.2.2.2.2.2.2.2 (tN y1.1) (0,(0,(0,(0,(0,[])))))).1) 1 4),((),())))→(X00 (!r2.1) (Eq (false,((),())) ((X2A a0),((),()))) (X00 (decide (y1.1>(0:Int))) (0≤(wI (y1.1 - (1:Int)))∧((wI (y1.1 - (1:Int)))<(ln y1.2.2.2.2.2.2.2.2)∧(X00 (decide (((List.getD y1.2.2.2.2.2.2.2.2 (tN (wI (y1.1 - (1:Int)))) (0,(0,(0,(0,(0,[])))))).1)≥((List.getD y1.2.2.2.2.2.2.2.2 (tN y1.1) (0,(0,(0,(0,(0,[])))))).1))) (Eq (false,((),())) ((X2A a0),((),()))) (True∧∀r3,(Eq r3 ((fIn ((List.getD y1.2.2.2.2.2.2.2.2 (tN y1.1) (0,(0,(0,(0,(0,[])))))).2.1) 1 1000000),((),())))→(X00 (!r3.1) (Eq (false,((),())) ((X2A a0),((),()))) (True∧∀r4,(Eq r4 ((X48 ((List.getD y1.2.2.2.2.2.2.2.2 (tN y1.1) (0,(0,(0,(0,(0,[])))))).2.2.1,((List.getD y1.2.2.2.2.2.2.2.2 (tN y1.1) (0,(0,(0,(0,(0,[])))))).2.2.2.1,((List.getD y1.2.2.2.2.2.2.2.2 (tN y1.1) (0,(0,(0,(0,(0,[])))))).2.2.2.2.1,(List.getD y1.2.2.2.2.2.2.2.2 (tN y1.1) (0,(0,(0,(0,(0,[])))))).2.2.2.2.2)))),((),())))→(X00 (!r4.1) (Eq (false,((),())) ((X2A a0),((),()))) (eS [(1,.box 2 0)] [(1,.box 2 0)]∧(stI a0 (wI (y1.1+(1:Int))) y1.2.1 y1.2.2.1 y1.2.2.2.1 y1.2.2.2.2.1 y1.2.2.2.2.2.1 y1.2.2.2.2.2.2.1 y1.2.2.2.2.2.2.2.1 y1.2.2.2.2.2.2.2.2)∧(stM a0 (wI (y1.1+(1:Int))) y1.2.1 y1.2.2.1 y1.2.2.2.1 y1.2.2.2.2.1 y1.2.2.2.2.2.1 y1.2.2.2.2.2.2.1 y1.2.2.2.2.2.2.2.1 y1.2.2.2.2.2.2.2.2)<(stM a0 y1.1 y1.2.1 y1.2.2.1 y1.2.2.2.1 y1.2.2.2.2.1 y1.2.2.2.2.2.1 y1.2.2.2.2.2.2.1 y1.2.2.2.2.2.2.2.1 y1.2.2.2.2.2.2.2.2))))))))) (True∧∀r5,(Eq r5 ((fIn ((List.getD y1.2.2.2.2.2.2.2.2 (tN y1.1) (0,(0,(0,(0,(0,[])))))).2.1) 1 1000000),((),())))→(X00 (!r5.1) (Eq (false,((),())) ((X2A a0),((),()))) (True∧∀r6,(Eq r6 ((X48 ((List.getD y1.2.2.2.2.2.2.2.2 (tN y1.1) (0,(0,(0,(0,(0,[])))))).2.2.1,((List.getD y1.2.2.2.2.2.2.2.2 (tN y1.1) (0,(0,(0,(0,(0,[])))))).2.2.2.1,((List.getD y1.2.2.2.2.2.2.2.2 (tN y1.1) (0,(0,(0,(0,(0,[])))))).2.2.2.2.1,(List.getD y1.2.2.2.2.2.2.2.2 (tN y1.1) (0,(0,(0,(0,(0,[])))))).2.2.2.2.2)))),((),())))→(X00 (!r6.1) (Eq (false,((),())) ((X2A a0),((),()))) (eS [(1,.box 2 0)] [(1,.box 2 0)]∧(stI a0 (wI (y1.1+(1:Int))) y1.2.1 y1.2.2.1 y1.2.2.2.1 y1.2.2.2.2.1 y1.2.2.2.2.2.1 y1.2.2.2.2.2.2.1 y1.2.2.2.2.2.2.2.1 y1.2.2.2.2.2.2.2.2)∧(stM a0 (wI (y1.1+(1:Int))) y1.2.1 y1.2.2.1 y1.2.2.2.1 y1.2.2.2.2.1 y1.2.2.2.2.2.1 y1.2.2.2.2.2.2.1 y1.2.2.2.2.2.2.2.1 y1.2.2.2.2.2.2.2.2)<(stM a0 y1.1 y1.2.1 y1.2.2.1 y1.2.2.2.1 y1.2.2.2.2.1 y1.2.2.2.2.2.1 y1.2.2.2.2.2.2.1 y1.2.2.2.2.2.2.2.1 y1.2.2.2.2.2.2.2.2))))))))))) (X00 (y1.2.1==(1:Int)) (True∧∀r7,(Eq r7 ((fIn y1.2.2.1 0 100000),((),())))→(X00 (!r7.1) (Eq (false,((),())) ((X2A a0),((),()))) (True∧∀r8,(Eq r8 ((fIn y1.2.2.2.1 0 1099511627776),((),())))→(X00 (!r8.1) (Eq (false,((),())) ((X2A a0),((),()))) (X00 (decide ((ln y1.2.2.2.2.1)>(12:Int))) (Eq (false,((),())) ((X2A a0),((),()))) (True∧∀r9,(Eq r9 ((X9s (y1.2.2.2.2.2.1,(y1.2.2.2.2.2.2.1,y1.2.2.2.2.2.2.2.1))),((),())))→(X00 (!r9.1) (Eq (false,((),())) ((X2A a0),((),()))) (eS [(1,.box 2 0)] [(1,.box 2 0)]∧((suI a0 0 y1.2.1 y1.2.2.1 y1.2.2.2.1 y1.2.2.2.2.1 y1.2.2.2.2.2.1 y1.2.2.2.2.2.2.1 y1.2.2.2.2.2.2.2.1 y1.2.2.2.2.2.2.2.2)∧∀(y10:Xr4),(suI a0 y10.1 y10.2.1 y10.2.2.1 y10.2.2.2.1 y10.2.2.2.2.1 y10.2.2.2.2.2.1 y10.2.2.2.2.2.2.1 y10.2.2.2.2.2.2.2.1 y10.2.2.2.2.2.2.2.2)→(X00 (decide (y10.1<(ln y10.2.2.2.2.1))) (0≤y10.1∧(y10.1<(ln y10.2.2.2.2.1)∧(True∧∀r11,(Eq r11 ((X8S 1099511627776),((),())))→(True∧∀r12,(Eq r12 ((fIn ((List.getD y10.2.2.2.2.1 (tN y10.1) (0,0)).1) 0 r11.1),((),())))→(X00 (!r12.1) (Eq (false,((),())) ((X2A a0),((),()))) (X00 (decide (y10.1>(0:Int))) (0≤(wI (y10.1 - (1:Int)))∧((wI (y10.1 - (1:Int)))<(ln y10.2.2.2.2.1)∧(X00 (decide (((List.getD y10.2.2.2.2.1 (tN (wI (y10.1 - (1:Int)))) (0,0)).1)≥((List.getD y10.2.2.2.2.1 (tN y10.1) (0,0)).1))) (Eq (false,((),())) ((X2A a0),((),()))) (True∧∀r13,(Eq r13 ((Xew ((List.getD y10.2.2.2.2.1 (tN y10.1) (0,0)).1) y10.2.2.2.1),((),())))→(X00 r13.1 (Eq (false,((),())) ((X2A a0),((),()))) (True∧∀r14,(Eq r14 ((fIn ((List.getD y10.2.2.2.2.1 (tN y10.1) (0,0)).2) 0 1),((),())))→(X00 (!r14.1) (Eq (false,((),())) ((X2A a0),((),()))) (eS [(1,.box 2 0)] [(1,.box 2 0)]∧(suI a0 (wI (y10.1+(1:Int))) y10.2.1 y10.2.2.1 y10.2.2.2.1 y10.2.2.2.2.1 y10.2.2.2.2.2.1 y10.2.2.2.2.2.2.1 y10.2.2.2.2.2.2.2.1 y10.2.2.2.2.2.2.2.2)∧(suM a0 (wI (y10.1+(1:Int))) y10.2.1 y10.2.2.1 y10.2.2.2.1 y10.2.2.2.2.1 y10.2.2.2.2.2.1 y10.2.2.2.2.2.2.1 y10.2.2.2.2.2.2.2.1 y10.2.2.2.2.2.2.2.2)<(suM a0 y10.1 y10.2.1 y10.2.2.1 y10.2.2.2.1 y10.2.2.2.2.1 y10.2.2.2.2.2.1 y10.2.2.2.2.2.2.1 y10.2.2.2.2.2.2.2.1 y10.2.2.2.2.2.2.2.2))))))))) (True∧∀r15,(Eq r15 ((Xew ((List.getD y10.2.2.2.2.1 (tN y10.1) (0,0)).1) y10.2.2.2.1),((),())))→(X00 r15.1 (Eq (false,((),())) ((X2A a0),((),()))) (True∧∀r16,(Eq r16 ((fIn ((List.getD y10.2.2.2.2.1 (tN y10.1) (0,0)).2) 0 1),((),())))→(X00 (!r16.1) (Eq (false,((),())) ((X2A a0),((),()))) (eS [(1,.box 2 0)] [(1,.box 2 0)]∧(suI a0 (wI (y10.1+(1:Int))) y10.2.1 y10.2.2.1 y10.2.2.2.1 y10.2.2.2.2.1 y10.2.2.2.2.2.1 y10.2.2.2.2.2.2.1 y10.2.2.2.2.2.2.2.1 y10.2.2.2.2.2.2.2.2)∧(suM a0 (wI (y10.1+(1:Int))) y10.2.1 y10.2.2.1 y10.2.2.2.1 y10.2.2.2.2.1 y10.2.2.2.2.2.1 y10.2.2.2.2.2.2.1 y10.2.2.2.2.2.2.2.1 y10.2.2.2.2.2.2.2.2)<(suM a0 y10.1 y10.2.1 y10.2.2.1 y10.2.2.2.1 y10.2.2.2.2.1 y10.2.2.2.2.2.1 y10.2.2.2.2.2.2.1 y10.2.2.2.2.2.2.2.1 y10.2.2.2.2.2.2.2.2)))))))))))) (Eq (true,((),())) ((X2A a0),((),()))))))))))))) (X00 (y1.2.1==(2:Int)) (X00 (y1.2.2.1==(0:Int)) (X00 (y1.2.2.2.1==(0:Int)) (X00 ((ln y1.2.2.2.2.1)==(0:Int)) ((XoD (y1.2.2.2.2.2.1,(y1.2.2.2.2.2.2.1,y1.2.2.2.2.2.2.2.1)))∧∀r17,(Eq r17 ((X5o (y1.2.2.2.2.2.1,(y1.2.2.2.2.2.2.1,y1.2.2.2.2.2.2.2.1))),((),())))→(Eq (r17.1,((),())) ((X2A a0),((),())))) (Eq (false,((),())) ((X2A a0),((),())))) (Eq (false,((),())) ((X2A a0),((),())))) (Eq (false,((),())) ((X2A a0),((),())))) (Eq (false,((),())) ((X2A a0),((),())))))))))
def X2K.L(a0:U7q):Nat→Option X0e:=fun p=>Go.Proofs.YtcfaphojdacmbaaGreatR.Bv.look p [(58,{kp:={hold:=[1],slots:=[3],boxes:=[2],rows:=[]},T:=T9q,I:=fun st y=>stI a0 y.1 y.2.1 y.2.2.1 y.2.2.2.1 y.2.2.2.2.1 y.2.2.2.2.2.1 y.2.2.2.2.2.2.1 y.2.2.2.2.2.2.2.1 y.2.2.2.2.2.2.2.2,μ:=fun st y=>stM a0 y.1 y.2.1 y.2.2.1 y.2.2.2.1 y.2.2.2.2.1 y.2.2.2.2.2.1 y.2.2.2.2.2.2.1 y.2.2.2.2.2.2.2.1 y.2.2.2.2.2.2.2.2}),(7850,{kp:={hold:=[1],slots:=[5],boxes:=[2],rows:=[]},T:=T9q,I:=fun st y=>suI a0 y.1 y.2.1 y.2.2.1 y.2.2.2.1 y.2.2.2.2.1 y.2.2.2.2.2.1 y.2.2.2.2.2.2.1 y.2.2.2.2.2.2.2.1 y.2.2.2.2.2.2.2.2,μ:=fun st y=>suM a0 y.1 y.2.1 y.2.2.1 y.2.2.2.1 y.2.2.2.2.1 y.2.2.2.2.2.1 y.2.2.2.2.2.2.1 y.2.2.2.2.2.2.2.1 y.2.2.2.2.2.2.2.2})]
theorem X2K.pure(a0:U7q)(h:(pSt a0))(hw:Wf X83.A a0):X2K.F a0:=by
 delta X2K.F ln tN wI eS
 simp only[Bs,B0,B1,Prod.mk.injEq,X01,Prod.eta,XgN]
 obtain⟨hp,hl1,hl2⟩:=h
 have no:∀b,X3H a0.2.2.2.2.2=true→a0.1=1→(fIn a0.2.1 0 100000&&(X8w a0.2.2.1&&(X5k a0.2.2.2.1 a0.2.2.1&&X9s a0.2.2.2.2.1)))=b→b=X2A a0:=fun b h h1 h2=>by unfold X2A;rw[h,if_pos h1,h2,Bool.true_and]
 have no2:∀b,X3H a0.2.2.2.2.2=true→a0.1=2→(decide (a0.2.1=0)&&(decide (a0.2.2.1=0)&&(decide (a0.2.2.2.1.length=0)&&X5o a0.2.2.2.2.1)))=b→b=X2A a0:=fun b h h1 h2=>by unfold X2A;rw[h,if_neg (by omega),if_pos h1,h2,Bool.true_and]
 have no3:¬a0.1=1→¬a0.1=2→false=X2A a0:=fun h1 h2=>by unfold X2A;rw[if_neg h1,if_neg h2,Bool.and_false]
 have no0:X3H a0.2.2.2.2.2=false→false=X2A a0:=fun h=>by unfold X2A;rw[h,Bool.false_and]
 have hw1:a0.2.2.2.2.2.length≤9223372036854775807:=hw.2.2.2.2.2.1
 have hw2:a0.2.2.2.1.length≤9223372036854775807:=hw.2.2.2.1.1
 refine⟨fun h0=>no0 ?_,fun h0=>⟨⟨rfl,by omega,by omega,fun j hj=>absurd hj (by simp)⟩,?_⟩⟩
 · rw[Bool.eq_false_iff];intro hs;have:=Xl5 hs;omega
 rintro⟨i,k,hh,m,b,f,c,g,s⟩ ⟨ea,hI⟩
 simp only at ea hI ⊢
 subst ea
 simp only at*
 have q1:=hI.1
 have q2:=hI.2.1
 refine⟨fun hi=>?_,fun hi=>?_⟩
 · have K:=Xqi hI hi
   have st:∀{P:Prop},P→sxM s (i+1)<sxM s i∧P:=fun h=>⟨by unfold sxM;omega,h⟩
   have dn:sxM s (i+1)<sxM s i:=by unfold sxM;omega
   rw[w64 (x:=i+1) (by omega) (by omega),w64 (x:=i - 1) (by omega) (by omega),show(i - 1).toNat=i.toNat - 1 by omega]
   refine⟨q1,hi,fun c=>no0 (K.n1 c),fun c1=>⟨fun c4=>⟨by omega,by omega,fun c=>no0 (K.n4 c4 c),fun c5=>⟨fun c=>no0 (K.n2 c),fun c2=>⟨fun c=>no0 (K.n3 c),fun c3=>⟨⟨rfl,K.ok c1 c2 c3 (.inr c5)⟩,dn⟩⟩⟩⟩,fun c4=>⟨fun c=>no0 (K.n2 c),fun c2=>⟨fun c=>no0 (K.n3 c),fun c3=>⟨⟨rfl,K.ok c1 c2 c3 (.inl c4)⟩,dn⟩⟩⟩⟩⟩
 have hs:X3H s=true:=(XpW hI hi).symm
 refine⟨fun h1=>⟨fun h2=>no _ hs h1 (by simp[h2]),fun h2=>⟨fun h3=>no _ hs h1 (by unfold X8w;simp[h3]),fun h3=>⟨fun h4=>no _ hs h1 ?_,fun h4=>⟨fun h5=>no _ hs h1 (by simp[h5]),fun h5=>⟨⟨rfl,by omega,by omega,fun j hj=>absurd hj (by simp)⟩,?_⟩⟩⟩⟩⟩,fun h1=>⟨fun h1b=>⟨fun h2=>⟨fun h3=>⟨fun h4=>⟨hp,no2 _ hs h1b ?_⟩,fun h4=>no2 _ hs h1b ?_⟩,fun h3=>no2 _ hs h1b (by simp[h3])⟩,fun h2=>no2 _ hs h1b (by simp[h2])⟩,fun h1b=>no3 h1 h1b⟩⟩
 · unfold X5k;rw[decide_eq_false (by omega:¬b.length≤12)];simp
 · rintro⟨i',k',hh',m',b',f',c',g',s'⟩ ⟨ea,hJ⟩
   simp only at ea hJ ⊢
   obtain⟨rfl,rfl,rfl,rfl,⟨rfl,rfl,rfl⟩,rfl⟩:k=k'∧hh=hh'∧m=m'∧b=b'∧(f=f'∧c=c'∧g=g')∧s=s':=by
    simp only[Prod.mk.injEq]at ea;exact⟨ea.1,ea.2.1,ea.2.2.1,ea.2.2.2.1,⟨ea.2.2.2.2.1.1,ea.2.2.2.2.1.2.1,ea.2.2.2.2.1.2.2⟩,ea.2.2.2.2.2⟩
   have r1:=hJ.1
   have r2:=hJ.2.1
   refine⟨fun hi'=>?_,fun hi'=>?_⟩
   · have K:=Xqx hJ hi'
     have bad:X5k b m=false→false=X2A (k,hh,m,b,(f,c,g),s):=fun h=>no _ hs h1 (by simp[h])
     have dn:bkM b m (i'+1)<bkM b m i':=by unfold bkM;omega
     rw[w64 (x:=i'+1) (by omega) (by omega),w64 (x:=i' - 1) (by omega) (by omega),show(i' - 1).toNat=i'.toNat - 1 by omega]
     refine⟨r1,hi',fun c=>bad (K.n1 c),fun c1=>⟨fun c4=>⟨by omega,by omega,fun c=>bad (K.n4 c4 c),fun c5=>⟨fun c=>bad (K.n2 c),fun c2=>⟨fun c=>bad (K.n3 c),fun c3=>⟨⟨rfl,K.ok c1 c2 c3 (.inr c5)⟩,dn⟩⟩⟩⟩,fun c4=>⟨fun c=>bad (K.n2 c),fun c2=>⟨fun c=>bad (K.n3 c),fun c3=>⟨⟨rfl,K.ok c1 c2 c3 (.inl c4)⟩,dn⟩⟩⟩⟩⟩
   · have hb:X5k b m=true:=by rw[←Xos hJ hi'];exact decide_eq_true (by omega)
     exact no _ hs h1 (by rw[h2,hb,h5];unfold X8w;rw[h3];rfl)
 · rw[decide_eq_true h2,decide_eq_true h3,decide_eq_true (by omega:b.length=0)];simp
 · rw[decide_eq_false (by omega:¬b.length=0)];simp
theorem X2K.eq:EqS X83 Tryz.f15 [4] [X2b.e,X1N.e,X2v.e,X0Z.e,X31.e,X3o.e] [] (fun i x=>X2K.L x) (fun i x=>X2K.F x):=by intro i x;kernel_rfl
theorem X2K.ok:X0k Tryz.prog 15 X83:=X1Z X2K.eq Tryz.func15 rfl (by kernel_rfl) fun i x h hi hw=>X2K.pure x h hw
def X2K.e:GE:=⟨15,X83,⟨_,Tryz.func15,rfl,rfl⟩,X2K.ok⟩
end Go.Proofs.YtcfaphojdacmbaaGreatR.B
