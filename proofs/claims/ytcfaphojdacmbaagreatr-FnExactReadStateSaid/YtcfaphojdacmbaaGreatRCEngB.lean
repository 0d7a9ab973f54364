/- Engines:right or not,in the program. -/
import Derived.Test.YtcfaphojdacmbaaGreatRCEng
set_option maxRecDepth 100000
set_option linter.unusedVariables false
set_option linter.unusedSimpArgs false
namespace Go.Proofs.YtcfaphojdacmbaaGreatR.B
open Go Go.Proofs.YtcfaphojdacmbaaGreatR.Bv
def Xg4(l:List Ser):Int:=cL (fun x:Ser=>(x.2.length:Int)) l
theorem Xh0(l:List Ser):0≤Xg4 l∧Xg4 l+l.length=tot l:=by
 unfold Xg4 tot
 induction l with
 | nil=>simp[cL]
 | cons x l ih=>have e:cS x=(x.2.length:Int)+1:=rfl;rw[X3Z,X3Z,List.length_cons];omega
def Xq7(l:List Ser):Prop:=tot l≤100000000
def cnI(l:List Ser)(n i:Int):Prop:=0≤i∧i≤l.length∧n=Xg4 (l.take i.toNat)
def cnM(l:List Ser)(n i:Int):Nat:=(l.length - i).toNat
theorem Xnr{l:List Ser}{n i:Int}(h:cnI l n i)(hi:i<l.length):cnI l (n+((l.getD i.toNat ([],[])).2.length:Int)) (i+1):=by
 obtain⟨h1,h2,h3⟩:=h
 refine⟨by omega,by omega,?_⟩
 unfold Xg4 at h3 ⊢
 rw[tn1 h1,(X4a (fun x:Ser=>(x.2.length:Int)) ([],[]) (by omega:i.toNat<l.length)).1,h3]
theorem Xs3{l:List Ser}{n i:Int}(h:cnI l n i)(hi:i<l.length):0≤n∧n+((l.getD i.toNat ([],[])).2.length:Int)≤Xg4 l:=by
 obtain⟨h1,h2,h3⟩:=h
 have a:=(X4a (fun x:Ser=>(x.2.length:Int)) ([],[]) (by omega:i.toNat<l.length)).2
 have b:=(Xh0 (l.take i.toNat)).1
 have c:=(Xh0 (l.drop (i.toNat+1))).1
 unfold Xg4 at*
 omega
theorem XpS{l:List Ser}{n i:Int}(h:cnI l n i)(hi:¬i<l.length):n=Xg4 l:=by
 obtain⟨h1,h2,h3⟩:=h
 rw[h3,show i.toNat=l.length by omega,List.take_length]
def Xlk(c:Eng)(x:Ser):Bool:=decide ((x.2.getD 0 (0,0)).1<c.1)
def fLow(x:Ser)(c:Eng):Bool:=Xlk c x
def Xt7(x:Ser)(c:Eng):Prop:=x.2≠[]
def Xkd(l:List Ser)(c:Eng):Prop:=l.length≤1099511627776∧∀x∈l,x.2≠[]
def Xg1(l:List Ser)(c:Eng):Int:=if l.findIdx (Xlk c)<l.length then((l.findIdx (Xlk c):Nat):Int) else -1
def ilI(l:List Ser)(c:Eng)(i:Int):Prop:=0≤i∧i≤l.length∧∀j,j<i.toNat→Xlk c (l.getD j ([],[]))=false
def ilM(l:List Ser)(c:Eng)(i:Int):Nat:=(l.length - i).toNat
theorem Xsn{l:List Ser}{c:Eng}{i:Int}(h:ilI l c i)(hi:i<l.length)(hd:Xlk c (l.getD i.toNat ([],[]))=true):i=Xg1 l c:=by
 obtain⟨h1,h2,h3⟩:=h
 have e:l.findIdx (Xlk c)=i.toNat:=by
  refine(List.findIdx_eq (by omega)).2 ⟨by rw[X1w (by omega)]at hd;exact hd,fun j hj=>?_⟩
  have:=h3 j hj
  rw[X1w (by omega)]at this;exact this
 unfold Xg1
 rw[e,if_pos (by omega)];omega
theorem il_no{l:List Ser}{c:Eng}{i:Int}(h:ilI l c i)(hi:¬i<l.length):-1=Xg1 l c:=by
 obtain⟨h1,h2,h3⟩:=h
 have e:¬l.findIdx (Xlk c)<l.length:=fun hlt=>by
  have a:=List.findIdx_getElem (w:=hlt)
  have b:=h3 (l.findIdx (Xlk c)) (by omega)
  rw[X1w hlt,a]at b;cases b
 unfold Xg1
 rw[if_neg e]
def XjV(l:List Ser)(c:Eng):Bool:=l.any (Xlk c)
theorem XqN(l:List Ser)(c:Eng):decide (Xg1 l c≥0)=XjV l c:=by
 unfold Xg1 XjV
 rw[Bool.eq_iff_iff,decide_eq_true_eq,List.any_eq_true]
 constructor
 · intro h
   split at h
   · rename_i hlt;exact⟨_,List.getElem_mem hlt,List.findIdx_getElem (w:=hlt)⟩
   · omega
 · rintro⟨x,hx,hd⟩
   rw[if_pos (List.findIdx_lt_length_of_exists ⟨x,hx,hd⟩)];omega
def X8x:Con:={A:=X5X,shA:=[.one],R:=(.int .i64),shR:=[(false,1)],pre:=fun _ a=>(Xq7 a),f:=some fun _ a=>((Xg4 a),((),()))}
def X3d.F(a0:U1q):Prop:=(eS [(6,.val false [.lst T4q a0 none]),(7,.val false [.int .i64 (ln a0)])] [(6,.val false [.lst T4q a0 none]),(7,.val false [.int .i64 (ln a0)])]∧((cnI a0 0 0)∧∀(y1:(Int×Int)),(cnI a0 y1.1 y1.2)→(X00 (decide (y1.2<(ln a0))) (0≤y1.2∧(y1.2<(ln a0)∧(eS [(6,.val false [.lst T4q a0 none]),(7,.val false [.int .i64 (ln a0)])] [(6,.val false [.lst T4q a0 none]),(7,.val false [.int .i64 (ln a0)])]∧(cnI a0 (wI (y1.1+(ln ((List.getD a0 (tN y1.2) ([],[])).2)))) (wI (y1.2+(1:Int))))∧(cnM a0 (wI (y1.1+(ln ((List.getD a0 (tN y1.2) ([],[])).2)))) (wI (y1.2+(1:Int))))<(cnM a0 y1.1 y1.2)))) (Eq (y1.1,((),())) ((Xg4 a0),((),()))))))
def X3d.L(a0:U1q):Nat→Option X0e:=fun p=>Go.Proofs.YtcfaphojdacmbaaGreatR.Bv.look p [(58,{kp:={hold:=[6,7],slots:=[3,8],boxes:=[],rows:=[]},T:=T0q,I:=fun st y=>cnI a0 y.1 y.2,μ:=fun st y=>cnM a0 y.1 y.2})]
theorem X3d.pure(a0:U1q)(h:(Xq7 a0))(hw:Wf X8x.A a0):X3d.F a0:=by
 delta X3d.F ln tN wI eS
 simp only[Bs,B0,B1,Prod.mk.injEq,X01]
 have hn:tot a0≤100000000:=h
 have k0:=Xh0 a0
 have k1:=XaX a0
 refine⟨⟨by omega,by omega,by simp[Xg4,cL]⟩,?_⟩
 rintro⟨n,i⟩ hI
 simp only at hI ⊢
 have q1:=hI.1
 have q2:=hI.2.1
 refine⟨fun hi=>?_,fun hi=>XpS hI hi⟩
 have k2:=Xs3 hI hi
 have st:=Xnr hI hi
 rw[w64 (x:=i+1) (by omega) (by omega),w64 (by omega) (by omega)]
 exact⟨q1,hi,st,by unfold cnM;omega⟩
theorem X3d.eq:EqS X8x Tryz.f93 [3] [] [] (fun i x=>X3d.L x) (fun i x=>X3d.F x):=by intro i x;kernel_rfl
theorem X3d.ok:X0k Tryz.prog 93 X8x:=X1Z X3d.eq Tryz.func93 rfl (by kernel_rfl) fun i x h hi hw=>X3d.pure x h hw
def X3d.e:GE:=⟨93,X8x,⟨_,Tryz.func93,rfl,rfl⟩,X3d.ok⟩
def X4L:Con:={A:=(.pair T4q Xjp),shA:=[.agg 2,.ptr 3],R:=.bool,shR:=[(false,1)],pre:=fun _ a=>(Xt7 a.1 a.2),f:=some fun _ a=>((fLow a.1 a.2),((),()))}
def X0F.F(a0:(U5q×U6q))(a1:Xad):Prop:=(0≤(0:Int)∧((0:Int)<(ln a0.2)∧(Eq ((decide (((List.getD a0.2 (tN (0:Int)) (0,0)).1)<a1.1)),((),())) ((fLow a0 a1),((),())))))
theorem X0F.pure(a0:(U5q×U6q))(a1:Xad)(h:(Xt7 a0 a1))(hw:Wf X4L.A (a0,a1)):X0F.F a0 a1:=by
 delta X0F.F ln tN
 simp only[Bs,B0,B1,Prod.mk.injEq,X01,Xt7,Prod.eta]
 have hp:a0.2≠[]:=h
 have:0<a0.2.length:=List.length_pos_iff.2 hp
 exact⟨by omega,by omega,rfl⟩
theorem X0F.eq:EqS X4L Tryz.f166 [4] [] [] noL (fun i x=>X0F.F x.1 x.2):=by intro i x;kernel_rfl
theorem X0F.ok:X0k Tryz.prog 166 X4L:=X1Z X0F.eq Tryz.func166 rfl (by kernel_rfl) fun i x h hi hw=>X0F.pure x.1 x.2 h hw
def X0F.e:GE:=⟨166,X4L,⟨_,Tryz.func166,rfl,rfl⟩,X0F.ok⟩
def X0I:Con:={A:=(.pair X5X Xjp),shA:=[.one,.clo 166 [3]],R:=(.int .i64),shR:=[(false,1)],pre:=fun _ a=>(Xkd a.1 a.2),f:=some fun _ a=>((Xg1 a.1 a.2),((),()))}
def X08.F(a0:U1q)(a1:Xad):Prop:=(eS [(0,.val false [.lst T4q a0 none]),(1,.fn 166 [] [.ptr [.int .i64 a1.1,.lst T4q a1.2.1 none,.lst .str a1.2.2 none]]),(7,.val false [.int .i64 (ln a0)])] [(0,.val false [.lst T4q a0 none]),(1,.fn 166 [] [.ptr [.int .i64 a1.1,.lst T4q a1.2.1 none,.lst .str a1.2.2 none]]),(7,.val false [.int .i64 (ln a0)])]∧((ilI a0 a1 0)∧∀(y1:Int),(ilI a0 a1 y1)→(X00 (decide (y1<(ln a0))) (0≤y1∧(y1<(ln a0)∧((Xt7 ((List.getD a0 (tN y1) ([],[])).1,(List.getD a0 (tN y1) ([],[])).2) (a1.1,(a1.2.1,a1.2.2)))∧∀r2,(Eq r2 ((fLow ((List.getD a0 (tN y1) ([],[])).1,(List.getD a0 (tN y1) ([],[])).2) (a1.1,(a1.2.1,a1.2.2))),((),())))→(X00 r2.1 (Eq (y1,((),())) ((Xg1 a0 a1),((),()))) (eS [(0,.val false [.lst T4q a0 none]),(1,.fn 166 [] [.ptr [.int .i64 a1.1,.lst T4q a1.2.1 none,.lst .str a1.2.2 none]]),(7,.val false [.int .i64 (ln a0)])] [(0,.val false [.lst T4q a0 none]),(1,.fn 166 [] [.ptr [.int .i64 a1.1,.lst T4q a1.2.1 none,.lst .str a1.2.2 none]]),(7,.val false [.int .i64 (ln a0)])]∧(ilI a0 a1 (wI (y1+(1:Int))))∧(ilM a0 a1 (wI (y1+(1:Int))))<(ilM a0 a1 y1)))))) (Eq ((-1),((),())) ((Xg1 a0 a1),((),()))))))
def X08.L(a0:U1q)(a1:Xad):Nat→Option X0e:=fun p=>Go.Proofs.YtcfaphojdacmbaaGreatR.Bv.look p [(26,{kp:={hold:=[0,1,7],slots:=[8],boxes:=[],rows:=[]},T:=(.int .i64),I:=fun st y=>ilI a0 a1 y,μ:=fun st y=>ilM a0 a1 y})]
theorem X08.pure(a0:U1q)(a1:Xad)(h:(Xkd a0 a1))(hw:Wf X0I.A (a0,a1)):X08.F a0 a1:=by
 delta X08.F ln tN wI eS
 simp only[Bs,B0,B1,Prod.mk.injEq,X01,Prod.eta,fLow,Xt7]
 obtain⟨hl,hne⟩:=h
 refine⟨⟨by omega,by omega,fun j hj=>absurd hj (by simp)⟩,?_⟩
 rintro i hI
 have q1:=hI.1
 have q2:=hI.2.1
 rw[w64 (x:=i+1) (by omega) (by omega)]
 refine⟨fun hi=>⟨q1,hi,hne _ (X2g (by omega)),fun hd=>Xsn hI hi hd,fun hd=>⟨⟨by omega,by omega,fun j hj=>?_⟩,by unfold ilM;omega⟩⟩,fun hi=>il_no hI hi⟩
 by_cases e:j=i.toNat
 · rw[e];exact hd
 · exact hI.2.2 j (by omega)
theorem X08.eq:EqS X0I Tryz.f222 [3] [X0F.e] [] (fun i x=>X08.L x.1 x.2) (fun i x=>X08.F x.1 x.2):=by intro i x;kernel_rfl
theorem X08.ok:X0k Tryz.prog 222 X0I:=X1Z X08.eq Tryz.func222 rfl (by kernel_rfl) fun i x h hi hw=>X08.pure x.1 x.2 h hw
def X08.e:GE:=⟨222,X0I,⟨_,Tryz.func222,rfl,rfl⟩,X08.ok⟩
def X0z:Con:={A:=(.pair X5X Xjp),shA:=[.one,.clo 166 [3]],R:=.bool,shR:=[(false,1)],pre:=fun _ a=>(Xkd a.1 a.2),f:=some fun _ a=>((XjV a.1 a.2),((),()))}
def X0b.F(a0:U1q)(a1:Xad):Prop:=((Xkd a0 (a1.1,(a1.2.1,a1.2.2)))∧∀r1,(Eq r1 ((Xg1 a0 (a1.1,(a1.2.1,a1.2.2))),((),())))→(Eq ((decide (r1.1≥(0:Int))),((),())) ((XjV a0 a1),((),()))))
theorem X0b.pure(a0:U1q)(a1:Xad)(h:(Xkd a0 a1))(hw:Wf X0z.A (a0,a1)):X0b.F a0 a1:=by
 unfold X0b.F
 simp only[Bs,B0,B1,Prod.mk.injEq,X01,Prod.eta]
 exact⟨h,XqN _ _⟩
theorem X0b.eq:EqS X0z Tryz.f165 [4] [X0F.e,X08.e] [] noL (fun i x=>X0b.F x.1 x.2):=by intro i x;kernel_rfl
theorem X0b.ok:X0k Tryz.prog 165 X0z:=X1Z X0b.eq Tryz.func165 rfl (by kernel_rfl) fun i x h hi hw=>X0b.pure x.1 x.2 h hw
def X0b.e:GE:=⟨165,X0z,⟨_,Tryz.func165,rfl,rfl⟩,X0b.ok⟩
def XhY(fs:List U5q):List (List Ser):=fs.map fun f=>(X0g f).1
def okF(fs:List U5q):Bool:=fs.all fun f=>(X0g f).2
theorem Xp1(f:List UInt8)(h:(X0g f).2=true):X2i (X0g f).1=true:=by
 unfold X0g at h ⊢
 split at h
 · rename_i hr;rw[if_pos hr];exact hr.1.1
 · cases h
theorem Xfk(f:List UInt8):Xf5 (X0g f).1∧tot (X0g f).1≤305∧∀x∈(X0g f).1,x.1.length≤8:=by
 by_cases h:(X0g f).2=true
 · obtain⟨h1,h2,h3,h4⟩:=Xau (Xp1 f h)
   exact⟨h1,h2,fun x hx=>(h4 x hx).1⟩
 · have:(X0g f).1=[]:=by
    unfold X0g at h ⊢
    split
    · rename_i hr;rw[if_pos hr]at h;exact absurd rfl h
    · rfl
   rw[this]
   exact⟨XpE,by simp[tot,cL],fun x hx=>by cases hx⟩
def X4Z(e:Eng):List Ser×Bool:=if okF e.2.2=true then(X3J (X8F (Xaw (XhY e.2.2)) e.2.1) e.1,true) else([],false)
def XjX(e:Eng):Prop:=(∀f∈e.2.2,Xc9 f)∧Xf5 e.2.1∧tot e.2.1≤100000∧e.2.2.length≤1000
structure plI (e:Eng) (i:Int) (fl:Int) (ca:List Ser) (fi:List U5q) (out:List Ser):Prop where
 h0:((fl,(ca,fi)):Eng)=e
 h1:0≤i
 h2:i≤e.2.2.length
 h3:out=Xaw (XhY (e.2.2.take i.toNat))
 h4:Xf5 out
 h5:tot out≤305*i
 h6:okF (e.2.2.take i.toNat)=true
def plM(e:Eng)(i:Int)(fl:Int)(ca:List Ser)(fi:List U5q)(out:List Ser):Nat:=(e.2.2.length - i).toNat
theorem XqX{e:Eng}{i fl:Int}{ca:List Ser}{fi:List U5q}{out:List Ser}(h:plI e i fl ca fi out)(hi:i<e.2.2.length)(hr:(X0g (e.2.2.getD i.toNat [])).2=true):plI e (i+1) fl ca fi (X8F out (X0g (e.2.2.getD i.toNat [])).1):=by
 obtain⟨h0,h1,h2,h3,h4,h5,h6⟩:=h
 obtain⟨r1,r2,_⟩:=Xfk (e.2.2.getD i.toNat [])
 have ht:=XeJ h4 r1.2
 refine⟨h0,by omega,by omega,?_,Xhy h4 r1.2,by omega,?_⟩
 · rw[tn1 h1,X0P [] (by omega),h3]
   simp only[XhY,Xaw,List.map_append,List.foldl_append,List.map_cons,List.map_nil,List.foldl_cons,List.foldl_nil]
 · rw[tn1 h1,X0P [] (by omega)]
   simp only[okF,List.all_append,List.all_cons,List.all_nil,Bool.and_true,Bool.and_eq_true]at h6 ⊢
   exact⟨h6,hr⟩
theorem pl_no{e:Eng}{i:Nat}(hi:i<e.2.2.length)(hr:(X0g (e.2.2.getD i [])).2=false):([],false)=X4Z e:=by
 unfold X4Z
 rw[if_neg]
 intro h
 have:=List.all_eq_true.1 h _ (X2g (d:=[]) hi)
 rw[hr]at this;cases this
theorem Xss{e:Eng}{i fl:Int}{ca:List Ser}{fi:List U5q}{out:List Ser}(h:plI e i fl ca fi out)(hi:¬i<e.2.2.length):(X3J (X8F out e.2.1) e.1,true)=X4Z e:=by
 obtain⟨h0,h1,h2,h3,h4,h5,h6⟩:=h
 have e1:i.toNat=e.2.2.length:=by omega
 rw[e1,List.take_length]at h3 h6
 unfold X4Z
 rw[if_pos h6,h3]
def X9y:Con:={A:=Xjp,shA:=[.agg 3],R:=(.pair X5X .bool),shR:=[(false,1),(false,1)],fresh:=[(0,83)],pre:=fun _ a=>(XjX a),f:=some fun _ a=>((X4Z a),((),()))}
def X3O.F(a0:Xad):Prop:=(eS [(1,.box 2 0),(11,.val false [.lst .str a0.2.2 none]),(12,.val false [.int .i64 (ln a0.2.2)])] [(1,.box 2 0),(11,.val false [.lst .str a0.2.2 none]),(12,.val false [.int .i64 (ln a0.2.2)])]∧((plI a0 0 a0.1 a0.2.1 a0.2.2 ([]:List (U5q×U6q)))∧∀(y1:(Int×(Int×(U1q×((List U5q)×U1q))))),(plI a0 y1.1 y1.2.1 y1.2.2.1 y1.2.2.2.1 y1.2.2.2.2)→(X00 (decide (y1.1<(ln a0.2.2))) (0≤y1.1∧(y1.1<(ln a0.2.2)∧((Xc9 (List.getD a0.2.2 (tN y1.1) []))∧∀r2,(Eq r2 ((X0g (List.getD a0.2.2 (tN y1.1) [])),((),())))→(X00 (!r2.1.2) (Eq ((([]:U1q),false),((),())) ((X4Z a0),((),()))) ((Xp0 y1.2.2.2.2 r2.1.1)∧∀r3,(Eq r3 ((X8F y1.2.2.2.2 r2.1.1),((),())))→(eS [(1,.box 2 0),(11,.val false [.lst .str a0.2.2 none]),(12,.val false [.int .i64 (ln a0.2.2)])] [(1,.box 2 0),(11,.val false [.lst .str a0.2.2 none]),(12,.val false [.int .i64 (ln a0.2.2)])]∧(plI a0 (wI (y1.1+(1:Int))) y1.2.1 y1.2.2.1 y1.2.2.2.1 r3.1)∧(plM a0 (wI (y1.1+(1:Int))) y1.2.1 y1.2.2.1 y1.2.2.2.1 r3.1)<(plM a0 y1.1 y1.2.1 y1.2.2.1 y1.2.2.2.1 y1.2.2.2.2))))))) ((Xp0 y1.2.2.2.2 y1.2.2.1)∧∀r4,(Eq r4 ((X8F y1.2.2.2.2 y1.2.2.1),((),())))→((Xhi r4.1 y1.2.1)∧∀r5,(Eq r5 ((X3J r4.1 y1.2.1),((),())))→(Eq ((r5.1,true),((),())) ((X4Z a0),((),()))))))))
def X3O.L(a0:Xad):Nat→Option X0e:=fun p=>Go.Proofs.YtcfaphojdacmbaaGreatR.Bv.look p [(58,{kp:={hold:=[1,11,12],slots:=[4,13],boxes:=[2],rows:=[{bx:=false,s:=4,i:=0,k:=1000515,e:=83,hot:=true}]},T:=(.pair (.int .i64) (.pair (.int .i64) (.pair X5X (.pair (.list .str) X5X)))),I:=fun st y=>plI a0 y.1 y.2.1 y.2.2.1 y.2.2.2.1 y.2.2.2.2,μ:=fun st y=>plM a0 y.1 y.2.1 y.2.2.1 y.2.2.2.1 y.2.2.2.2})]
theorem X3O.pure(a0:Xad)(h:(XjX a0))(hw:Wf X9y.A a0):X3O.F a0:=by
 delta X3O.F ln tN wI eS
 simp only[Bs,B0,B1,Prod.mk.injEq,X01,Prod.eta,Xhi]
 obtain⟨hf,hc,hn,hl⟩:=h
 refine⟨⟨rfl,by omega,by omega,by simp[Xaw,XhY],XpE,by simp[tot,cL],by simp[okF]⟩,?_⟩
 rintro⟨i,fl,ca,fi,out⟩ hI
 simp only at hI ⊢
 have q1:=hI.h1
 have q2:=hI.h2
 have q5:=hI.h5
 refine⟨fun hi=>?_,fun hi=>?_⟩
 · have hm:=X2g (d:=([]:List UInt8)) (by omega:i.toNat<a0.2.2.length)
   obtain⟨r1,r2,_⟩:=Xfk (a0.2.2.getD i.toNat [])
   rw[w64 (x:=i+1) (by omega) (by omega)]
   exact⟨q1,hi,hf _ hm,fun hr=>pl_no (by omega) hr,fun hr=>⟨⟨hI.h4,r1.2,by omega⟩,XqX hI hi hr,by unfold plM;omega⟩⟩
 · have he:=Xss hI hi
   have ht:=XeJ hI.h4 hc.2
   obtain rfl:=hI.h0
   simp only at hn he ht hc hl hi q2 ⊢
   exact⟨⟨hI.h4,hc.2,by omega⟩,by omega,he⟩
theorem X3O.eq:EqS X9y Tryz.f98 [25,4] [X1T.e,X4o.e,X3e.e] [] (fun i x=>X3O.L x) (fun i x=>X3O.F x):=by intro i x;kernel_rfl
theorem X3O.ok:X0k Tryz.prog 98 X9y:=X1Z X3O.eq Tryz.func98 rfl (by kernel_rfl) fun i x h hi hw=>X3O.pure x h hw
def X3O.e:GE:=⟨98,X9y,⟨_,Tryz.func98,rfl,rfl⟩,X3O.ok⟩
def XaE(e:Eng):Bool:=X8w e.1&&(X2i e.2.1&&(decide (Xg4 e.2.1≤40)&&(decide (e.2.2.length≤4)&&!XjV e.2.1 e)))
def X3z(e:Eng):List Ser×Bool:=if XaE e=true then(if (X4Z e).2=true then((X4Z e).1,X2i (X4Z e).1) else((X4Z e).1,false)) else([],false)
def X5o(e:Eng):Bool:=(X3z e).2
def XoD(e:Eng):Prop:=X4v e.2.1∧∀f∈e.2.2,Xc9 f
theorem XpF{l:List Ser}{s:Ser}{n:Nat}(h:∀x∈l,x.1.length≤n)(hs:s.1.length≤n):∀x∈XiI l s,x.1.length≤n:=fun x hx=>by
 rcases XkG hx with hx | rfl | ⟨y,hy,rfl⟩
 · exact h x hx
 · exact hs
 · exact h y hy
theorem XeI{n:Nat}:∀{t l:List Ser},(∀x∈l,x.1.length≤n)→(∀x∈t,x.1.length≤n)→∀x∈X8F l t,x.1.length≤n
 | [],_,h,_=>h
 | s::t,l,h,ht=>XeI (t:=t) (XpF h (ht s (by simp))) fun x hx=>ht x (by simp[hx])
theorem Xgq{n:Nat}:∀(ls:List (List Ser)) (l:List Ser),(∀x∈l,x.1.length≤n)→(∀t∈ls,∀x∈t,x.1.length≤n)→∀x∈ls.foldl X8F l,x.1.length≤n
 | [],_,h,_=>h
 | t::ls,l,h,ht=>Xgq ls (X8F l t) (XeI h (ht t (by simp))) fun x hx=>ht x (by simp[hx])
theorem Xlx{n:Nat}{l:List Ser}(h:∀x∈l,x.1.length≤n)(f:Int):∀x∈X3J l f,x.1.length≤n:=fun x hx=>by
 obtain⟨y,hy,rfl⟩:=XlL hx
 exact h y hy
theorem Xjb{e:Eng}(h:∀x∈e.2.1,x.1.length≤8):∀x∈(X4Z e).1,x.1.length≤8:=by
 unfold X4Z
 split
 · refine Xlx (XeI (Xgq _ _ (fun x hx=>by cases hx) fun t ht x hx=>?_) h) _
   obtain⟨f,_,rfl⟩:=List.mem_map.1 ht
   exact(Xfk f).2.2 x hx
 · intro x hx;cases hx
theorem XpQ{l:List Ser}(h:∀x∈l,x.1.length≤8):X4v l:=fun x hx=>Nat.le_trans (h x hx) (by decide)
def X5K:Con:={A:=Xjp,shA:=[.agg 3],R:=(.pair X5X .bool),shR:=[(false,1),(false,1)],fresh:=[(0,83)],pre:=fun _ a=>(XoD a),f:=some fun _ a=>((X3z a),((),()))}
def X26.F(a0:Xad):Prop:=(True∧∀r1,(Eq r1 ((fIn a0.1 0 1099511627776),((),())))→(X00 (!r1.1) (Eq ((([]:U1q),false),((),())) ((X3z a0),((),()))) ((X4v a0.2.1)∧∀r2,(Eq r2 ((X2i a0.2.1),((),())))→(X00 (!r2.1) (Eq ((([]:U1q),false),((),())) ((X3z a0),((),()))) ((Xq7 a0.2.1)∧∀r3,(Eq r3 ((Xg4 a0.2.1),((),())))→(X00 (decide (r3.1>(40:Int))) (Eq ((([]:U1q),false),((),())) ((X3z a0),((),()))) (X00 (decide ((ln a0.2.2)>(4:Int))) (Eq ((([]:U1q),false),((),())) ((X3z a0),((),()))) ((Xkd a0.2.1 (a0.1,(a0.2.1,a0.2.2)))∧∀r4,(Eq r4 ((XjV a0.2.1 (a0.1,(a0.2.1,a0.2.2))),((),())))→(X00 r4.1 (Eq ((([]:U1q),false),((),())) ((X3z a0),((),()))) ((XjX (a0.1,(a0.2.1,a0.2.2)))∧∀r5,(Eq r5 ((X4Z (a0.1,(a0.2.1,a0.2.2))),((),())))→(X00 r5.1.2 ((X4v r5.1.1)∧∀r6,(Eq r6 ((X2i r5.1.1),((),())))→(Eq ((r5.1.1,r6.1),((),())) ((X3z a0),((),())))) (Eq ((r5.1.1,false),((),())) ((X3z a0),((),()))))))))))))))
theorem X26.pure(a0:Xad)(h:(XoD a0))(hw:Wf X5K.A a0):X26.F a0:=by
 delta X26.F ln
 simp only[Bs,B0,B1,Prod.mk.injEq,X01,Prod.eta]
 obtain⟨hk,hf⟩:=h
 have no:XaE a0=false→(([]:List Ser),false)=X3z a0:=fun h=>by unfold X3z;rw[if_neg (by rw[h];decide)]
 refine⟨fun h1=>no (by unfold XaE X8w;rw[h1];rfl),fun h1=>⟨hk,fun h2=>no (by unfold XaE;rw[h2];simp),fun h2=>?_⟩⟩
 obtain⟨s1,s2,s3,s4⟩:=Xau h2
 have hne:Xkd a0.2.1 a0:=⟨by omega,fun x hx=>(s4 x hx).2.1⟩
 refine⟨by unfold Xq7;omega,fun h3=>no ?_,fun h3=>⟨fun h4=>no ?_,fun h4=>⟨hne,fun h5=>no ?_,fun h5=>?_⟩⟩⟩
 · have:decide (Xg4 a0.2.1≤40)=false:=decide_eq_false (by omega)
   unfold XaE;rw[this];simp
 · have:decide (a0.2.2.length≤4)=false:=decide_eq_false (by omega)
   unfold XaE;rw[this];simp
 · unfold XaE;rw[h5];simp
 have hh:XaE a0=true:=by
  unfold XaE X8w
  rw[h1,h2,h5,decide_eq_true (by omega:Xg4 a0.2.1≤40),decide_eq_true (by omega:a0.2.2.length≤4)];rfl
 refine⟨⟨hf,s1,by omega,by omega⟩,fun h6=>⟨XpQ (Xjb fun x hx=>(s4 x hx).1),?_⟩,fun h6=>?_⟩
 · unfold X3z;rw[if_pos hh,if_pos h6]
 · unfold X3z;rw[if_pos hh,if_neg (by rw[h6];decide)]
theorem X26.eq:EqS X5K Tryz.f87 [25,4] [X1P.e,X3d.e,X3O.e,X0K.e,X0b.e,X0F.e] [] noL (fun i x=>X26.F x):=by intro i x;kernel_rfl
theorem X26.ok:X0k Tryz.prog 87 X5K:=X1Z X26.eq Tryz.func87 rfl (by kernel_rfl) fun i x h hi hw=>X26.pure x h hw
def X26.e:GE:=⟨87,X5K,⟨_,Tryz.func87,rfl,rfl⟩,X26.ok⟩
def X7t:Con:={A:=Xjp,shA:=[.agg 3],R:=.bool,shR:=[(false,1)],pre:=fun _ a=>(XoD a),f:=some fun _ a=>((X5o a),((),()))}
def X2U.F(a0:Xad):Prop:=((XoD (a0.1,(a0.2.1,a0.2.2)))∧∀r1,(Eq r1 ((X3z (a0.1,(a0.2.1,a0.2.2))),((),())))→(Eq (r1.1.2,((),())) ((X5o a0),((),()))))
theorem X2U.pure(a0:Xad)(h:(XoD a0))(hw:Wf X7t.A a0):X2U.F a0:=by
 unfold X2U.F
 simp only[Bs,B0,B1,Prod.mk.injEq,X01,X5o]
 repeat' (with_reducible (first | (refine And.intro ?_ ?_) | intro _))
 all_goals (try simp (disch:=omega) only[w64,wu8,tn0,tn1,tm1,tm2,List.length_append,List.length_cons,List.length_nil]at*)
 all_goals (try simp (disch:=omega) only[w64,wu8,tn0,tn1,tm1,tm2,List.length_append,List.length_cons,List.length_nil]at*)
 all_goals (try omega)
 all_goals (try grind[])
theorem X2U.eq:EqS X7t Tryz.f97 [4] [X26.e] [] noL (fun i x=>X2U.F x):=by intro i x;kernel_rfl
theorem X2U.ok:X0k Tryz.prog 97 X7t:=X1Z X2U.eq Tryz.func97 rfl (by kernel_rfl) fun i x h hi hw=>X2U.pure x h hw
def X2U.e:GE:=⟨97,X7t,⟨_,Tryz.func97,rfl,rfl⟩,X2U.ok⟩
end Go.Proofs.YtcfaphojdacmbaaGreatR.B
