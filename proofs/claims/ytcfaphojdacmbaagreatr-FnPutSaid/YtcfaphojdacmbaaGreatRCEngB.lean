/- Engines:right or not,in the program. -/
import Derived.Test.YtcfaphojdacmbaaGreatRCEng
set_option maxRecDepth 100000
set_option linter.unusedVariables false
set_option linter.unusedSimpArgs false
namespace Go.Proofs.YtcfaphojdacmbaaGreatR.B
open Go Go.Proofs.YtcfaphojdacmbaaGreatR.Bv
def X9F(l:List Ser):Int:=cL (fun x:Ser=>(x.2.length:Int)) l
theorem XgB(l:List Ser):0≤X9F l∧X9F l+l.length=tot l:=by
 unfold X9F tot
 induction l with
 | nil=>simp[cL]
 | cons x l ih=>have e:cS x=(x.2.length:Int)+1:=rfl;rw[X4C,X4C,List.length_cons];omega
def Xl3(l:List Ser):Prop:=tot l≤100000000
def cnI(l:List Ser)(n i:Int):Prop:=0≤i∧i≤l.length∧n=X9F (l.take i.toNat)
def cnM(l:List Ser)(n i:Int):Nat:=(l.length - i).toNat
theorem Xlq{l:List Ser}{n i:Int}(h:cnI l n i)(hi:i<l.length):cnI l (n+((l.getD i.toNat ([],[])).2.length:Int)) (i+1):=by
 obtain⟨h1,h2,h3⟩:=h
 refine⟨by omega,by omega,?_⟩
 unfold X9F at h3 ⊢
 rw[tn1 h1,(Xbk (fun x:Ser=>(x.2.length:Int)) ([],[]) (by omega:i.toNat<l.length)).1,h3]
theorem Xqo{l:List Ser}{n i:Int}(h:cnI l n i)(hi:i<l.length):0≤n∧n+((l.getD i.toNat ([],[])).2.length:Int)≤X9F l:=by
 obtain⟨h1,h2,h3⟩:=h
 have a:=(Xbk (fun x:Ser=>(x.2.length:Int)) ([],[]) (by omega:i.toNat<l.length)).2
 have b:=(XgB (l.take i.toNat)).1
 have c:=(XgB (l.drop (i.toNat+1))).1
 unfold X9F at*
 omega
theorem Xov{l:List Ser}{n i:Int}(h:cnI l n i)(hi:¬i<l.length):n=X9F l:=by
 obtain⟨h1,h2,h3⟩:=h
 rw[h3,show i.toNat=l.length by omega,List.take_length]
def Xih(c:Eng)(x:Ser):Bool:=decide ((x.2.getD 0 (0,0)).1<c.1)
def fLow(x:Ser)(c:Eng):Bool:=Xih c x
def Xr6(x:Ser)(c:Eng):Prop:=x.2≠[]
def Xj8(l:List Ser)(c:Eng):Prop:=l.length≤1099511627776∧∀x∈l,x.2≠[]
def Xfe(l:List Ser)(c:Eng):Int:=if l.findIdx (Xih c)<l.length then((l.findIdx (Xih c):Nat):Int) else -1
def ilI(l:List Ser)(c:Eng)(i:Int):Prop:=0≤i∧i≤l.length∧∀j,j<i.toNat→Xih c (l.getD j ([],[]))=false
def ilM(l:List Ser)(c:Eng)(i:Int):Nat:=(l.length - i).toNat
theorem Xqy{l:List Ser}{c:Eng}{i:Int}(h:ilI l c i)(hi:i<l.length)(hd:Xih c (l.getD i.toNat ([],[]))=true):i=Xfe l c:=by
 obtain⟨h1,h2,h3⟩:=h
 have e:l.findIdx (Xih c)=i.toNat:=by
  refine(List.findIdx_eq (by omega)).2 ⟨by rw[X0R (by omega)]at hd;exact hd,fun j hj=>?_⟩
  have:=h3 j hj
  rw[X0R (by omega)]at this;exact this
 unfold Xfe
 rw[e,if_pos (by omega)];omega
theorem il_no{l:List Ser}{c:Eng}{i:Int}(h:ilI l c i)(hi:¬i<l.length):-1=Xfe l c:=by
 obtain⟨h1,h2,h3⟩:=h
 have e:¬l.findIdx (Xih c)<l.length:=fun hlt=>by
  have a:=List.findIdx_getElem (w:=hlt)
  have b:=h3 (l.findIdx (Xih c)) (by omega)
  rw[X0R hlt,a]at b;cases b
 unfold Xfe
 rw[if_neg e]
def XeP(l:List Ser)(c:Eng):Bool:=l.any (Xih c)
theorem XpE(l:List Ser)(c:Eng):decide (Xfe l c≥0)=XeP l c:=by
 unfold Xfe XeP
 rw[Bool.eq_iff_iff,decide_eq_true_eq,List.any_eq_true]
 constructor
 · intro h
   split at h
   · rename_i hlt;exact⟨_,List.getElem_mem hlt,List.findIdx_getElem (w:=hlt)⟩
   · omega
 · rintro⟨x,hx,hd⟩
   rw[if_pos (List.findIdx_lt_length_of_exists ⟨x,hx,hd⟩)];omega
def X7i:Con:={A:=T9q,shA:=[.one],R:=(.int .i64),shR:=[(false,1)],pre:=fun _ a=>(Xl3 a),f:=some fun _ a=>((X9F a),((),()))}
def X2C.F(a0:(List U1q)):Prop:=(eS [(6,.val false [.lst T2q a0 none]),(7,.val false [.int .i64 (ln a0)])] [(6,.val false [.lst T2q a0 none]),(7,.val false [.int .i64 (ln a0)])]∧((cnI a0 0 0)∧∀(y1:(Int×Int)),(cnI a0 y1.1 y1.2)→(X00 (decide (y1.2<(ln a0))) (0≤y1.2∧(y1.2<(ln a0)∧(eS [(6,.val false [.lst T2q a0 none]),(7,.val false [.int .i64 (ln a0)])] [(6,.val false [.lst T2q a0 none]),(7,.val false [.int .i64 (ln a0)])]∧(cnI a0 (wI (y1.1+(ln ((List.getD a0 (tN y1.2) ([],[])).2)))) (wI (y1.2+(1:Int))))∧(cnM a0 (wI (y1.1+(ln ((List.getD a0 (tN y1.2) ([],[])).2)))) (wI (y1.2+(1:Int))))<(cnM a0 y1.1 y1.2)))) (Eq (y1.1,((),())) ((X9F a0),((),()))))))
def X2C.L(a0:(List U1q)):Nat→Option X0d:=fun p=>Go.Proofs.YtcfaphojdacmbaaGreatR.Bv.look p [(58,{kp:={hold:=[6,7],slots:=[3,8],boxes:=[],rows:=[]},T:=T0q,I:=fun st y=>cnI a0 y.1 y.2,μ:=fun st y=>cnM a0 y.1 y.2})]
theorem X2C.pure(a0:(List U1q))(h:(Xl3 a0))(hw:Wf X7i.A a0):X2C.F a0:=by
 delta X2C.F ln tN wI eS
 simp only[Bs,B0,B1,Prod.mk.injEq,X01]
 have hn:tot a0≤100000000:=h
 have k0:=XgB a0
 have k1:=X76 a0
 refine⟨⟨by omega,by omega,by simp[X9F,cL]⟩,?_⟩
 rintro⟨n,i⟩ hI
 simp only at hI ⊢
 have q1:=hI.1
 have q2:=hI.2.1
 refine⟨fun hi=>?_,fun hi=>Xov hI hi⟩
 have k2:=Xqo hI hi
 have st:=Xlq hI hi
 rw[w64 (x:=i+1) (by omega) (by omega),w64 (by omega) (by omega)]
 exact⟨q1,hi,st,by unfold cnM;omega⟩
theorem X2C.eq:EqS X7i Tryz.f93 [3] [] [] (fun i x=>X2C.L x) (fun i x=>X2C.F x):=by intro i x;kernel_rfl
theorem X2C.ok:X0l Tryz.prog 93 X7i:=X2d X2C.eq Tryz.func93 rfl (by kernel_rfl) fun i x h hi hw=>X2C.pure x h hw
def X2C.e:GE:=⟨93,X7i,⟨_,Tryz.func93,rfl,rfl⟩,X2C.ok⟩
def X4a:Con:={A:=(.pair T2q T4q),shA:=[.agg 2,.ptr 3],R:=.bool,shR:=[(false,1)],pre:=fun _ a=>(Xr6 a.1 a.2),f:=some fun _ a=>((fLow a.1 a.2),((),()))}
def X0F.F(a0:U1q)(a1:U3q):Prop:=(0≤(0:Int)∧((0:Int)<(ln a0.2)∧(Eq ((decide (((List.getD a0.2 (tN (0:Int)) (0,0)).1)<a1.1)),((),())) ((fLow a0 a1),((),())))))
theorem X0F.pure(a0:U1q)(a1:U3q)(h:(Xr6 a0 a1))(hw:Wf X4a.A (a0,a1)):X0F.F a0 a1:=by
 delta X0F.F ln tN
 simp only[Bs,B0,B1,Prod.mk.injEq,X01,Xr6,Prod.eta]
 have hp:a0.2≠[]:=h
 have:0<a0.2.length:=List.length_pos_iff.2 hp
 exact⟨by omega,by omega,rfl⟩
theorem X0F.eq:EqS X4a Tryz.f166 [4] [] [] noL (fun i x=>X0F.F x.1 x.2):=by intro i x;kernel_rfl
theorem X0F.ok:X0l Tryz.prog 166 X4a:=X2d X0F.eq Tryz.func166 rfl (by kernel_rfl) fun i x h hi hw=>X0F.pure x.1 x.2 h hw
def X0F.e:GE:=⟨166,X4a,⟨_,Tryz.func166,rfl,rfl⟩,X0F.ok⟩
def X0G:Con:={A:=(.pair T9q T4q),shA:=[.one,.clo 166 [3]],R:=(.int .i64),shR:=[(false,1)],pre:=fun _ a=>(Xj8 a.1 a.2),f:=some fun _ a=>((Xfe a.1 a.2),((),()))}
def X07.F(a0:(List U1q))(a1:U3q):Prop:=(eS [(0,.val false [.lst T2q a0 none]),(1,.fn 166 [] [.ptr [.int .i64 a1.1,.lst T2q a1.2.1 none,.lst .str a1.2.2 none]]),(7,.val false [.int .i64 (ln a0)])] [(0,.val false [.lst T2q a0 none]),(1,.fn 166 [] [.ptr [.int .i64 a1.1,.lst T2q a1.2.1 none,.lst .str a1.2.2 none]]),(7,.val false [.int .i64 (ln a0)])]∧((ilI a0 a1 0)∧∀(y1:Int),(ilI a0 a1 y1)→(X00 (decide (y1<(ln a0))) (0≤y1∧(y1<(ln a0)∧((Xr6 ((List.getD a0 (tN y1) ([],[])).1,(List.getD a0 (tN y1) ([],[])).2) (a1.1,(a1.2.1,a1.2.2)))∧∀r2,(Eq r2 ((fLow ((List.getD a0 (tN y1) ([],[])).1,(List.getD a0 (tN y1) ([],[])).2) (a1.1,(a1.2.1,a1.2.2))),((),())))→(X00 r2.1 (Eq (y1,((),())) ((Xfe a0 a1),((),()))) (eS [(0,.val false [.lst T2q a0 none]),(1,.fn 166 [] [.ptr [.int .i64 a1.1,.lst T2q a1.2.1 none,.lst .str a1.2.2 none]]),(7,.val false [.int .i64 (ln a0)])] [(0,.val false [.lst T2q a0 none]),(1,.fn 166 [] [.ptr [.int .i64 a1.1,.lst T2q a1.2.1 none,.lst .str a1.2.2 none]]),(7,.val false [.int .i64 (ln a0)])]∧(ilI a0 a1 (wI (y1+(1:Int))))∧(ilM a0 a1 (wI (y1+(1:Int))))<(ilM a0 a1 y1)))))) (Eq ((-1),((),())) ((Xfe a0 a1),((),()))))))
def X07.L(a0:(List U1q))(a1:U3q):Nat→Option X0d:=fun p=>Go.Proofs.YtcfaphojdacmbaaGreatR.Bv.look p [(26,{kp:={hold:=[0,1,7],slots:=[8],boxes:=[],rows:=[]},T:=(.int .i64),I:=fun st y=>ilI a0 a1 y,μ:=fun st y=>ilM a0 a1 y})]
theorem X07.pure(a0:(List U1q))(a1:U3q)(h:(Xj8 a0 a1))(hw:Wf X0G.A (a0,a1)):X07.F a0 a1:=by
 delta X07.F ln tN wI eS
 simp only[Bs,B0,B1,Prod.mk.injEq,X01,Prod.eta,fLow,Xr6]
 obtain⟨hl,hne⟩:=h
 refine⟨⟨by omega,by omega,fun j hj=>absurd hj (by simp)⟩,?_⟩
 rintro i hI
 have q1:=hI.1
 have q2:=hI.2.1
 rw[w64 (x:=i+1) (by omega) (by omega)]
 refine⟨fun hi=>⟨q1,hi,hne _ (X0Y (by omega)),fun hd=>Xqy hI hi hd,fun hd=>⟨⟨by omega,by omega,fun j hj=>?_⟩,by unfold ilM;omega⟩⟩,fun hi=>il_no hI hi⟩
 by_cases e:j=i.toNat
 · rw[e];exact hd
 · exact hI.2.2 j (by omega)
theorem X07.eq:EqS X0G Tryz.f222 [3] [X0F.e] [] (fun i x=>X07.L x.1 x.2) (fun i x=>X07.F x.1 x.2):=by intro i x;kernel_rfl
theorem X07.ok:X0l Tryz.prog 222 X0G:=X2d X07.eq Tryz.func222 rfl (by kernel_rfl) fun i x h hi hw=>X07.pure x.1 x.2 h hw
def X07.e:GE:=⟨222,X0G,⟨_,Tryz.func222,rfl,rfl⟩,X07.ok⟩
def X0z:Con:={A:=(.pair T9q T4q),shA:=[.one,.clo 166 [3]],R:=.bool,shR:=[(false,1)],pre:=fun _ a=>(Xj8 a.1 a.2),f:=some fun _ a=>((XeP a.1 a.2),((),()))}
def X0a.F(a0:(List U1q))(a1:U3q):Prop:=((Xj8 a0 (a1.1,(a1.2.1,a1.2.2)))∧∀r1,(Eq r1 ((Xfe a0 (a1.1,(a1.2.1,a1.2.2))),((),())))→(Eq ((decide (r1.1≥(0:Int))),((),())) ((XeP a0 a1),((),()))))
theorem X0a.pure(a0:(List U1q))(a1:U3q)(h:(Xj8 a0 a1))(hw:Wf X0z.A (a0,a1)):X0a.F a0 a1:=by
 unfold X0a.F
 simp only[Bs,B0,B1,Prod.mk.injEq,X01,Prod.eta]
 exact⟨h,XpE _ _⟩
theorem X0a.eq:EqS X0z Tryz.f165 [4] [X0F.e,X07.e] [] noL (fun i x=>X0a.F x.1 x.2):=by intro i x;kernel_rfl
theorem X0a.ok:X0l Tryz.prog 165 X0z:=X2d X0a.eq Tryz.func165 rfl (by kernel_rfl) fun i x h hi hw=>X0a.pure x.1 x.2 h hw
def X0a.e:GE:=⟨165,X0z,⟨_,Tryz.func165,rfl,rfl⟩,X0a.ok⟩
def X7b(fs:List U5q):List (List Ser):=fs.map fun f=>(X0e f).1
def okF(fs:List U5q):Bool:=fs.all fun f=>(X0e f).2
theorem Xnc(f:List UInt8)(h:(X0e f).2=true):X0y (X0e f).1=true:=by
 unfold X0e at h ⊢
 split at h
 · rename_i hr;rw[if_pos hr];exact hr.1.1
 · cases h
theorem Xe2(f:List UInt8):X8T (X0e f).1∧tot (X0e f).1≤305∧∀x∈(X0e f).1,x.1.length≤8:=by
 by_cases h:(X0e f).2=true
 · obtain⟨h1,h2,h3,h4⟩:=X16 (Xnc f h)
   exact⟨h1,h2,fun x hx=>(h4 x hx).1⟩
 · have:(X0e f).1=[]:=by
    unfold X0e at h ⊢
    split
    · rename_i hr;rw[if_pos hr]at h;exact absurd rfl h
    · rfl
   rw[this]
   exact⟨XaG,by simp[tot,cL],fun x hx=>by cases hx⟩
def X0c(e:Eng):List Ser×Bool:=if okF e.2.2=true then(X0v (X2N (X2e (X7b e.2.2)) e.2.1) e.1,true) else([],false)
def Xca(e:Eng):Prop:=(∀f∈e.2.2,Xg9 f)∧X8T e.2.1∧tot e.2.1≤100000∧e.2.2.length≤1000
structure plI (e:Eng) (i:Int) (fl:Int) (ca:List Ser) (fi:List U5q) (out:List Ser):Prop where
 h0:((fl,(ca,fi)):Eng)=e
 h1:0≤i
 h2:i≤e.2.2.length
 h3:out=X2e (X7b (e.2.2.take i.toNat))
 h4:X8T out
 h5:tot out≤305*i
 h6:okF (e.2.2.take i.toNat)=true
def plM(e:Eng)(i:Int)(fl:Int)(ca:List Ser)(fi:List U5q)(out:List Ser):Nat:=(e.2.2.length - i).toNat
theorem Xp8{e:Eng}{i fl:Int}{ca:List Ser}{fi:List U5q}{out:List Ser}(h:plI e i fl ca fi out)(hi:i<e.2.2.length)(hr:(X0e (e.2.2.getD i.toNat [])).2=true):plI e (i+1) fl ca fi (X2N out (X0e (e.2.2.getD i.toNat [])).1):=by
 obtain⟨h0,h1,h2,h3,h4,h5,h6⟩:=h
 obtain⟨r1,r2,_⟩:=Xe2 (e.2.2.getD i.toNat [])
 have ht:=Xad h4 r1.2
 refine⟨h0,by omega,by omega,?_,X4r h4 r1.2,by omega,?_⟩
 · rw[tn1 h1,X1x [] (by omega),h3]
   simp only[X7b,X2e,List.map_append,List.foldl_append,List.map_cons,List.map_nil,List.foldl_cons,List.foldl_nil]
 · rw[tn1 h1,X1x [] (by omega)]
   simp only[okF,List.all_append,List.all_cons,List.all_nil,Bool.and_true,Bool.and_eq_true]at h6 ⊢
   exact⟨h6,hr⟩
theorem pl_no{e:Eng}{i:Nat}(hi:i<e.2.2.length)(hr:(X0e (e.2.2.getD i [])).2=false):([],false)=X0c e:=by
 unfold X0c
 rw[if_neg]
 intro h
 have:=List.all_eq_true.1 h _ (X0Y (d:=[]) hi)
 rw[hr]at this;cases this
theorem XrG{e:Eng}{i fl:Int}{ca:List Ser}{fi:List U5q}{out:List Ser}(h:plI e i fl ca fi out)(hi:¬i<e.2.2.length):(X0v (X2N out e.2.1) e.1,true)=X0c e:=by
 obtain⟨h0,h1,h2,h3,h4,h5,h6⟩:=h
 have e1:i.toNat=e.2.2.length:=by omega
 rw[e1,List.take_length]at h3 h6
 unfold X0c
 rw[if_pos h6,h3]
def X8c:Con:={A:=T4q,shA:=[.agg 3],R:=(.pair T9q .bool),shR:=[(false,1),(false,1)],fresh:=[(0,83)],pre:=fun _ a=>(Xca a),f:=some fun _ a=>((X0c a),((),()))}
def X3c.F(a0:U3q):Prop:=(eS [(1,.box 2 0),(11,.val false [.lst .str a0.2.2 none]),(12,.val false [.int .i64 (ln a0.2.2)])] [(1,.box 2 0),(11,.val false [.lst .str a0.2.2 none]),(12,.val false [.int .i64 (ln a0.2.2)])]∧((plI a0 0 a0.1 a0.2.1 a0.2.2 ([]:List U1q))∧∀(y1:(Int×(Int×((List U1q)×((List U5q)×(List U1q)))))),(plI a0 y1.1 y1.2.1 y1.2.2.1 y1.2.2.2.1 y1.2.2.2.2)→(X00 (decide (y1.1<(ln a0.2.2))) (0≤y1.1∧(y1.1<(ln a0.2.2)∧((Xg9 (List.getD a0.2.2 (tN y1.1) []))∧∀r2,(Eq r2 ((X0e (List.getD a0.2.2 (tN y1.1) [])),((),())))→(X00 (!r2.1.2) (Eq ((([]:(List U1q)),false),((),())) ((X0c a0),((),()))) ((XkS y1.2.2.2.2 r2.1.1)∧∀r3,(Eq r3 ((X2N y1.2.2.2.2 r2.1.1),((),())))→(eS [(1,.box 2 0),(11,.val false [.lst .str a0.2.2 none]),(12,.val false [.int .i64 (ln a0.2.2)])] [(1,.box 2 0),(11,.val false [.lst .str a0.2.2 none]),(12,.val false [.int .i64 (ln a0.2.2)])]∧(plI a0 (wI (y1.1+(1:Int))) y1.2.1 y1.2.2.1 y1.2.2.2.1 r3.1)∧(plM a0 (wI (y1.1+(1:Int))) y1.2.1 y1.2.2.1 y1.2.2.2.1 r3.1)<(plM a0 y1.1 y1.2.1 y1.2.2.1 y1.2.2.2.1 y1.2.2.2.2))))))) ((XkS y1.2.2.2.2 y1.2.2.1)∧∀r4,(Eq r4 ((X2N y1.2.2.2.2 y1.2.2.1),((),())))→((XgU r4.1 y1.2.1)∧∀r5,(Eq r5 ((X0v r4.1 y1.2.1),((),())))→(Eq ((r5.1,true),((),())) ((X0c a0),((),()))))))))
def X3c.L(a0:U3q):Nat→Option X0d:=fun p=>Go.Proofs.YtcfaphojdacmbaaGreatR.Bv.look p [(58,{kp:={hold:=[1,11,12],slots:=[4,13],boxes:=[2],rows:=[{bx:=false,s:=4,i:=0,k:=1000515,e:=83,hot:=true}]},T:=(.pair (.int .i64) (.pair (.int .i64) (.pair T9q (.pair Xcb T9q)))),I:=fun st y=>plI a0 y.1 y.2.1 y.2.2.1 y.2.2.2.1 y.2.2.2.2,μ:=fun st y=>plM a0 y.1 y.2.1 y.2.2.1 y.2.2.2.1 y.2.2.2.2})]
theorem X3c.pure(a0:U3q)(h:(Xca a0))(hw:Wf X8c.A a0):X3c.F a0:=by
 delta X3c.F ln tN wI eS
 simp only[Bs,B0,B1,Prod.mk.injEq,X01,Prod.eta,XgU]
 obtain⟨hf,hc,hn,hl⟩:=h
 refine⟨⟨rfl,by omega,by omega,by simp[X2e,X7b],XaG,by simp[tot,cL],by simp[okF]⟩,?_⟩
 rintro⟨i,fl,ca,fi,out⟩ hI
 simp only at hI ⊢
 have q1:=hI.h1
 have q2:=hI.h2
 have q5:=hI.h5
 refine⟨fun hi=>?_,fun hi=>?_⟩
 · have hm:=X0Y (d:=([]:List UInt8)) (by omega:i.toNat<a0.2.2.length)
   obtain⟨r1,r2,_⟩:=Xe2 (a0.2.2.getD i.toNat [])
   rw[w64 (x:=i+1) (by omega) (by omega)]
   exact⟨q1,hi,hf _ hm,fun hr=>pl_no (by omega) hr,fun hr=>⟨⟨hI.h4,r1.2,by omega⟩,Xp8 hI hi hr,by unfold plM;omega⟩⟩
 · have he:=XrG hI hi
   have ht:=Xad hI.h4 hc.2
   obtain rfl:=hI.h0
   simp only at hn he ht hc hl hi q2 ⊢
   exact⟨⟨hI.h4,hc.2,by omega⟩,by omega,he⟩
theorem X3c.eq:EqS X8c Tryz.f98 [25,4] [X1Y.e,X3J.e,X2R.e] [] (fun i x=>X3c.L x) (fun i x=>X3c.F x):=by intro i x;kernel_rfl
theorem X3c.ok:X0l Tryz.prog 98 X8c:=X2d X3c.eq Tryz.func98 rfl (by kernel_rfl) fun i x h hi hw=>X3c.pure x h hw
def X3c.e:GE:=⟨98,X8c,⟨_,Tryz.func98,rfl,rfl⟩,X3c.ok⟩
def X82(e:Eng):Bool:=XiV e.1&&(X0y e.2.1&&(decide (X9F e.2.1≤40)&&(decide (e.2.2.length≤4)&&!XeP e.2.1 e)))
def X2A(e:Eng):List Ser×Bool:=if X82 e=true then(if (X0c e).2=true then((X0c e).1,X0y (X0c e).1) else((X0c e).1,false)) else([],false)
def X1Q(e:Eng):Bool:=(X2A e).2
def X8M(e:Eng):Prop:=X2c e.2.1∧∀f∈e.2.2,Xg9 f
theorem XnV{l:List Ser}{s:Ser}{n:Nat}(h:∀x∈l,x.1.length≤n)(hs:s.1.length≤n):∀x∈Xdu l s,x.1.length≤n:=fun x hx=>by
 rcases Xdm hx with hx | rfl | ⟨y,hy,rfl⟩
 · exact h x hx
 · exact hs
 · exact h y hy
theorem Xaa{n:Nat}:∀{t l:List Ser},(∀x∈l,x.1.length≤n)→(∀x∈t,x.1.length≤n)→∀x∈X2N l t,x.1.length≤n
 | [],_,h,_=>h
 | s::t,l,h,ht=>Xaa (t:=t) (XnV h (ht s (by simp))) fun x hx=>ht x (by simp[hx])
theorem XfU{n:Nat}:∀(ls:List (List Ser)) (l:List Ser),(∀x∈l,x.1.length≤n)→(∀t∈ls,∀x∈t,x.1.length≤n)→∀x∈ls.foldl X2N l,x.1.length≤n
 | [],_,h,_=>h
 | t::ls,l,h,ht=>XfU ls (X2N l t) (Xaa h (ht t (by simp))) fun x hx=>ht x (by simp[hx])
theorem XkE{n:Nat}{l:List Ser}(h:∀x∈l,x.1.length≤n)(f:Int):∀x∈X0v l f,x.1.length≤n:=fun x hx=>by
 obtain⟨y,hy,rfl⟩:=Xai hx
 exact h y hy
theorem XhJ{e:Eng}(h:∀x∈e.2.1,x.1.length≤8):∀x∈(X0c e).1,x.1.length≤8:=by
 unfold X0c
 split
 · refine XkE (Xaa (XfU _ _ (fun x hx=>by cases hx) fun t ht x hx=>?_) h) _
   obtain⟨f,_,rfl⟩:=List.mem_map.1 ht
   exact(Xe2 f).2.2 x hx
 · intro x hx;cases hx
theorem XhV{l:List Ser}(h:∀x∈l,x.1.length≤8):X2c l:=fun x hx=>Nat.le_trans (h x hx) (by decide)
def X4Y:Con:={A:=T4q,shA:=[.agg 3],R:=(.pair T9q .bool),shR:=[(false,1),(false,1)],fresh:=[(0,83)],pre:=fun _ a=>(X8M a),f:=some fun _ a=>((X2A a),((),()))}
def X1w.F(a0:U3q):Prop:=(True∧∀r1,(Eq r1 ((fIn a0.1 0 1099511627776),((),())))→(X00 (!r1.1) (Eq ((([]:(List U1q)),false),((),())) ((X2A a0),((),()))) ((X2c a0.2.1)∧∀r2,(Eq r2 ((X0y a0.2.1),((),())))→(X00 (!r2.1) (Eq ((([]:(List U1q)),false),((),())) ((X2A a0),((),()))) ((Xl3 a0.2.1)∧∀r3,(Eq r3 ((X9F a0.2.1),((),())))→(X00 (decide (r3.1>(40:Int))) (Eq ((([]:(List U1q)),false),((),())) ((X2A a0),((),()))) (X00 (decide ((ln a0.2.2)>(4:Int))) (Eq ((([]:(List U1q)),false),((),())) ((X2A a0),((),()))) ((Xj8 a0.2.1 (a0.1,(a0.2.1,a0.2.2)))∧∀r4,(Eq r4 ((XeP a0.2.1 (a0.1,(a0.2.1,a0.2.2))),((),())))→(X00 r4.1 (Eq ((([]:(List U1q)),false),((),())) ((X2A a0),((),()))) ((Xca (a0.1,(a0.2.1,a0.2.2)))∧∀r5,(Eq r5 ((X0c (a0.1,(a0.2.1,a0.2.2))),((),())))→(X00 r5.1.2 ((X2c r5.1.1)∧∀r6,(Eq r6 ((X0y r5.1.1),((),())))→(Eq ((r5.1.1,r6.1),((),())) ((X2A a0),((),())))) (Eq ((r5.1.1,false),((),())) ((X2A a0),((),()))))))))))))))
theorem X1w.pure(a0:U3q)(h:(X8M a0))(hw:Wf X4Y.A a0):X1w.F a0:=by
 delta X1w.F ln
 simp only[Bs,B0,B1,Prod.mk.injEq,X01,Prod.eta]
 obtain⟨hk,hf⟩:=h
 have no:X82 a0=false→(([]:List Ser),false)=X2A a0:=fun h=>by unfold X2A;rw[if_neg (by rw[h];decide)]
 refine⟨fun h1=>no (by unfold X82 XiV;rw[h1];rfl),fun h1=>⟨hk,fun h2=>no (by unfold X82;rw[h2];simp),fun h2=>?_⟩⟩
 obtain⟨s1,s2,s3,s4⟩:=X16 h2
 have hne:Xj8 a0.2.1 a0:=⟨by omega,fun x hx=>(s4 x hx).2.1⟩
 refine⟨by unfold Xl3;omega,fun h3=>no ?_,fun h3=>⟨fun h4=>no ?_,fun h4=>⟨hne,fun h5=>no ?_,fun h5=>?_⟩⟩⟩
 · have:decide (X9F a0.2.1≤40)=false:=decide_eq_false (by omega)
   unfold X82;rw[this];simp
 · have:decide (a0.2.2.length≤4)=false:=decide_eq_false (by omega)
   unfold X82;rw[this];simp
 · unfold X82;rw[h5];simp
 have hh:X82 a0=true:=by
  unfold X82 XiV
  rw[h1,h2,h5,decide_eq_true (by omega:X9F a0.2.1≤40),decide_eq_true (by omega:a0.2.2.length≤4)];rfl
 refine⟨⟨hf,s1,by omega,by omega⟩,fun h6=>⟨XhV (XhJ fun x hx=>(s4 x hx).1),?_⟩,fun h6=>?_⟩
 · unfold X2A;rw[if_pos hh,if_pos h6]
 · unfold X2A;rw[if_pos hh,if_neg (by rw[h6];decide)]
theorem X1w.eq:EqS X4Y Tryz.f87 [25,4] [X1s.e,X2C.e,X3c.e,X1K.e,X0a.e,X0F.e] [] noL (fun i x=>X1w.F x):=by intro i x;kernel_rfl
theorem X1w.ok:X0l Tryz.prog 87 X4Y:=X2d X1w.eq Tryz.func87 rfl (by kernel_rfl) fun i x h hi hw=>X1w.pure x h hw
def X1w.e:GE:=⟨87,X4Y,⟨_,Tryz.func87,rfl,rfl⟩,X1w.ok⟩
end Go.Proofs.YtcfaphojdacmbaaGreatR.B
