/- Engines:right or not,in the program. -/
import Derived.Test.YtcfaphojdacmbaaGreatRCEng
set_option maxRecDepth 100000
set_option linter.unusedVariables false
set_option linter.unusedSimpArgs false
namespace Go.Proofs.YtcfaphojdacmbaaGreatR.B
open Go Go.Proofs.YtcfaphojdacmbaaGreatR.Bv
def X9Y(l:List Ser):Int:=cL (fun x:Ser=>(x.2.length:Int)) l
theorem XgA(l:List Ser):0≤X9Y l∧X9Y l+l.length=tot l:=by
 unfold X9Y tot
 induction l with
 | nil=>simp[cL]
 | cons x l ih=>have e:cS x=(x.2.length:Int)+1:=rfl;rw[X4T,X4T,List.length_cons];omega
def Xlo(l:List Ser):Prop:=tot l≤100000000
def cnI(l:List Ser)(n i:Int):Prop:=0≤i∧i≤l.length∧n=X9Y (l.take i.toNat)
def cnM(l:List Ser)(n i:Int):Nat:=(l.length - i).toNat
theorem XmN{l:List Ser}{n i:Int}(h:cnI l n i)(hi:i<l.length):cnI l (n+((l.getD i.toNat ([],[])).2.length:Int)) (i+1):=by
 obtain⟨h1,h2,h3⟩:=h
 refine⟨by omega,by omega,?_⟩
 unfold X9Y at h3 ⊢
 rw[tn1 h1,(XbC (fun x:Ser=>(x.2.length:Int)) ([],[]) (by omega:i.toNat<l.length)).1,h3]
theorem XqZ{l:List Ser}{n i:Int}(h:cnI l n i)(hi:i<l.length):0≤n∧n+((l.getD i.toNat ([],[])).2.length:Int)≤X9Y l:=by
 obtain⟨h1,h2,h3⟩:=h
 have a:=(XbC (fun x:Ser=>(x.2.length:Int)) ([],[]) (by omega:i.toNat<l.length)).2
 have b:=(XgA (l.take i.toNat)).1
 have c:=(XgA (l.drop (i.toNat+1))).1
 unfold X9Y at*
 omega
theorem Xpe{l:List Ser}{n i:Int}(h:cnI l n i)(hi:¬i<l.length):n=X9Y l:=by
 obtain⟨h1,h2,h3⟩:=h
 rw[h3,show i.toNat=l.length by omega,List.take_length]
def XiC(c:Eng)(x:Ser):Bool:=decide ((x.2.getD 0 (0,0)).1<c.1)
def fLow(x:Ser)(c:Eng):Bool:=XiC c x
def Xr0(x:Ser)(c:Eng):Prop:=x.2≠[]
def XiY(l:List Ser)(c:Eng):Prop:=l.length≤1099511627776∧∀x∈l,x.2≠[]
def Xfh(l:List Ser)(c:Eng):Int:=if l.findIdx (XiC c)<l.length then((l.findIdx (XiC c):Nat):Int) else -1
def ilI(l:List Ser)(c:Eng)(i:Int):Prop:=0≤i∧i≤l.length∧∀j,j<i.toNat→XiC c (l.getD j ([],[]))=false
def ilM(l:List Ser)(c:Eng)(i:Int):Nat:=(l.length - i).toNat
theorem XrN{l:List Ser}{c:Eng}{i:Int}(h:ilI l c i)(hi:i<l.length)(hd:XiC c (l.getD i.toNat ([],[]))=true):i=Xfh l c:=by
 obtain⟨h1,h2,h3⟩:=h
 have e:l.findIdx (XiC c)=i.toNat:=by
  refine(List.findIdx_eq (by omega)).2 ⟨by rw[X0R (by omega)]at hd;exact hd,fun j hj=>?_⟩
  have:=h3 j hj
  rw[X0R (by omega)]at this;exact this
 unfold Xfh
 rw[e,if_pos (by omega)];omega
theorem il_no{l:List Ser}{c:Eng}{i:Int}(h:ilI l c i)(hi:¬i<l.length):-1=Xfh l c:=by
 obtain⟨h1,h2,h3⟩:=h
 have e:¬l.findIdx (XiC c)<l.length:=fun hlt=>by
  have a:=List.findIdx_getElem (w:=hlt)
  have b:=h3 (l.findIdx (XiC c)) (by omega)
  rw[X0R hlt,a]at b;cases b
 unfold Xfh
 rw[if_neg e]
def XdQ(l:List Ser)(c:Eng):Bool:=l.any (XiC c)
theorem Xqc(l:List Ser)(c:Eng):decide (Xfh l c≥0)=XdQ l c:=by
 unfold Xfh XdQ
 rw[Bool.eq_iff_iff,decide_eq_true_eq,List.any_eq_true]
 constructor
 · intro h
   split at h
   · rename_i hlt;exact⟨_,List.getElem_mem hlt,List.findIdx_getElem (w:=hlt)⟩
   · omega
 · rintro⟨x,hx,hd⟩
   rw[if_pos (List.findIdx_lt_length_of_exists ⟨x,hx,hd⟩)];omega
def X7y:Con:={A:=T9q,shA:=[.one],R:=(.int .i64),shR:=[(false,1)],pre:=fun _ a=>(Xlo a),f:=some fun _ a=>((X9Y a),((),()))}
def X2G.F(a0:(List U1q)):Prop:=(eS [(6,.val false [.lst T2q a0 none]),(7,.val false [.int .i64 (ln a0)])] [(6,.val false [.lst T2q a0 none]),(7,.val false [.int .i64 (ln a0)])]∧((cnI a0 0 0)∧∀(y1:(Int×Int)),(cnI a0 y1.1 y1.2)→(X00 (decide (y1.2<(ln a0))) (0≤y1.2∧(y1.2<(ln a0)∧(eS [(6,.val false [.lst T2q a0 none]),(7,.val false [.int .i64 (ln a0)])] [(6,.val false [.lst T2q a0 none]),(7,.val false [.int .i64 (ln a0)])]∧(cnI a0 (wI (y1.1+(ln ((List.getD a0 (tN y1.2) ([],[])).2)))) (wI (y1.2+(1:Int))))∧(cnM a0 (wI (y1.1+(ln ((List.getD a0 (tN y1.2) ([],[])).2)))) (wI (y1.2+(1:Int))))<(cnM a0 y1.1 y1.2)))) (Eq (y1.1,((),())) ((X9Y a0),((),()))))))
def X2G.L(a0:(List U1q)):Nat→Option X0d:=fun p=>Go.Proofs.YtcfaphojdacmbaaGreatR.Bv.look p [(58,{kp:={hold:=[6,7],slots:=[3,8],boxes:=[],rows:=[]},T:=T0q,I:=fun st y=>cnI a0 y.1 y.2,μ:=fun st y=>cnM a0 y.1 y.2})]
theorem X2G.pure(a0:(List U1q))(h:(Xlo a0))(hw:Wf X7y.A a0):X2G.F a0:=by
 delta X2G.F ln tN wI eS
 simp only[Bs,B0,B1,Prod.mk.injEq,X01]
 have hn:tot a0≤100000000:=h
 have k0:=XgA a0
 have k1:=X7k a0
 refine⟨⟨by omega,by omega,by simp[X9Y,cL]⟩,?_⟩
 rintro⟨n,i⟩ hI
 simp only at hI ⊢
 have q1:=hI.1
 have q2:=hI.2.1
 refine⟨fun hi=>?_,fun hi=>Xpe hI hi⟩
 have k2:=XqZ hI hi
 have st:=XmN hI hi
 rw[w64 (x:=i+1) (by omega) (by omega),w64 (by omega) (by omega)]
 exact⟨q1,hi,st,by unfold cnM;omega⟩
theorem X2G.eq:EqS X7y Tryz.f93 [3] [] [] (fun i x=>X2G.L x) (fun i x=>X2G.F x):=by intro i x;kernel_rfl
theorem X2G.ok:X0l Tryz.prog 93 X7y:=X2b X2G.eq Tryz.func93 rfl (by kernel_rfl) fun i x h hi hw=>X2G.pure x h hw
def X2G.e:GE:=⟨93,X7y,⟨_,Tryz.func93,rfl,rfl⟩,X2G.ok⟩
def X4m:Con:={A:=(.pair T2q T4q),shA:=[.agg 2,.ptr 3],R:=.bool,shR:=[(false,1)],pre:=fun _ a=>(Xr0 a.1 a.2),f:=some fun _ a=>((fLow a.1 a.2),((),()))}
def X0F.F(a0:U1q)(a1:U3q):Prop:=(0≤(0:Int)∧((0:Int)<(ln a0.2)∧(Eq ((decide (((List.getD a0.2 (tN (0:Int)) (0,0)).1)<a1.1)),((),())) ((fLow a0 a1),((),())))))
theorem X0F.pure(a0:U1q)(a1:U3q)(h:(Xr0 a0 a1))(hw:Wf X4m.A (a0,a1)):X0F.F a0 a1:=by
 delta X0F.F ln tN
 simp only[Bs,B0,B1,Prod.mk.injEq,X01,Xr0,Prod.eta]
 have hp:a0.2≠[]:=h
 have:0<a0.2.length:=List.length_pos_iff.2 hp
 exact⟨by omega,by omega,rfl⟩
theorem X0F.eq:EqS X4m Tryz.f166 [4] [] [] noL (fun i x=>X0F.F x.1 x.2):=by intro i x;kernel_rfl
theorem X0F.ok:X0l Tryz.prog 166 X4m:=X2b X0F.eq Tryz.func166 rfl (by kernel_rfl) fun i x h hi hw=>X0F.pure x.1 x.2 h hw
def X0F.e:GE:=⟨166,X4m,⟨_,Tryz.func166,rfl,rfl⟩,X0F.ok⟩
def X0G:Con:={A:=(.pair T9q T4q),shA:=[.one,.clo 166 [3]],R:=(.int .i64),shR:=[(false,1)],pre:=fun _ a=>(XiY a.1 a.2),f:=some fun _ a=>((Xfh a.1 a.2),((),()))}
def X07.F(a0:(List U1q))(a1:U3q):Prop:=(eS [(0,.val false [.lst T2q a0 none]),(1,.fn 166 [] [.ptr [.int .i64 a1.1,.lst T2q a1.2.1 none,.lst .str a1.2.2 none]]),(7,.val false [.int .i64 (ln a0)])] [(0,.val false [.lst T2q a0 none]),(1,.fn 166 [] [.ptr [.int .i64 a1.1,.lst T2q a1.2.1 none,.lst .str a1.2.2 none]]),(7,.val false [.int .i64 (ln a0)])]∧((ilI a0 a1 0)∧∀(y1:Int),(ilI a0 a1 y1)→(X00 (decide (y1<(ln a0))) (0≤y1∧(y1<(ln a0)∧((Xr0 ((List.getD a0 (tN y1) ([],[])).1,(List.getD a0 (tN y1) ([],[])).2) (a1.1,(a1.2.1,a1.2.2)))∧∀r2,(Eq r2 ((fLow ((List.getD a0 (tN y1) ([],[])).1,(List.getD a0 (tN y1) ([],[])).2) (a1.1,(a1.2.1,a1.2.2))),((),())))→(X00 r2.1 (Eq (y1,((),())) ((Xfh a0 a1),((),()))) (eS [(0,.val false [.lst T2q a0 none]),(1,.fn 166 [] [.ptr [.int .i64 a1.1,.lst T2q a1.2.1 none,.lst .str a1.2.2 none]]),(7,.val false [.int .i64 (ln a0)])] [(0,.val false [.lst T2q a0 none]),(1,.fn 166 [] [.ptr [.int .i64 a1.1,.lst T2q a1.2.1 none,.lst .str a1.2.2 none]]),(7,.val false [.int .i64 (ln a0)])]∧(ilI a0 a1 (wI (y1+(1:Int))))∧(ilM a0 a1 (wI (y1+(1:Int))))<(ilM a0 a1 y1)))))) (Eq ((-1),((),())) ((Xfh a0 a1),((),()))))))
def X07.L(a0:(List U1q))(a1:U3q):Nat→Option X0d:=fun p=>Go.Proofs.YtcfaphojdacmbaaGreatR.Bv.look p [(26,{kp:={hold:=[0,1,7],slots:=[8],boxes:=[],rows:=[]},T:=(.int .i64),I:=fun st y=>ilI a0 a1 y,μ:=fun st y=>ilM a0 a1 y})]
theorem X07.pure(a0:(List U1q))(a1:U3q)(h:(XiY a0 a1))(hw:Wf X0G.A (a0,a1)):X07.F a0 a1:=by
 delta X07.F ln tN wI eS
 simp only[Bs,B0,B1,Prod.mk.injEq,X01,Prod.eta,fLow,Xr0]
 obtain⟨hl,hne⟩:=h
 refine⟨⟨by omega,by omega,fun j hj=>absurd hj (by simp)⟩,?_⟩
 rintro i hI
 have q1:=hI.1
 have q2:=hI.2.1
 rw[w64 (x:=i+1) (by omega) (by omega)]
 refine⟨fun hi=>⟨q1,hi,hne _ (X14 (by omega)),fun hd=>XrN hI hi hd,fun hd=>⟨⟨by omega,by omega,fun j hj=>?_⟩,by unfold ilM;omega⟩⟩,fun hi=>il_no hI hi⟩
 by_cases e:j=i.toNat
 · rw[e];exact hd
 · exact hI.2.2 j (by omega)
theorem X07.eq:EqS X0G Tryz.f222 [3] [X0F.e] [] (fun i x=>X07.L x.1 x.2) (fun i x=>X07.F x.1 x.2):=by intro i x;kernel_rfl
theorem X07.ok:X0l Tryz.prog 222 X0G:=X2b X07.eq Tryz.func222 rfl (by kernel_rfl) fun i x h hi hw=>X07.pure x.1 x.2 h hw
def X07.e:GE:=⟨222,X0G,⟨_,Tryz.func222,rfl,rfl⟩,X07.ok⟩
def X0z:Con:={A:=(.pair T9q T4q),shA:=[.one,.clo 166 [3]],R:=.bool,shR:=[(false,1)],pre:=fun _ a=>(XiY a.1 a.2),f:=some fun _ a=>((XdQ a.1 a.2),((),()))}
def X0a.F(a0:(List U1q))(a1:U3q):Prop:=((XiY a0 (a1.1,(a1.2.1,a1.2.2)))∧∀r1,(Eq r1 ((Xfh a0 (a1.1,(a1.2.1,a1.2.2))),((),())))→(Eq ((decide (r1.1≥(0:Int))),((),())) ((XdQ a0 a1),((),()))))
theorem X0a.pure(a0:(List U1q))(a1:U3q)(h:(XiY a0 a1))(hw:Wf X0z.A (a0,a1)):X0a.F a0 a1:=by
 unfold X0a.F
 simp only[Bs,B0,B1,Prod.mk.injEq,X01,Prod.eta]
 exact⟨h,Xqc _ _⟩
theorem X0a.eq:EqS X0z Tryz.f165 [4] [X0F.e,X07.e] [] noL (fun i x=>X0a.F x.1 x.2):=by intro i x;kernel_rfl
theorem X0a.ok:X0l Tryz.prog 165 X0z:=X2b X0a.eq Tryz.func165 rfl (by kernel_rfl) fun i x h hi hw=>X0a.pure x.1 x.2 h hw
def X0a.e:GE:=⟨165,X0z,⟨_,Tryz.func165,rfl,rfl⟩,X0a.ok⟩
def X87(fs:List U5q):List (List Ser):=fs.map fun f=>(X0e f).1
def okF(fs:List U5q):Bool:=fs.all fun f=>(X0e f).2
theorem Xnv(f:List UInt8)(h:(X0e f).2=true):X0y (X0e f).1=true:=by
 unfold X0e at h ⊢
 split at h
 · rename_i hr;rw[if_pos hr];exact hr.1.1
 · cases h
theorem Xf4(f:List UInt8):X9p (X0e f).1∧tot (X0e f).1≤305∧∀x∈(X0e f).1,x.1.length≤8:=by
 by_cases h:(X0e f).2=true
 · obtain⟨h1,h2,h3,h4⟩:=X1I (Xnv f h)
   exact⟨h1,h2,fun x hx=>(h4 x hx).1⟩
 · have:(X0e f).1=[]:=by
    unfold X0e at h ⊢
    split
    · rename_i hr;rw[if_pos hr]at h;exact absurd rfl h
    · rfl
   rw[this]
   exact⟨Xbb,by simp[tot,cL],fun x hx=>by cases hx⟩
def X0c(e:Eng):List Ser×Bool:=if okF e.2.2=true then(X0u (X2S (X2B (X87 e.2.2)) e.2.1) e.1,true) else([],false)
def Xb6(e:Eng):Prop:=(∀f∈e.2.2,Xgn f)∧X9p e.2.1∧tot e.2.1≤100000∧e.2.2.length≤1000
structure plI (e:Eng) (i:Int) (fl:Int) (ca:List Ser) (fi:List U5q) (out:List Ser):Prop where
 h0:((fl,(ca,fi)):Eng)=e
 h1:0≤i
 h2:i≤e.2.2.length
 h3:out=X2B (X87 (e.2.2.take i.toNat))
 h4:X9p out
 h5:tot out≤305*i
 h6:okF (e.2.2.take i.toNat)=true
def plM(e:Eng)(i:Int)(fl:Int)(ca:List Ser)(fi:List U5q)(out:List Ser):Nat:=(e.2.2.length - i).toNat
theorem Xqb{e:Eng}{i fl:Int}{ca:List Ser}{fi:List U5q}{out:List Ser}(h:plI e i fl ca fi out)(hi:i<e.2.2.length)(hr:(X0e (e.2.2.getD i.toNat [])).2=true):plI e (i+1) fl ca fi (X2S out (X0e (e.2.2.getD i.toNat [])).1):=by
 obtain⟨h0,h1,h2,h3,h4,h5,h6⟩:=h
 obtain⟨r1,r2,_⟩:=Xf4 (e.2.2.getD i.toNat [])
 have ht:=Xa3 h4 r1.2
 refine⟨h0,by omega,by omega,?_,X4C h4 r1.2,by omega,?_⟩
 · rw[tn1 h1,X1S [] (by omega),h3]
   simp only[X87,X2B,List.map_append,List.foldl_append,List.map_cons,List.map_nil,List.foldl_cons,List.foldl_nil]
 · rw[tn1 h1,X1S [] (by omega)]
   simp only[okF,List.all_append,List.all_cons,List.all_nil,Bool.and_true,Bool.and_eq_true]at h6 ⊢
   exact⟨h6,hr⟩
theorem pl_no{e:Eng}{i:Nat}(hi:i<e.2.2.length)(hr:(X0e (e.2.2.getD i [])).2=false):([],false)=X0c e:=by
 unfold X0c
 rw[if_neg]
 intro h
 have:=List.all_eq_true.1 h _ (X14 (d:=[]) hi)
 rw[hr]at this;cases this
theorem Xry{e:Eng}{i fl:Int}{ca:List Ser}{fi:List U5q}{out:List Ser}(h:plI e i fl ca fi out)(hi:¬i<e.2.2.length):(X0u (X2S out e.2.1) e.1,true)=X0c e:=by
 obtain⟨h0,h1,h2,h3,h4,h5,h6⟩:=h
 have e1:i.toNat=e.2.2.length:=by omega
 rw[e1,List.take_length]at h3 h6
 unfold X0c
 rw[if_pos h6,h3]
def X8q:Con:={A:=T4q,shA:=[.agg 3],R:=(.pair T9q .bool),shR:=[(false,1),(false,1)],fresh:=[(0,83)],pre:=fun _ a=>(Xb6 a),f:=some fun _ a=>((X0c a),((),()))}
def X2Z.F(a0:U3q):Prop:=(eS [(1,.box 2 0),(11,.val false [.lst .str a0.2.2 none]),(12,.val false [.int .i64 (ln a0.2.2)])] [(1,.box 2 0),(11,.val false [.lst .str a0.2.2 none]),(12,.val false [.int .i64 (ln a0.2.2)])]∧((plI a0 0 a0.1 a0.2.1 a0.2.2 ([]:List U1q))∧∀(y1:(Int×(Int×((List U1q)×((List U5q)×(List U1q)))))),(plI a0 y1.1 y1.2.1 y1.2.2.1 y1.2.2.2.1 y1.2.2.2.2)→(X00 (decide (y1.1<(ln a0.2.2))) (0≤y1.1∧(y1.1<(ln a0.2.2)∧((Xgn (List.getD a0.2.2 (tN y1.1) []))∧∀r2,(Eq r2 ((X0e (List.getD a0.2.2 (tN y1.1) [])),((),())))→(X00 (!r2.1.2) (Eq ((([]:(List U1q)),false),((),())) ((X0c a0),((),()))) ((Xl3 y1.2.2.2.2 r2.1.1)∧∀r3,(Eq r3 ((X2S y1.2.2.2.2 r2.1.1),((),())))→(eS [(1,.box 2 0),(11,.val false [.lst .str a0.2.2 none]),(12,.val false [.int .i64 (ln a0.2.2)])] [(1,.box 2 0),(11,.val false [.lst .str a0.2.2 none]),(12,.val false [.int .i64 (ln a0.2.2)])]∧(plI a0 (wI (y1.1+(1:Int))) y1.2.1 y1.2.2.1 y1.2.2.2.1 r3.1)∧(plM a0 (wI (y1.1+(1:Int))) y1.2.1 y1.2.2.1 y1.2.2.2.1 r3.1)<(plM a0 y1.1 y1.2.1 y1.2.2.1 y1.2.2.2.1 y1.2.2.2.2))))))) ((Xl3 y1.2.2.2.2 y1.2.2.1)∧∀r4,(Eq r4 ((X2S y1.2.2.2.2 y1.2.2.1),((),())))→((XdY r4.1 y1.2.1)∧∀r5,(Eq r5 ((X0u r4.1 y1.2.1),((),())))→(Eq ((r5.1,true),((),())) ((X0c a0),((),()))))))))
def X2Z.L(a0:U3q):Nat→Option X0d:=fun p=>Go.Proofs.YtcfaphojdacmbaaGreatR.Bv.look p [(58,{kp:={hold:=[1,11,12],slots:=[4,13],boxes:=[2],rows:=[{bx:=false,s:=4,i:=0,k:=1000515,e:=83,hot:=true}]},T:=(.pair (.int .i64) (.pair (.int .i64) (.pair T9q (.pair (.list .str) T9q)))),I:=fun st y=>plI a0 y.1 y.2.1 y.2.2.1 y.2.2.2.1 y.2.2.2.2,μ:=fun st y=>plM a0 y.1 y.2.1 y.2.2.1 y.2.2.2.1 y.2.2.2.2})]
theorem X2Z.pure(a0:U3q)(h:(Xb6 a0))(hw:Wf X8q.A a0):X2Z.F a0:=by
 delta X2Z.F ln tN wI eS
 simp only[Bs,B0,B1,Prod.mk.injEq,X01,Prod.eta,XdY]
 obtain⟨hf,hc,hn,hl⟩:=h
 refine⟨⟨rfl,by omega,by omega,by simp[X2B,X87],Xbb,by simp[tot,cL],by simp[okF]⟩,?_⟩
 rintro⟨i,fl,ca,fi,out⟩ hI
 simp only at hI ⊢
 have q1:=hI.h1
 have q2:=hI.h2
 have q5:=hI.h5
 refine⟨fun hi=>?_,fun hi=>?_⟩
 · have hm:=X14 (d:=([]:List UInt8)) (by omega:i.toNat<a0.2.2.length)
   obtain⟨r1,r2,_⟩:=Xf4 (a0.2.2.getD i.toNat [])
   rw[w64 (x:=i+1) (by omega) (by omega)]
   exact⟨q1,hi,hf _ hm,fun hr=>pl_no (by omega) hr,fun hr=>⟨⟨hI.h4,r1.2,by omega⟩,Xqb hI hi hr,by unfold plM;omega⟩⟩
 · have he:=Xry hI hi
   have ht:=Xa3 hI.h4 hc.2
   obtain rfl:=hI.h0
   simp only at hn he ht hc hl hi q2 ⊢
   exact⟨⟨hI.h4,hc.2,by omega⟩,by omega,he⟩
theorem X2Z.eq:EqS X8q Tryz.f98 [25,4] [X21.e,X3T.e,X2A.e] [] (fun i x=>X2Z.L x) (fun i x=>X2Z.F x):=by intro i x;kernel_rfl
theorem X2Z.ok:X0l Tryz.prog 98 X8q:=X2b X2Z.eq Tryz.func98 rfl (by kernel_rfl) fun i x h hi hw=>X2Z.pure x h hw
def X2Z.e:GE:=⟨98,X8q,⟨_,Tryz.func98,rfl,rfl⟩,X2Z.ok⟩
def X8e(e:Eng):Bool:=Xj5 e.1&&(X0y e.2.1&&(decide (X9Y e.2.1≤40)&&(decide (e.2.2.length≤4)&&!XdQ e.2.1 e)))
def X2u(e:Eng):List Ser×Bool:=if X8e e=true then(if (X0c e).2=true then((X0c e).1,X0y (X0c e).1) else((X0c e).1,false)) else([],false)
def X13(e:Eng):Bool:=(X2u e).2
def X5P(e:Eng):Prop:=X27 e.2.1∧∀f∈e.2.2,Xgn f
theorem XnS{l:List Ser}{s:Ser}{n:Nat}(h:∀x∈l,x.1.length≤n)(hs:s.1.length≤n):∀x∈Xdu l s,x.1.length≤n:=fun x hx=>by
 rcases XdD hx with hx | rfl | ⟨y,hy,rfl⟩
 · exact h x hx
 · exact hs
 · exact h y hy
theorem Xah{n:Nat}:∀{t l:List Ser},(∀x∈l,x.1.length≤n)→(∀x∈t,x.1.length≤n)→∀x∈X2S l t,x.1.length≤n
 | [],_,h,_=>h
 | s::t,l,h,ht=>Xah (t:=t) (XnS h (ht s (by simp))) fun x hx=>ht x (by simp[hx])
theorem XfV{n:Nat}:∀(ls:List (List Ser)) (l:List Ser),(∀x∈l,x.1.length≤n)→(∀t∈ls,∀x∈t,x.1.length≤n)→∀x∈ls.foldl X2S l,x.1.length≤n
 | [],_,h,_=>h
 | t::ls,l,h,ht=>XfV ls (X2S l t) (Xah h (ht t (by simp))) fun x hx=>ht x (by simp[hx])
theorem Xl6{n:Nat}{l:List Ser}(h:∀x∈l,x.1.length≤n)(f:Int):∀x∈X0u l f,x.1.length≤n:=fun x hx=>by
 obtain⟨y,hy,rfl⟩:=XaA hx
 exact h y hy
theorem Xhh{e:Eng}(h:∀x∈e.2.1,x.1.length≤8):∀x∈(X0c e).1,x.1.length≤8:=by
 unfold X0c
 split
 · refine Xl6 (Xah (XfV _ _ (fun x hx=>by cases hx) fun t ht x hx=>?_) h) _
   obtain⟨f,_,rfl⟩:=List.mem_map.1 ht
   exact(Xf4 f).2.2 x hx
 · intro x hx;cases hx
theorem Xiv{l:List Ser}(h:∀x∈l,x.1.length≤8):X27 l:=fun x hx=>Nat.le_trans (h x hx) (by decide)
def X52:Con:={A:=T4q,shA:=[.agg 3],R:=(.pair T9q .bool),shR:=[(false,1),(false,1)],fresh:=[(0,83)],pre:=fun _ a=>(X5P a),f:=some fun _ a=>((X2u a),((),()))}
def X17.F(a0:U3q):Prop:=(True∧∀r1,(Eq r1 ((fIn a0.1 0 1099511627776),((),())))→(X00 (!r1.1) (Eq ((([]:(List U1q)),false),((),())) ((X2u a0),((),()))) ((X27 a0.2.1)∧∀r2,(Eq r2 ((X0y a0.2.1),((),())))→(X00 (!r2.1) (Eq ((([]:(List U1q)),false),((),())) ((X2u a0),((),()))) ((Xlo a0.2.1)∧∀r3,(Eq r3 ((X9Y a0.2.1),((),())))→(X00 (decide (r3.1>(40:Int))) (Eq ((([]:(List U1q)),false),((),())) ((X2u a0),((),()))) (X00 (decide ((ln a0.2.2)>(4:Int))) (Eq ((([]:(List U1q)),false),((),())) ((X2u a0),((),()))) ((XiY a0.2.1 (a0.1,(a0.2.1,a0.2.2)))∧∀r4,(Eq r4 ((XdQ a0.2.1 (a0.1,(a0.2.1,a0.2.2))),((),())))→(X00 r4.1 (Eq ((([]:(List U1q)),false),((),())) ((X2u a0),((),()))) ((Xb6 (a0.1,(a0.2.1,a0.2.2)))∧∀r5,(Eq r5 ((X0c (a0.1,(a0.2.1,a0.2.2))),((),())))→(X00 r5.1.2 ((X27 r5.1.1)∧∀r6,(Eq r6 ((X0y r5.1.1),((),())))→(Eq ((r5.1.1,r6.1),((),())) ((X2u a0),((),())))) (Eq ((r5.1.1,false),((),())) ((X2u a0),((),()))))))))))))))
theorem X17.pure(a0:U3q)(h:(X5P a0))(hw:Wf X52.A a0):X17.F a0:=by
 delta X17.F ln
 simp only[Bs,B0,B1,Prod.mk.injEq,X01,Prod.eta]
 obtain⟨hk,hf⟩:=h
 have no:X8e a0=false→(([]:List Ser),false)=X2u a0:=fun h=>by unfold X2u;rw[if_neg (by rw[h];decide)]
 refine⟨fun h1=>no (by unfold X8e Xj5;rw[h1];rfl),fun h1=>⟨hk,fun h2=>no (by unfold X8e;rw[h2];simp),fun h2=>?_⟩⟩
 obtain⟨s1,s2,s3,s4⟩:=X1I h2
 have hne:XiY a0.2.1 a0:=⟨by omega,fun x hx=>(s4 x hx).2.1⟩
 refine⟨by unfold Xlo;omega,fun h3=>no ?_,fun h3=>⟨fun h4=>no ?_,fun h4=>⟨hne,fun h5=>no ?_,fun h5=>?_⟩⟩⟩
 · have:decide (X9Y a0.2.1≤40)=false:=decide_eq_false (by omega)
   unfold X8e;rw[this];simp
 · have:decide (a0.2.2.length≤4)=false:=decide_eq_false (by omega)
   unfold X8e;rw[this];simp
 · unfold X8e;rw[h5];simp
 have hh:X8e a0=true:=by
  unfold X8e Xj5
  rw[h1,h2,h5,decide_eq_true (by omega:X9Y a0.2.1≤40),decide_eq_true (by omega:a0.2.2.length≤4)];rfl
 refine⟨⟨hf,s1,by omega,by omega⟩,fun h6=>⟨Xiv (Xhh fun x hx=>(s4 x hx).1),?_⟩,fun h6=>?_⟩
 · unfold X2u;rw[if_pos hh,if_pos h6]
 · unfold X2u;rw[if_pos hh,if_neg (by rw[h6];decide)]
theorem X17.eq:EqS X52 Tryz.f87 [25,4] [X1s.e,X2G.e,X2Z.e,X1H.e,X0a.e,X0F.e] [] noL (fun i x=>X17.F x):=by intro i x;kernel_rfl
theorem X17.ok:X0l Tryz.prog 87 X52:=X2b X17.eq Tryz.func87 rfl (by kernel_rfl) fun i x h hi hw=>X17.pure x h hw
def X17.e:GE:=⟨87,X52,⟨_,Tryz.func87,rfl,rfl⟩,X17.ok⟩
def X6x:Con:={A:=T4q,shA:=[.agg 3],R:=.bool,shR:=[(false,1)],pre:=fun _ a=>(X5P a),f:=some fun _ a=>((X13 a),((),()))}
def X25.F(a0:U3q):Prop:=((X5P (a0.1,(a0.2.1,a0.2.2)))∧∀r1,(Eq r1 ((X2u (a0.1,(a0.2.1,a0.2.2))),((),())))→(Eq (r1.1.2,((),())) ((X13 a0),((),()))))
theorem X25.pure(a0:U3q)(h:(X5P a0))(hw:Wf X6x.A a0):X25.F a0:=by
 unfold X25.F
 simp only[Bs,B0,B1,Prod.mk.injEq,X01,X13]
 repeat' (with_reducible (first | (refine And.intro ?_ ?_) | intro _))
 all_goals (try simp (disch:=omega) only[w64,wu8,tn0,tn1,tm1,tm2,List.length_append,List.length_cons,List.length_nil]at*)
 all_goals (try simp (disch:=omega) only[w64,wu8,tn0,tn1,tm1,tm2,List.length_append,List.length_cons,List.length_nil]at*)
 all_goals (try omega)
 all_goals (try grind[])
theorem X25.eq:EqS X6x Tryz.f97 [4] [X17.e] [] noL (fun i x=>X25.F x):=by intro i x;kernel_rfl
theorem X25.ok:X0l Tryz.prog 97 X6x:=X2b X25.eq Tryz.func97 rfl (by kernel_rfl) fun i x h hi hw=>X25.pure x h hw
def X25.e:GE:=⟨97,X6x,⟨_,Tryz.func97,rfl,rfl⟩,X25.ok⟩
end Go.Proofs.YtcfaphojdacmbaaGreatR.B
