/- Engines:right or not,in the program. -/
import Derived.Test.YtcfaphojdacmbaaGreatRCEng
set_option maxRecDepth 100000
set_option linter.unusedVariables false
set_option linter.unusedSimpArgs false
namespace Go.Proofs.YtcfaphojdacmbaaGreatR.B
open Go Go.Proofs.YtcfaphojdacmbaaGreatR.Bv
def X9r(l:List Ser):Int:=cL (fun x:Ser=>(x.2.length:Int)) l
theorem Xgi(l:List Ser):0≤X9r l∧X9r l+l.length=tot l:=by
 unfold X9r tot
 induction l with
 | nil=>simp[cL]
 | cons x l ih=>have e:cS x=(x.2.length:Int)+1:=rfl;rw[X4t,X4t,List.length_cons];omega
def XkS(l:List Ser):Prop:=tot l≤100000000
def cnI(l:List Ser)(n i:Int):Prop:=0≤i∧i≤l.length∧n=X9r (l.take i.toNat)
def cnM(l:List Ser)(n i:Int):Nat:=(l.length - i).toNat
theorem Xm3{l:List Ser}{n i:Int}(h:cnI l n i)(hi:i<l.length):cnI l (n+((l.getD i.toNat ([],[])).2.length:Int)) (i+1):=by
 obtain⟨h1,h2,h3⟩:=h
 refine⟨by omega,by omega,?_⟩
 unfold X9r at h3 ⊢
 rw[tn1 h1,(Xbi (fun x:Ser=>(x.2.length:Int)) ([],[]) (by omega:i.toNat<l.length)).1,h3]
theorem Xq9{l:List Ser}{n i:Int}(h:cnI l n i)(hi:i<l.length):0≤n∧n+((l.getD i.toNat ([],[])).2.length:Int)≤X9r l:=by
 obtain⟨h1,h2,h3⟩:=h
 have a:=(Xbi (fun x:Ser=>(x.2.length:Int)) ([],[]) (by omega:i.toNat<l.length)).2
 have b:=(Xgi (l.take i.toNat)).1
 have c:=(Xgi (l.drop (i.toNat+1))).1
 unfold X9r at*
 omega
theorem Xoo{l:List Ser}{n i:Int}(h:cnI l n i)(hi:¬i<l.length):n=X9r l:=by
 obtain⟨h1,h2,h3⟩:=h
 rw[h3,show i.toNat=l.length by omega,List.take_length]
def Xi8(c:Eng)(x:Ser):Bool:=decide ((x.2.getD 0 (0,0)).1<c.1)
def fLow(x:Ser)(c:Eng):Bool:=Xi8 c x
def Xqk(x:Ser)(c:Eng):Prop:=x.2≠[]
def Xiw(l:List Ser)(c:Eng):Prop:=l.length≤1099511627776∧∀x∈l,x.2≠[]
def XeQ(l:List Ser)(c:Eng):Int:=if l.findIdx (Xi8 c)<l.length then((l.findIdx (Xi8 c):Nat):Int) else -1
def ilI(l:List Ser)(c:Eng)(i:Int):Prop:=0≤i∧i≤l.length∧∀j,j<i.toNat→Xi8 c (l.getD j ([],[]))=false
def ilM(l:List Ser)(c:Eng)(i:Int):Nat:=(l.length - i).toNat
theorem Xr7{l:List Ser}{c:Eng}{i:Int}(h:ilI l c i)(hi:i<l.length)(hd:Xi8 c (l.getD i.toNat ([],[]))=true):i=XeQ l c:=by
 obtain⟨h1,h2,h3⟩:=h
 have e:l.findIdx (Xi8 c)=i.toNat:=by
  refine(List.findIdx_eq (by omega)).2 ⟨by rw[X0P (by omega)]at hd;exact hd,fun j hj=>?_⟩
  have:=h3 j hj
  rw[X0P (by omega)]at this;exact this
 unfold XeQ
 rw[e,if_pos (by omega)];omega
theorem il_no{l:List Ser}{c:Eng}{i:Int}(h:ilI l c i)(hi:¬i<l.length):-1=XeQ l c:=by
 obtain⟨h1,h2,h3⟩:=h
 have e:¬l.findIdx (Xi8 c)<l.length:=fun hlt=>by
  have a:=List.findIdx_getElem (w:=hlt)
  have b:=h3 (l.findIdx (Xi8 c)) (by omega)
  rw[X0P hlt,a]at b;cases b
 unfold XeQ
 rw[if_neg e]
def XdU(l:List Ser)(c:Eng):Bool:=l.any (Xi8 c)
theorem XpD(l:List Ser)(c:Eng):decide (XeQ l c≥0)=XdU l c:=by
 unfold XeQ XdU
 rw[Bool.eq_iff_iff,decide_eq_true_eq,List.any_eq_true]
 constructor
 · intro h
   split at h
   · rename_i hlt;exact⟨_,List.getElem_mem hlt,List.findIdx_getElem (w:=hlt)⟩
   · omega
 · rintro⟨x,hx,hd⟩
   rw[if_pos (List.findIdx_lt_length_of_exists ⟨x,hx,hd⟩)];omega
def X7h:Con:={A:=T8q,shA:=[.one],R:=(.int .i64),shR:=[(false,1)],pre:=fun _ a=>(XkS a),f:=some fun _ a=>((X9r a),((),()))}
def X2A.F(a0:(List U1q)):Prop:=(eS [(6,.val false [.lst T2q a0 none]),(7,.val false [.int .i64 (ln a0)])] [(6,.val false [.lst T2q a0 none]),(7,.val false [.int .i64 (ln a0)])]∧((cnI a0 0 0)∧∀(y1:(Int×Int)),(cnI a0 y1.1 y1.2)→(X00 (decide (y1.2<(ln a0))) (0≤y1.2∧(y1.2<(ln a0)∧(eS [(6,.val false [.lst T2q a0 none]),(7,.val false [.int .i64 (ln a0)])] [(6,.val false [.lst T2q a0 none]),(7,.val false [.int .i64 (ln a0)])]∧(cnI a0 (wI (y1.1+(ln ((List.getD a0 (tN y1.2) ([],[])).2)))) (wI (y1.2+(1:Int))))∧(cnM a0 (wI (y1.1+(ln ((List.getD a0 (tN y1.2) ([],[])).2)))) (wI (y1.2+(1:Int))))<(cnM a0 y1.1 y1.2)))) (Eq (y1.1,((),())) ((X9r a0),((),()))))))
def X2A.L(a0:(List U1q)):Nat→Option X0c:=fun p=>Go.Proofs.YtcfaphojdacmbaaGreatR.Bv.look p [(58,{kp:={hold:=[6,7],slots:=[3,8],boxes:=[],rows:=[]},T:=T0q,I:=fun st y=>cnI a0 y.1 y.2,μ:=fun st y=>cnM a0 y.1 y.2})]
theorem X2A.pure(a0:(List U1q))(h:(XkS a0))(hw:Wf X7h.A a0):X2A.F a0:=by
 delta X2A.F ln tN wI eS
 simp only[Bs,B0,B1,Prod.mk.injEq,X01]
 have hn:tot a0≤100000000:=h
 have k0:=Xgi a0
 have k1:=X6X a0
 refine⟨⟨by omega,by omega,by simp[X9r,cL]⟩,?_⟩
 rintro⟨n,i⟩ hI
 simp only at hI ⊢
 have q1:=hI.1
 have q2:=hI.2.1
 refine⟨fun hi=>?_,fun hi=>Xoo hI hi⟩
 have k2:=Xq9 hI hi
 have st:=Xm3 hI hi
 rw[w64 (x:=i+1) (by omega) (by omega),w64 (by omega) (by omega)]
 exact⟨q1,hi,st,by unfold cnM;omega⟩
theorem X2A.eq:EqS X7h Tryz.f93 [3] [] [] (fun i x=>X2A.L x) (fun i x=>X2A.F x):=by intro i x;kernel_rfl
theorem X2A.ok:X0n Tryz.prog 93 X7h:=X2g X2A.eq Tryz.func93 rfl (by kernel_rfl) fun i x h hi hw=>X2A.pure x h hw
def X2A.e:GE:=⟨93,X7h,⟨_,Tryz.func93,rfl,rfl⟩,X2A.ok⟩
def X48:Con:={A:=(.pair T2q T4q),shA:=[.agg 2,.ptr 3],R:=.bool,shR:=[(false,1)],pre:=fun _ a=>(Xqk a.1 a.2),f:=some fun _ a=>((fLow a.1 a.2),((),()))}
def X0E.F(a0:U1q)(a1:U3q):Prop:=(0≤(0:Int)∧((0:Int)<(ln a0.2)∧(Eq ((decide (((List.getD a0.2 (tN (0:Int)) (0,0)).1)<a1.1)),((),())) ((fLow a0 a1),((),())))))
theorem X0E.pure(a0:U1q)(a1:U3q)(h:(Xqk a0 a1))(hw:Wf X48.A (a0,a1)):X0E.F a0 a1:=by
 delta X0E.F ln tN
 simp only[Bs,B0,B1,Prod.mk.injEq,X01,Xqk,Prod.eta]
 have hp:a0.2≠[]:=h
 have:0<a0.2.length:=List.length_pos_iff.2 hp
 exact⟨by omega,by omega,rfl⟩
theorem X0E.eq:EqS X48 Tryz.f166 [4] [] [] noL (fun i x=>X0E.F x.1 x.2):=by intro i x;kernel_rfl
theorem X0E.ok:X0n Tryz.prog 166 X48:=X2g X0E.eq Tryz.func166 rfl (by kernel_rfl) fun i x h hi hw=>X0E.pure x.1 x.2 h hw
def X0E.e:GE:=⟨166,X48,⟨_,Tryz.func166,rfl,rfl⟩,X0E.ok⟩
def X0F:Con:={A:=(.pair T8q T4q),shA:=[.one,.clo 166 [3]],R:=(.int .i64),shR:=[(false,1)],pre:=fun _ a=>(Xiw a.1 a.2),f:=some fun _ a=>((XeQ a.1 a.2),((),()))}
def X07.F(a0:(List U1q))(a1:U3q):Prop:=(eS [(0,.val false [.lst T2q a0 none]),(1,.fn 166 [] [.ptr [.int .i64 a1.1,.lst T2q a1.2.1 none,.lst .str a1.2.2 none]]),(7,.val false [.int .i64 (ln a0)])] [(0,.val false [.lst T2q a0 none]),(1,.fn 166 [] [.ptr [.int .i64 a1.1,.lst T2q a1.2.1 none,.lst .str a1.2.2 none]]),(7,.val false [.int .i64 (ln a0)])]∧((ilI a0 a1 0)∧∀(y1:Int),(ilI a0 a1 y1)→(X00 (decide (y1<(ln a0))) (0≤y1∧(y1<(ln a0)∧((Xqk ((List.getD a0 (tN y1) ([],[])).1,(List.getD a0 (tN y1) ([],[])).2) (a1.1,(a1.2.1,a1.2.2)))∧∀r2,(Eq r2 ((fLow ((List.getD a0 (tN y1) ([],[])).1,(List.getD a0 (tN y1) ([],[])).2) (a1.1,(a1.2.1,a1.2.2))),((),())))→(X00 r2.1 (Eq (y1,((),())) ((XeQ a0 a1),((),()))) (eS [(0,.val false [.lst T2q a0 none]),(1,.fn 166 [] [.ptr [.int .i64 a1.1,.lst T2q a1.2.1 none,.lst .str a1.2.2 none]]),(7,.val false [.int .i64 (ln a0)])] [(0,.val false [.lst T2q a0 none]),(1,.fn 166 [] [.ptr [.int .i64 a1.1,.lst T2q a1.2.1 none,.lst .str a1.2.2 none]]),(7,.val false [.int .i64 (ln a0)])]∧(ilI a0 a1 (wI (y1+(1:Int))))∧(ilM a0 a1 (wI (y1+(1:Int))))<(ilM a0 a1 y1)))))) (Eq ((-1),((),())) ((XeQ a0 a1),((),()))))))
def X07.L(a0:(List U1q))(a1:U3q):Nat→Option X0c:=fun p=>Go.Proofs.YtcfaphojdacmbaaGreatR.Bv.look p [(26,{kp:={hold:=[0,1,7],slots:=[8],boxes:=[],rows:=[]},T:=(.int .i64),I:=fun st y=>ilI a0 a1 y,μ:=fun st y=>ilM a0 a1 y})]
theorem X07.pure(a0:(List U1q))(a1:U3q)(h:(Xiw a0 a1))(hw:Wf X0F.A (a0,a1)):X07.F a0 a1:=by
 delta X07.F ln tN wI eS
 simp only[Bs,B0,B1,Prod.mk.injEq,X01,Prod.eta,fLow,Xqk]
 obtain⟨hl,hne⟩:=h
 refine⟨⟨by omega,by omega,fun j hj=>absurd hj (by simp)⟩,?_⟩
 rintro i hI
 have q1:=hI.1
 have q2:=hI.2.1
 rw[w64 (x:=i+1) (by omega) (by omega)]
 refine⟨fun hi=>⟨q1,hi,hne _ (X0S (by omega)),fun hd=>Xr7 hI hi hd,fun hd=>⟨⟨by omega,by omega,fun j hj=>?_⟩,by unfold ilM;omega⟩⟩,fun hi=>il_no hI hi⟩
 by_cases e:j=i.toNat
 · rw[e];exact hd
 · exact hI.2.2 j (by omega)
theorem X07.eq:EqS X0F Tryz.f222 [3] [X0E.e] [] (fun i x=>X07.L x.1 x.2) (fun i x=>X07.F x.1 x.2):=by intro i x;kernel_rfl
theorem X07.ok:X0n Tryz.prog 222 X0F:=X2g X07.eq Tryz.func222 rfl (by kernel_rfl) fun i x h hi hw=>X07.pure x.1 x.2 h hw
def X07.e:GE:=⟨222,X0F,⟨_,Tryz.func222,rfl,rfl⟩,X07.ok⟩
def X0z:Con:={A:=(.pair T8q T4q),shA:=[.one,.clo 166 [3]],R:=.bool,shR:=[(false,1)],pre:=fun _ a=>(Xiw a.1 a.2),f:=some fun _ a=>((XdU a.1 a.2),((),()))}
def X0a.F(a0:(List U1q))(a1:U3q):Prop:=((Xiw a0 (a1.1,(a1.2.1,a1.2.2)))∧∀r1,(Eq r1 ((XeQ a0 (a1.1,(a1.2.1,a1.2.2))),((),())))→(Eq ((decide (r1.1≥(0:Int))),((),())) ((XdU a0 a1),((),()))))
theorem X0a.pure(a0:(List U1q))(a1:U3q)(h:(Xiw a0 a1))(hw:Wf X0z.A (a0,a1)):X0a.F a0 a1:=by
 unfold X0a.F
 simp only[Bs,B0,B1,Prod.mk.injEq,X01,Prod.eta]
 exact⟨h,XpD _ _⟩
theorem X0a.eq:EqS X0z Tryz.f165 [4] [X0E.e,X07.e] [] noL (fun i x=>X0a.F x.1 x.2):=by intro i x;kernel_rfl
theorem X0a.ok:X0n Tryz.prog 165 X0z:=X2g X0a.eq Tryz.func165 rfl (by kernel_rfl) fun i x h hi hw=>X0a.pure x.1 x.2 h hw
def X0a.e:GE:=⟨165,X0z,⟨_,Tryz.func165,rfl,rfl⟩,X0a.ok⟩
def X7F(fs:List U5q):List (List Ser):=fs.map fun f=>(X0e f).1
def okF(fs:List U5q):Bool:=fs.all fun f=>(X0e f).2
theorem XnO(f:List UInt8)(h:(X0e f).2=true):X0y (X0e f).1=true:=by
 unfold X0e at h ⊢
 split at h
 · rename_i hr;rw[if_pos hr];exact hr.1.1
 · cases h
theorem XdM(f:List UInt8):X8T (X0e f).1∧tot (X0e f).1≤305∧∀x∈(X0e f).1,x.1.length≤8:=by
 by_cases h:(X0e f).2=true
 · obtain⟨h1,h2,h3,h4⟩:=X1t (XnO f h)
   exact⟨h1,h2,fun x hx=>(h4 x hx).1⟩
 · have:(X0e f).1=[]:=by
    unfold X0e at h ⊢
    split
    · rename_i hr;rw[if_pos hr]at h;exact absurd rfl h
    · rfl
   rw[this]
   exact⟨Xbk,by simp[tot,cL],fun x hx=>by cases hx⟩
def X0d(e:Eng):List Ser×Bool:=if okF e.2.2=true then(X0s (X2O (X2s (X7F e.2.2)) e.2.1) e.1,true) else([],false)
def XaT(e:Eng):Prop:=(∀f∈e.2.2,Xg7 f)∧X8T e.2.1∧tot e.2.1≤100000∧e.2.2.length≤1000
structure plI (e:Eng) (i:Int) (fl:Int) (ca:List Ser) (fi:List U5q) (out:List Ser):Prop where
 h0:((fl,(ca,fi)):Eng)=e
 h1:0≤i
 h2:i≤e.2.2.length
 h3:out=X2s (X7F (e.2.2.take i.toNat))
 h4:X8T out
 h5:tot out≤305*i
 h6:okF (e.2.2.take i.toNat)=true
def plM(e:Eng)(i:Int)(fl:Int)(ca:List Ser)(fi:List U5q)(out:List Ser):Nat:=(e.2.2.length - i).toNat
theorem Xp1{e:Eng}{i fl:Int}{ca:List Ser}{fi:List U5q}{out:List Ser}(h:plI e i fl ca fi out)(hi:i<e.2.2.length)(hr:(X0e (e.2.2.getD i.toNat [])).2=true):plI e (i+1) fl ca fi (X2O out (X0e (e.2.2.getD i.toNat [])).1):=by
 obtain⟨h0,h1,h2,h3,h4,h5,h6⟩:=h
 obtain⟨r1,r2,_⟩:=XdM (e.2.2.getD i.toNat [])
 have ht:=X9P h4 r1.2
 refine⟨h0,by omega,by omega,?_,X4C h4 r1.2,by omega,?_⟩
 · rw[tn1 h1,X1P [] (by omega),h3]
   simp only[X7F,X2s,List.map_append,List.foldl_append,List.map_cons,List.map_nil,List.foldl_cons,List.foldl_nil]
 · rw[tn1 h1,X1P [] (by omega)]
   simp only[okF,List.all_append,List.all_cons,List.all_nil,Bool.and_true,Bool.and_eq_true]at h6 ⊢
   exact⟨h6,hr⟩
theorem pl_no{e:Eng}{i:Nat}(hi:i<e.2.2.length)(hr:(X0e (e.2.2.getD i [])).2=false):([],false)=X0d e:=by
 unfold X0d
 rw[if_neg]
 intro h
 have:=List.all_eq_true.1 h _ (X0S (d:=[]) hi)
 rw[hr]at this;cases this
theorem XqX{e:Eng}{i fl:Int}{ca:List Ser}{fi:List U5q}{out:List Ser}(h:plI e i fl ca fi out)(hi:¬i<e.2.2.length):(X0s (X2O out e.2.1) e.1,true)=X0d e:=by
 obtain⟨h0,h1,h2,h3,h4,h5,h6⟩:=h
 have e1:i.toNat=e.2.2.length:=by omega
 rw[e1,List.take_length]at h3 h6
 unfold X0d
 rw[if_pos h6,h3]
def X7O:Con:={A:=T4q,shA:=[.agg 3],R:=(.pair T8q .bool),shR:=[(false,1),(false,1)],fresh:=[(0,83)],pre:=fun _ a=>(XaT a),f:=some fun _ a=>((X0d a),((),()))}
def X2N.F(a0:U3q):Prop:=(eS [(1,.box 2 0),(11,.val false [.lst .str a0.2.2 none]),(12,.val false [.int .i64 (ln a0.2.2)])] [(1,.box 2 0),(11,.val false [.lst .str a0.2.2 none]),(12,.val false [.int .i64 (ln a0.2.2)])]∧((plI a0 0 a0.1 a0.2.1 a0.2.2 ([]:List U1q))∧∀(y1:(Int×(Int×((List U1q)×((List U5q)×(List U1q)))))),(plI a0 y1.1 y1.2.1 y1.2.2.1 y1.2.2.2.1 y1.2.2.2.2)→(X00 (decide (y1.1<(ln a0.2.2))) (0≤y1.1∧(y1.1<(ln a0.2.2)∧((Xg7 (List.getD a0.2.2 (tN y1.1) []))∧∀r2,(Eq r2 ((X0e (List.getD a0.2.2 (tN y1.1) [])),((),())))→(X00 (!r2.1.2) (Eq ((([]:(List U1q)),false),((),())) ((X0d a0),((),()))) ((Xk5 y1.2.2.2.2 r2.1.1)∧∀r3,(Eq r3 ((X2O y1.2.2.2.2 r2.1.1),((),())))→(eS [(1,.box 2 0),(11,.val false [.lst .str a0.2.2 none]),(12,.val false [.int .i64 (ln a0.2.2)])] [(1,.box 2 0),(11,.val false [.lst .str a0.2.2 none]),(12,.val false [.int .i64 (ln a0.2.2)])]∧(plI a0 (wI (y1.1+(1:Int))) y1.2.1 y1.2.2.1 y1.2.2.2.1 r3.1)∧(plM a0 (wI (y1.1+(1:Int))) y1.2.1 y1.2.2.1 y1.2.2.2.1 r3.1)<(plM a0 y1.1 y1.2.1 y1.2.2.1 y1.2.2.2.1 y1.2.2.2.2))))))) ((Xk5 y1.2.2.2.2 y1.2.2.1)∧∀r4,(Eq r4 ((X2O y1.2.2.2.2 y1.2.2.1),((),())))→((Xej r4.1 y1.2.1)∧∀r5,(Eq r5 ((X0s r4.1 y1.2.1),((),())))→(Eq ((r5.1,true),((),())) ((X0d a0),((),()))))))))
def X2N.L(a0:U3q):Nat→Option X0c:=fun p=>Go.Proofs.YtcfaphojdacmbaaGreatR.Bv.look p [(58,{kp:={hold:=[1,11,12],slots:=[4,13],boxes:=[2],rows:=[{bx:=false,s:=4,i:=0,k:=1000515,e:=83,hot:=true}]},T:=(.pair (.int .i64) (.pair (.int .i64) (.pair T8q (.pair (.list .str) T8q)))),I:=fun st y=>plI a0 y.1 y.2.1 y.2.2.1 y.2.2.2.1 y.2.2.2.2,μ:=fun st y=>plM a0 y.1 y.2.1 y.2.2.1 y.2.2.2.1 y.2.2.2.2})]
theorem X2N.pure(a0:U3q)(h:(XaT a0))(hw:Wf X7O.A a0):X2N.F a0:=by
 delta X2N.F ln tN wI eS
 simp only[Bs,B0,B1,Prod.mk.injEq,X01,Prod.eta,Xej]
 obtain⟨hf,hc,hn,hl⟩:=h
 refine⟨⟨rfl,by omega,by omega,by simp[X2s,X7F],Xbk,by simp[tot,cL],by simp[okF]⟩,?_⟩
 rintro⟨i,fl,ca,fi,out⟩ hI
 simp only at hI ⊢
 have q1:=hI.h1
 have q2:=hI.h2
 have q5:=hI.h5
 refine⟨fun hi=>?_,fun hi=>?_⟩
 · have hm:=X0S (d:=([]:List UInt8)) (by omega:i.toNat<a0.2.2.length)
   obtain⟨r1,r2,_⟩:=XdM (a0.2.2.getD i.toNat [])
   rw[w64 (x:=i+1) (by omega) (by omega)]
   exact⟨q1,hi,hf _ hm,fun hr=>pl_no (by omega) hr,fun hr=>⟨⟨hI.h4,r1.2,by omega⟩,Xp1 hI hi hr,by unfold plM;omega⟩⟩
 · have he:=XqX hI hi
   have ht:=X9P hI.h4 hc.2
   obtain rfl:=hI.h0
   simp only at hn he ht hc hl hi q2 ⊢
   exact⟨⟨hI.h4,hc.2,by omega⟩,by omega,he⟩
theorem X2N.eq:EqS X7O Tryz.f98 [25,4] [X1U.e,X3H.e,X2y.e] [] (fun i x=>X2N.L x) (fun i x=>X2N.F x):=by intro i x;kernel_rfl
theorem X2N.ok:X0n Tryz.prog 98 X7O:=X2g X2N.eq Tryz.func98 rfl (by kernel_rfl) fun i x h hi hw=>X2N.pure x h hw
def X2N.e:GE:=⟨98,X7O,⟨_,Tryz.func98,rfl,rfl⟩,X2N.ok⟩
def X7M(e:Eng):Bool:=Xiv e.1&&(X0y e.2.1&&(decide (X9r e.2.1≤40)&&(decide (e.2.2.length≤4)&&!XdU e.2.1 e)))
def X2l(e:Eng):List Ser×Bool:=if X7M e=true then(if (X0d e).2=true then((X0d e).1,X0y (X0d e).1) else((X0d e).1,false)) else([],false)
def X0L(e:Eng):Bool:=(X2l e).2
def X55(e:Eng):Prop:=X21 e.2.1∧∀f∈e.2.2,Xg7 f
theorem XnW{l:List Ser}{s:Ser}{n:Nat}(h:∀x∈l,x.1.length≤n)(hs:s.1.length≤n):∀x∈XcX l s,x.1.length≤n:=fun x hx=>by
 rcases Xd6 hx with hx | rfl | ⟨y,hy,rfl⟩
 · exact h x hx
 · exact hs
 · exact h y hy
theorem X9T{n:Nat}:∀{t l:List Ser},(∀x∈l,x.1.length≤n)→(∀x∈t,x.1.length≤n)→∀x∈X2O l t,x.1.length≤n
 | [],_,h,_=>h
 | s::t,l,h,ht=>X9T (t:=t) (XnW h (ht s (by simp))) fun x hx=>ht x (by simp[hx])
theorem Xf3{n:Nat}:∀(ls:List (List Ser)) (l:List Ser),(∀x∈l,x.1.length≤n)→(∀t∈ls,∀x∈t,x.1.length≤n)→∀x∈ls.foldl X2O l,x.1.length≤n
 | [],_,h,_=>h
 | t::ls,l,h,ht=>Xf3 ls (X2O l t) (X9T h (ht t (by simp))) fun x hx=>ht x (by simp[hx])
theorem Xkb{n:Nat}{l:List Ser}(h:∀x∈l,x.1.length≤n)(f:Int):∀x∈X0s l f,x.1.length≤n:=fun x hx=>by
 obtain⟨y,hy,rfl⟩:=Xae hx
 exact h y hy
theorem XhJ{e:Eng}(h:∀x∈e.2.1,x.1.length≤8):∀x∈(X0d e).1,x.1.length≤8:=by
 unfold X0d
 split
 · refine Xkb (X9T (Xf3 _ _ (fun x hx=>by cases hx) fun t ht x hx=>?_) h) _
   obtain⟨f,_,rfl⟩:=List.mem_map.1 ht
   exact(XdM f).2.2 x hx
 · intro x hx;cases hx
theorem Xh3{l:List Ser}(h:∀x∈l,x.1.length≤8):X21 l:=fun x hx=>Nat.le_trans (h x hx) (by decide)
def X4Z:Con:={A:=T4q,shA:=[.agg 3],R:=(.pair T8q .bool),shR:=[(false,1),(false,1)],fresh:=[(0,83)],pre:=fun _ a=>(X55 a),f:=some fun _ a=>((X2l a),((),()))}
def X19.F(a0:U3q):Prop:=(True∧∀r1,(Eq r1 ((fIn a0.1 0 1099511627776),((),())))→(X00 (!r1.1) (Eq ((([]:(List U1q)),false),((),())) ((X2l a0),((),()))) ((X21 a0.2.1)∧∀r2,(Eq r2 ((X0y a0.2.1),((),())))→(X00 (!r2.1) (Eq ((([]:(List U1q)),false),((),())) ((X2l a0),((),()))) ((XkS a0.2.1)∧∀r3,(Eq r3 ((X9r a0.2.1),((),())))→(X00 (decide (r3.1>(40:Int))) (Eq ((([]:(List U1q)),false),((),())) ((X2l a0),((),()))) (X00 (decide ((ln a0.2.2)>(4:Int))) (Eq ((([]:(List U1q)),false),((),())) ((X2l a0),((),()))) ((Xiw a0.2.1 (a0.1,(a0.2.1,a0.2.2)))∧∀r4,(Eq r4 ((XdU a0.2.1 (a0.1,(a0.2.1,a0.2.2))),((),())))→(X00 r4.1 (Eq ((([]:(List U1q)),false),((),())) ((X2l a0),((),()))) ((XaT (a0.1,(a0.2.1,a0.2.2)))∧∀r5,(Eq r5 ((X0d (a0.1,(a0.2.1,a0.2.2))),((),())))→(X00 r5.1.2 ((X21 r5.1.1)∧∀r6,(Eq r6 ((X0y r5.1.1),((),())))→(Eq ((r5.1.1,r6.1),((),())) ((X2l a0),((),())))) (Eq ((r5.1.1,false),((),())) ((X2l a0),((),()))))))))))))))
theorem X19.pure(a0:U3q)(h:(X55 a0))(hw:Wf X4Z.A a0):X19.F a0:=by
 delta X19.F ln
 simp only[Bs,B0,B1,Prod.mk.injEq,X01,Prod.eta]
 obtain⟨hk,hf⟩:=h
 have no:X7M a0=false→(([]:List Ser),false)=X2l a0:=fun h=>by unfold X2l;rw[if_neg (by rw[h];decide)]
 refine⟨fun h1=>no (by unfold X7M Xiv;rw[h1];rfl),fun h1=>⟨hk,fun h2=>no (by unfold X7M;rw[h2];simp),fun h2=>?_⟩⟩
 obtain⟨s1,s2,s3,s4⟩:=X1t h2
 have hne:Xiw a0.2.1 a0:=⟨by omega,fun x hx=>(s4 x hx).2.1⟩
 refine⟨by unfold XkS;omega,fun h3=>no ?_,fun h3=>⟨fun h4=>no ?_,fun h4=>⟨hne,fun h5=>no ?_,fun h5=>?_⟩⟩⟩
 · have:decide (X9r a0.2.1≤40)=false:=decide_eq_false (by omega)
   unfold X7M;rw[this];simp
 · have:decide (a0.2.2.length≤4)=false:=decide_eq_false (by omega)
   unfold X7M;rw[this];simp
 · unfold X7M;rw[h5];simp
 have hh:X7M a0=true:=by
  unfold X7M Xiv
  rw[h1,h2,h5,decide_eq_true (by omega:X9r a0.2.1≤40),decide_eq_true (by omega:a0.2.2.length≤4)];rfl
 refine⟨⟨hf,s1,by omega,by omega⟩,fun h6=>⟨Xh3 (XhJ fun x hx=>(s4 x hx).1),?_⟩,fun h6=>?_⟩
 · unfold X2l;rw[if_pos hh,if_pos h6]
 · unfold X2l;rw[if_pos hh,if_neg (by rw[h6];decide)]
theorem X19.eq:EqS X4Z Tryz.f87 [25,4] [X1q.e,X2A.e,X2N.e,X1D.e,X0a.e,X0E.e] [] noL (fun i x=>X19.F x):=by intro i x;kernel_rfl
theorem X19.ok:X0n Tryz.prog 87 X4Z:=X2g X19.eq Tryz.func87 rfl (by kernel_rfl) fun i x h hi hw=>X19.pure x h hw
def X19.e:GE:=⟨87,X4Z,⟨_,Tryz.func87,rfl,rfl⟩,X19.ok⟩
def X6g:Con:={A:=T4q,shA:=[.agg 3],R:=.bool,shR:=[(false,1)],pre:=fun _ a=>(X55 a),f:=some fun _ a=>((X0L a),((),()))}
def X26.F(a0:U3q):Prop:=((X55 (a0.1,(a0.2.1,a0.2.2)))∧∀r1,(Eq r1 ((X2l (a0.1,(a0.2.1,a0.2.2))),((),())))→(Eq (r1.1.2,((),())) ((X0L a0),((),()))))
theorem X26.pure(a0:U3q)(h:(X55 a0))(hw:Wf X6g.A a0):X26.F a0:=by
 unfold X26.F
 simp only[Bs,B0,B1,Prod.mk.injEq,X01,X0L]
 repeat' (with_reducible (first | (refine And.intro ?_ ?_) | intro _))
 all_goals (try simp (disch:=omega) only[w64,wu8,tn0,tn1,tm1,tm2,List.length_append,List.length_cons,List.length_nil]at*)
 all_goals (try simp (disch:=omega) only[w64,wu8,tn0,tn1,tm1,tm2,List.length_append,List.length_cons,List.length_nil]at*)
 all_goals (try omega)
 all_goals (try grind[])
theorem X26.eq:EqS X6g Tryz.f97 [4] [X19.e] [] noL (fun i x=>X26.F x):=by intro i x;kernel_rfl
theorem X26.ok:X0n Tryz.prog 97 X6g:=X2g X26.eq Tryz.func97 rfl (by kernel_rfl) fun i x h hi hw=>X26.pure x h hw
def X26.e:GE:=⟨97,X6g,⟨_,Tryz.func97,rfl,rfl⟩,X26.ok⟩
end Go.Proofs.YtcfaphojdacmbaaGreatR.B
