/- Engines:what all keys have. -/
import Derived.Test.YtcfaphojdacmbaaGreatRCEng0
import Derived.Test.YtcfaphojdacmbaaGreatRCMrgB
import Derived.Test.YtcfaphojdacmbaaGreatRCSlc
import Derived.Test.YtcfaphojdacmbaaGreatRCCmp
import Derived.Test.YtcfaphojdacmbaaGreatRCInsS
import Derived.Test.YtcfaphojdacmbaaGreatRCRFile
set_option maxRecDepth 100000
set_option linter.unusedVariables false
set_option linter.unusedSimpArgs false
namespace Go.Proofs.YtcfaphojdacmbaaGreatR.B
open Go Go.Proofs.YtcfaphojdacmbaaGreatR.Bv
abbrev Eng:=U3q
def Xjq(s:Ser)(k:List UInt8):Int:=X9J s.1 k
def Xqy(l:List Ser)(k:List UInt8)(u:Unit):Prop:=XcB l∧l.length≤1099511627776
def Xq2(l:List Ser)(k:List UInt8)(u:Unit):Int×Bool:=((pos Op.bytesLess Prod.fst k l:Nat),X5M l k)
structure btI (l:List Ser) (k:List UInt8) (u:Unit) (i j:Int):Prop where
 h1:0≤i
 h2:i≤j
 h3:j≤l.length
 h4:∀x,x<i.toNat→Op.bytesLess (l.getD x ([],[])).1 k=true
 h5:∀x,j.toNat≤x→x<l.length→Op.bytesLess (l.getD x ([],[])).1 k=false
def btM(l:List Ser)(k:List UInt8)(u:Unit)(i j:Int):Nat:=(j - i).toNat
theorem bt_lo{l:List Ser}{k:List UInt8}{u:Unit}{i j h:Int}(ha:XcB l)(hI:btI l k u i j)(h1:i≤h)(h2:h<j)(hk:Op.bytesLess (l.getD h.toNat ([],[])).1 k=true):btI l k u (h+1) j:=by
 obtain⟨q1,q2,q3,q4,q5⟩:=hI
 refine⟨by omega,by omega,q3,fun x hx=>?_,q5⟩
 by_cases e:x=h.toNat
 · subst e;exact hk
 · exact X4M.tr _ _ _ (X5g ([],[]) ha (i:=x) (j:=h.toNat) (by omega) (by omega)) hk
theorem bt_hi{l:List Ser}{k:List UInt8}{u:Unit}{i j h:Int}(ha:XcB l)(hI:btI l k u i j)(h1:i≤h)(h2:h<j)(hk:¬Op.bytesLess (l.getD h.toNat ([],[])).1 k=true):btI l k u i h:=by
 obtain⟨q1,q2,q3,q4,q5⟩:=hI
 refine⟨q1,h1,by omega,q4,fun x hx hl=>?_⟩
 by_cases e:x=h.toNat
 · subst e;simpa using hk
 · have:=X5g ([],[]) ha (i:=h.toNat) (j:=x) (by omega) hl
   rw[Bool.eq_false_iff];intro hx2
   exact hk (X4M.tr _ _ _ this hx2)
theorem XqN{l:List Ser}{k:List UInt8}{u:Unit}{i j:Int}(ha:XcB l)(hI:btI l k u i j)(hij:¬i<j):pos Op.bytesLess Prod.fst k l=i.toNat∧X5M l k=(decide (i<l.length)&&decide ((l.getD i.toNat ([],[])).1=k)):=by
 obtain⟨q1,q2,q3,q4,q5⟩:=hI
 have e:i=j:=by omega
 subst e
 have hp:pos Op.bytesLess Prod.fst k l=i.toNat:=Xmr ([],[]) (by omega) q4 q5
 refine⟨hp,?_⟩
 rw[Bool.eq_iff_iff,Bool.and_eq_true,decide_eq_true_eq,decide_eq_true_eq]
 constructor
 · intro h
   obtain⟨h1,h2⟩:=Xca ha h
   rw[hp]at h1 h2
   exact⟨by omega,h2⟩
 · rintro⟨h1,h2⟩
   exact X5i.2 ⟨_,X14 (by omega),h2⟩
theorem lt0(x:Ser)(k:List UInt8):(Xjq x k<0)=(Op.bytesLess x.1 k=true):=propext (Xmf _ _)
theorem eq0(x:Ser)(k:List UInt8):(Xjq x k==0)=decide (x.1=k):=by
 rw[Bool.eq_iff_iff];simp only[beq_iff_eq,decide_eq_true_eq];exact XlY _ _
def fSf(l:List Ser)(k:List UInt8):Int×Bool:=Xq2 l k ()
def pSf(l:List Ser)(k:List UInt8):Prop:=Xqy l k ()
def X4H:Con:={A:=(.pair T2q .str),shA:=[.agg 2,.one],R:=(.int .i64),shR:=[(false,1)],pre:=fun _ _=>True,f:=some fun _ a=>((Xjq a.1 a.2),((),()))}
def X15.F(a0:U1q)(a1:U5q):Prop:=(True∧∀r1,(Eq r1 ((X9J a0.1 a1),((),())))→(Eq (r1.1,((),())) ((Xjq a0 a1),((),()))))
theorem X15.pure(a0:U1q)(a1:U5q)(h:True)(hw:Wf X4H.A (a0,a1)):X15.F a0 a1:=by
 unfold X15.F
 simp only[Bs,B0,B1,Prod.mk.injEq,X01,Xjq,Prod.eta]
 repeat' (with_reducible (first | (refine And.intro ?_ ?_) | intro _))
 all_goals (try simp (disch:=omega) only[w64,wu8,tn0,tn1,tm1,tm2,List.length_append,List.length_cons,List.length_nil]at*)
 all_goals (try simp (disch:=omega) only[w64,wu8,tn0,tn1,tm1,tm2,List.length_append,List.length_cons,List.length_nil]at*)
 all_goals (try omega)
 all_goals (try grind[])
theorem X15.eq:EqS X4H Tryz.f174 [3] [X1R.e] [] noL (fun i x=>X15.F x.1 x.2):=by intro i x;kernel_rfl
theorem X15.ok:X0l Tryz.prog 174 X4H:=X2b X15.eq Tryz.func174 rfl (by kernel_rfl) fun i x h hi hw=>X15.pure x.1 x.2 h hw
def X15.e:GE:=⟨174,X4H,⟨_,Tryz.func174,rfl,rfl⟩,X15.ok⟩
def X0q:Con:={A:=(.pair T9q (.pair .str .unit)),shA:=[.one,.one,.clo 174 []],R:=(.pair (.int .i64) .bool),shR:=[(false,1),(false,1)],pre:=fun _ a=>(Xqy a.1 a.2.1 a.2.2),f:=some fun _ a=>((Xq2 a.1 a.2.1 a.2.2),((),()))}
def X03.F(a0:(List U1q))(a1:U5q)(a2:Unit):Prop:=(eS [(0,.val false [.lst T2q a0 none]),(1,.val false [.str a1]),(2,.fn 174 [] []),(8,.val false [.int .i64 (ln a0)])] [(0,.val false [.lst T2q a0 none]),(1,.val false [.str a1]),(2,.fn 174 [] []),(8,.val false [.int .i64 (ln a0)])]∧((btI a0 a1 a2 0 (ln a0))∧∀(y1:(Int×Int)),(btI a0 a1 a2 y1.1 y1.2)→(X00 (decide (y1.1<y1.2)) (0≤(1:Int)∧(0≤(wI (Int.fdiv (IntKind.wrap .u64 (wI (y1.1+y1.2))) (2 ^ (min (tN (1:Int)) (IntKind.bits .u64)))))∧((wI (Int.fdiv (IntKind.wrap .u64 (wI (y1.1+y1.2))) (2 ^ (min (tN (1:Int)) (IntKind.bits .u64)))))<(ln a0)∧(True∧∀r2,(Eq r2 ((Xjq ((List.getD a0 (tN (wI (Int.fdiv (IntKind.wrap .u64 (wI (y1.1+y1.2))) (2 ^ (min (tN (1:Int)) (IntKind.bits .u64)))))) ([],[])).1,(List.getD a0 (tN (wI (Int.fdiv (IntKind.wrap .u64 (wI (y1.1+y1.2))) (2 ^ (min (tN (1:Int)) (IntKind.bits .u64)))))) ([],[])).2) a1),((),())))→(X00 (decide (r2.1<(0:Int))) (eS [(0,.val false [.lst T2q a0 none]),(1,.val false [.str a1]),(2,.fn 174 [] []),(8,.val false [.int .i64 (ln a0)])] [(0,.val false [.lst T2q a0 none]),(1,.val false [.str a1]),(2,.fn 174 [] []),(8,.val false [.int .i64 (ln a0)])]∧(btI a0 a1 a2 (wI ((wI (Int.fdiv (IntKind.wrap .u64 (wI (y1.1+y1.2))) (2 ^ (min (tN (1:Int)) (IntKind.bits .u64)))))+(1:Int))) y1.2)∧(btM a0 a1 a2 (wI ((wI (Int.fdiv (IntKind.wrap .u64 (wI (y1.1+y1.2))) (2 ^ (min (tN (1:Int)) (IntKind.bits .u64)))))+(1:Int))) y1.2)<(btM a0 a1 a2 y1.1 y1.2)) (eS [(0,.val false [.lst T2q a0 none]),(1,.val false [.str a1]),(2,.fn 174 [] []),(8,.val false [.int .i64 (ln a0)])] [(0,.val false [.lst T2q a0 none]),(1,.val false [.str a1]),(2,.fn 174 [] []),(8,.val false [.int .i64 (ln a0)])]∧(btI a0 a1 a2 y1.1 (wI (Int.fdiv (IntKind.wrap .u64 (wI (y1.1+y1.2))) (2 ^ (min (tN (1:Int)) (IntKind.bits .u64))))))∧(btM a0 a1 a2 y1.1 (wI (Int.fdiv (IntKind.wrap .u64 (wI (y1.1+y1.2))) (2 ^ (min (tN (1:Int)) (IntKind.bits .u64))))))<(btM a0 a1 a2 y1.1 y1.2))))))) (X00 (decide (y1.1<(ln a0))) (0≤y1.1∧(y1.1<(ln a0)∧(True∧∀r3,(Eq r3 ((Xjq ((List.getD a0 (tN y1.1) ([],[])).1,(List.getD a0 (tN y1.1) ([],[])).2) a1),((),())))→(Eq ((y1.1,(r3.1==(0:Int))),((),())) ((Xq2 a0 a1 a2),((),())))))) (Eq ((y1.1,false),((),())) ((Xq2 a0 a1 a2),((),())))))))
def X03.L(a0:(List U1q))(a1:U5q)(a2:Unit):Nat→Option X0d:=fun p=>Go.Proofs.YtcfaphojdacmbaaGreatR.Bv.look p [(60,{kp:={hold:=[0,1,2,8],slots:=[9,10],boxes:=[],rows:=[]},T:=T0q,I:=fun st y=>btI a0 a1 a2 y.1 y.2,μ:=fun st y=>btM a0 a1 a2 y.1 y.2})]
theorem X03.pure(a0:(List U1q))(a1:U5q)(a2:Unit)(h:(Xqy a0 a1 a2))(hw:Wf X0q.A (a0,a1,a2)):X03.F a0 a1 a2:=by
 delta X03.F ln tN wI eS
 simp only[Bs,B0,B1,Prod.mk.injEq,X01,Prod.eta]
 obtain⟨hp,hl⟩:=h
 refine⟨⟨by omega,by omega,by omega,by simp,fun k h1 h2=>by omega⟩,?_⟩
 rintro⟨i,j⟩ hI
 simp only at hI ⊢
 have q1:=hI.h1
 have q2:=hI.h2
 have q3:=hI.h3
 refine⟨fun hij=>?_,fun hij=>?_⟩
 · rw[w64 (x:=i+j) (by omega) (by omega),wu64 (x:=i+j) (by omega) (by omega),half (by omega) (by omega),w64 (x:=(i+j) / 2) (by omega) (by omega)]
   rw[lt0,w64 (x:=(i+j) / 2+1) (by omega) (by omega)]
   refine⟨by omega,by omega,by omega,fun h1=>⟨bt_lo hp hI (by omega) (by omega) h1,by unfold btM;omega⟩,fun h1=>⟨bt_hi hp hI (by omega) (by omega) h1,by unfold btM;omega⟩⟩
 · obtain⟨e1,e2⟩:=XqN hp hI hij
   have e3:((i.toNat:Nat):Int)=i:=by omega
   refine⟨fun h1=>⟨by omega,by omega,?_⟩,fun h1=>?_⟩
   · simp only[Xq2,e1,e2,e3,decide_eq_true h1,Bool.true_and,Prod.mk.injEq,true_and,and_true]
     exact eq0 _ _
   · simp only[Xq2,e1,e2,e3,decide_eq_false h1,Bool.false_and]
theorem X03.eq:EqS X0q Tryz.f173 [3,4] [X15.e] [] (fun i x=>X03.L x.1 x.2.1 x.2.2) (fun i x=>X03.F x.1 x.2.1 x.2.2):=by intro i x;kernel_rfl
theorem X03.ok:X0l Tryz.prog 173 X0q:=X2b X03.eq Tryz.func173 rfl (by kernel_rfl) fun i x h hi hw=>X03.pure x.1 x.2.1 x.2.2 h hw
def X03.e:GE:=⟨173,X0q,⟨_,Tryz.func173,rfl,rfl⟩,X03.ok⟩
def X5y:Con:={A:=(.pair T9q .str),shA:=[.one,.one],R:=(.pair (.int .i64) .bool),shR:=[(false,1),(false,1)],pre:=fun _ a=>(pSf a.1 a.2),f:=some fun _ a=>((fSf a.1 a.2),((),()))}
def X1X.F(a0:(List U1q))(a1:U5q):Prop:=((Xqy a0 a1 ())∧∀r1,(Eq r1 ((Xq2 a0 a1 ()),((),())))→(Eq ((r1.1.1,r1.1.2),((),())) ((fSf a0 a1),((),()))))
theorem X1X.pure(a0:(List U1q))(a1:U5q)(h:(pSf a0 a1))(hw:Wf X5y.A (a0,a1)):X1X.F a0 a1:=by
 unfold X1X.F
 simp only[Bs,B0,B1,Prod.mk.injEq,X01,fSf]
 exact h
theorem X1X.eq:EqS X5y Tryz.f102 [3,4] [X03.e,X15.e] [] noL (fun i x=>X1X.F x.1 x.2):=by intro i x;kernel_rfl
theorem X1X.ok:X0l Tryz.prog 102 X5y:=X2b X1X.eq Tryz.func102 rfl (by kernel_rfl) fun i x h hi hw=>X1X.pure x.1 x.2 h hw
def X1X.e:GE:=⟨102,X5y,⟨_,Tryz.func102,rfl,rfl⟩,X1X.ok⟩
def Xl3(l top:List Ser):Prop:=X9p l∧(∀x∈top,XaT x.2)∧tot l+tot top≤100000000
structure laI (l top:List Ser) (i:Int) (out:List Ser):Prop where
 h1:0≤i
 h2:i≤top.length
 h3:X2S out (top.drop i.toNat)=X2S l top
 h4:X9p out
 h5:tot out+tot (top.drop i.toNat)≤100000000
def laM(l top:List Ser)(i:Int)(out:List Ser):Nat:=(top.length - i).toNat
theorem XnF{l:List Ser}{i:Nat}(h:i<l.length):tot (l.drop i)=cS (l.getD i ([],[]))+tot (l.drop (i+1)):=by
 rw[X4Q ([],[]) h];exact X4T ..
theorem Xqd{l top:List Ser}{i:Int}{out:List Ser}(ht:∀x∈top,XaT x.2)(h:laI l top i out)(hi:i<top.length):laI l top (i+1) (Xdu out (top.getD i.toNat ([],[]))):=by
 obtain⟨h1,h2,h3,h4,h5⟩:=h
 have hs:=ht _ (X14 (d:=([],[])) (by omega:i.toNat<top.length))
 have a1:=XjS h4.1 (top.getD i.toNat ([],[]))
 have a2:=XnF (l:=top) (i:=i.toNat) (by omega)
 refine⟨by omega,by omega,?_,XlH h4 hs,?_⟩
 · rw[tn1 h1]
   rw[X4Q ([],[]) (by omega:i.toNat<top.length)]at h3
   exact h3
 · rw[tn1 h1];omega
theorem XqP{l top:List Ser}{i:Int}{out:List Ser}(h:laI l top i out)(hi:¬i<top.length):out=X2S l top:=by
 obtain⟨h1,h2,h3,h4,h5⟩:=h
 have e:i.toNat=top.length:=by omega
 rw[e,List.drop_length]at h3
 exact h3
def X9G:Con:={A:=(.pair T9q T9q),shA:=[.one,.one],ownA:=[(0,83)],R:=T9q,shR:=[(false,1)],fresh:=[(0,83)],pre:=fun _ a=>(Xl3 a.1 a.2),f:=some fun _ a=>((X2S a.1 a.2),((),()))}
def X3T.F(a0:(List U1q))(a1:(List U1q)):Prop:=(eS [(9,.val false [.lst T2q a1 none]),(10,.val false [.int .i64 (ln a1)])] [(9,.val false [.lst T2q a1 none]),(10,.val false [.int .i64 (ln a1)])]∧((laI a0 a1 0 a0)∧∀(y1:(Int×(List U1q))),(laI a0 a1 y1.1 y1.2)→(X00 (decide (y1.1<(ln a1))) (0≤y1.1∧(y1.1<(ln a1)∧((pSf y1.2 ((List.getD a1 (tN y1.1) ([],[])).1))∧∀r2,(Eq r2 ((fSf y1.2 ((List.getD a1 (tN y1.1) ([],[])).1)),((),())))→(X00 r2.1.2 (0≤r2.1.1∧(r2.1.1<(ln y1.2)∧((pMg ((List.getD y1.2 (tN r2.1.1) ([],[])).2) ((List.getD a1 (tN y1.1) ([],[])).2))∧∀r3,(Eq r3 ((X2i ((List.getD y1.2 (tN r2.1.1) ([],[])).2) ((List.getD a1 (tN y1.1) ([],[])).2)),((),())))→(0≤r2.1.1∧(r2.1.1<(ln y1.2)∧(eS [(9,.val false [.lst T2q a1 none]),(10,.val false [.int .i64 (ln a1)])] [(9,.val false [.lst T2q a1 none]),(10,.val false [.int .i64 (ln a1)])]∧(laI a0 a1 (wI (y1.1+(1:Int))) (List.set y1.2 (tN r2.1.1) ((List.getD y1.2 (tN r2.1.1) ([],[])).1,r3.1)))∧(laM a0 a1 (wI (y1.1+(1:Int))) (List.set y1.2 (tN r2.1.1) ((List.getD y1.2 (tN r2.1.1) ([],[])).1,r3.1)))<(laM a0 a1 y1.1 y1.2))))))) ((XdR ((List.getD a1 (tN y1.1) ([],[])).2))∧∀r4,(Eq r4 ((Xlp ((List.getD a1 (tN y1.1) ([],[])).2)),((),())))→((X2M y1.2 r2.1.1 [((List.getD a1 (tN y1.1) ([],[])).1,r4.1)])∧∀r5,(Eq r5 ((X1w y1.2 r2.1.1 [((List.getD a1 (tN y1.1) ([],[])).1,r4.1)]),((),())))→(eS [(9,.val false [.lst T2q a1 none]),(10,.val false [.int .i64 (ln a1)])] [(9,.val false [.lst T2q a1 none]),(10,.val false [.int .i64 (ln a1)])]∧(laI a0 a1 (wI (y1.1+(1:Int))) r5.1)∧(laM a0 a1 (wI (y1.1+(1:Int))) r5.1)<(laM a0 a1 y1.1 y1.2)))))))) (Eq (y1.2,((),())) ((X2S a0 a1),((),()))))))
def X3T.L(a0:(List U1q))(a1:(List U1q)):Nat→Option X0d:=fun p=>Go.Proofs.YtcfaphojdacmbaaGreatR.Bv.look p [(26,{kp:={hold:=[9,10],slots:=[0,11],boxes:=[],rows:=[{bx:=false,s:=0,i:=0,k:=1000003,e:=83,hot:=true}]},T:=(.pair (.int .i64) T9q),I:=fun st y=>laI a0 a1 y.1 y.2,μ:=fun st y=>laM a0 a1 y.1 y.2})]
theorem X3T.pure(a0:(List U1q))(a1:(List U1q))(h:(Xl3 a0 a1))(hw:Wf X9G.A (a0,a1)):X3T.F a0 a1:=by
 delta X3T.F ln tN wI eS
 simp only[Bs,B0,B1,Prod.mk.injEq,X01,pSf,Xqy,Xlp,XdR]
 obtain⟨hl,ht,hn⟩:=h
 refine⟨⟨by omega,by omega,rfl,hl,by simpa using hn⟩,?_⟩
 rintro⟨i,out⟩ hI
 simp only at hI ⊢
 have q1:=hI.h1
 have q2:=hI.h2
 have q5:=hI.h5
 refine⟨fun hi=>?_,fun hi=>XqP hI hi⟩
 have st:=Xqd ht hI hi
 have dn:∀o,laM a0 a1 (i+1) o<laM a0 a1 i out:=fun o=>by unfold laM;omega
 have k8:=X7k a1
 have k9:=Xak a0
 rw[w64 (x:=i+1) (by omega) (by omega)]
 have hm:=X14 (d:=(([]:List UInt8),([]:List Pt))) (by omega:i.toNat<a1.length)
 have hs:=ht _ hm
 have k1:=X7k out
 have k2:=Xak (a1.drop i.toNat)
 have k3:=Xbh hm
 have k4:=Xak a0
 have k5:=Xak out
 generalize a1.getD i.toNat ([],[])=s at*
 have hp:=XlJ (lt:=Op.bytesLess) (key:=Prod.fst) s.1 out
 refine⟨q1,hi,⟨hI.h4.1,by omega⟩,fun h6=>?_,fun h6=>?_⟩
 · have h7:X5M out s.1=true:=h6
   obtain⟨p1,p2⟩:=Xca hI.h4.1 h7
   have e:(fSf out s.1).1=((pos Op.bytesLess Prod.fst s.1 out:Nat):Int):=rfl
   rw[e,Int.toNat_natCast]
   have hm2:=X14 (d:=(([]:List UInt8),([]:List Pt))) p1
   have k6:=Xbh hm2
   have hR:=hI.h4.2 _ hm2
   refine⟨by omega,by omega,⟨hR,hs,by omega,by omega⟩,by omega,by omega,?_,dn _⟩
   have e2:Xdu out s=out.set (pos Op.bytesLess Prod.fst s.1 out) ((out.getD (pos Op.bytesLess Prod.fst s.1 out) ([],[])).1,X2i (out.getD (pos Op.bytesLess Prod.fst s.1 out) ([],[])).2 s.2):=by unfold Xdu;rw[if_pos h7]
   rw[←e2];exact st
 · have h7:X5M out s.1=false:=h6
   have e:(fSf out s.1).1=((pos Op.bytesLess Prod.fst s.1 out:Nat):Int):=rfl
   have e2:Xdu out s=X1w out (fSf out s.1).1 [(s.1,s.2)]:=by
    unfold Xdu
    rw[if_neg (by rw[h7];decide),e];rfl
   refine⟨by omega,⟨by omega,by omega,by simp,by simp;omega⟩,?_,dn _⟩
   rw[←e2];exact st
theorem X3T.eq:EqS X9G Tryz.f92 [25] [X1X.e,X32.e,X26.e,X0b.e] [] (fun i x=>X3T.L x.1 x.2) (fun i x=>X3T.F x.1 x.2):=by intro i x;kernel_rfl
theorem X3T.ok:X0l Tryz.prog 92 X9G:=X2b X3T.eq Tryz.func92 rfl (by kernel_rfl) fun i x h hi hw=>X3T.pure x.1 x.2 h hw
def X3T.e:GE:=⟨92,X9G,⟨_,Tryz.func92,rfl,rfl⟩,X3T.ok⟩
def XdY(l:List Ser)(f:Int):Prop:=tot l≤100000000
structure raI (l:List Ser) (f i:Int) (out:List Ser):Prop where
 h1:0≤i
 h2:i≤l.length
 h3:out=X0u (l.take i.toNat) f
 h4:(out.length:Int)≤i
def raM(l:List Ser)(f i:Int)(out:List Ser):Nat:=(l.length - i).toNat
theorem Xgd(a b:List Ser)(f:Int):X0u (a++b) f=X0u a f++X0u b f:=by unfold X0u;rw[List.map_append,List.filter_append]
theorem XoM{l:List Ser}{f i:Int}{out:List Ser}(h:raI l f i out)(hi:i<l.length)(hn:0<(X0Z (l.getD i.toNat ([],[])).2 f 1099511627777).length):raI l f (i+1) (out++[((l.getD i.toNat ([],[])).1,X0Z (l.getD i.toNat ([],[])).2 f 1099511627777)]):=by
 obtain⟨h1,h2,h3,h4⟩:=h
 refine⟨by omega,by omega,?_,by simp;omega⟩
 rw[tn1 h1,X1S ([],[]) (by omega),Xgd,h3]
 generalize l.getD i.toNat ([],[])=x at*
 have:(X0Z x.2 f 1099511627777).isEmpty=false:=by
  cases e:X0Z x.2 f 1099511627777 with
  | nil=>rw[e]at hn;simp at hn
  | cons=>rfl
 simp[X0u,this]
theorem XrF{l:List Ser}{f i:Int}{out:List Ser}(h:raI l f i out)(hi:i<l.length)(hn:¬0<(X0Z (l.getD i.toNat ([],[])).2 f 1099511627777).length):raI l f (i+1) out:=by
 obtain⟨h1,h2,h3,h4⟩:=h
 refine⟨by omega,by omega,?_,by omega⟩
 rw[tn1 h1,X1S ([],[]) (by omega),Xgd,h3]
 generalize l.getD i.toNat ([],[])=x at*
 have:(X0Z x.2 f 1099511627777)=[]:=List.length_eq_zero_iff.1 (by omega)
 simp[X0u,this]
theorem XoX{l:List Ser}{f i:Int}{out:List Ser}(h:raI l f i out)(hi:¬i<l.length):out=X0u l f:=by
 obtain⟨h1,h2,h3,h4⟩:=h
 rw[h3,show i.toNat=l.length by omega,List.take_length]
def X7u:Con:={A:=(.pair T9q (.int .i64)),shA:=[.one,.one],R:=T9q,shR:=[(false,1)],fresh:=[(0,83)],pre:=fun _ a=>(XdY a.1 a.2),f:=some fun _ a=>((X0u a.1 a.2),((),()))}
def X2A.F(a0:(List U1q))(a1:Int):Prop:=(eS [(1,.val false [.int .i64 a1]),(10,.val false [.lst T2q a0 none]),(11,.val false [.int .i64 (ln a0)])] [(1,.val false [.int .i64 a1]),(10,.val false [.lst T2q a0 none]),(11,.val false [.int .i64 (ln a0)])]∧((raI a0 a1 0 ([]:List U1q))∧∀(y1:(Int×(List U1q))),(raI a0 a1 y1.1 y1.2)→(X00 (decide (y1.1<(ln a0))) (0≤y1.1∧(y1.1<(ln a0)∧((X6l ((List.getD a0 (tN y1.1) ([],[])).2) a1 1099511627777)∧∀r2,(Eq r2 ((X0Z ((List.getD a0 (tN y1.1) ([],[])).2) a1 1099511627777),((),())))→(X00 (decide ((ln r2.1)>(0:Int))) (List.length y1.2+List.length ([((List.getD a0 (tN y1.1) ([],[])).1,r2.1)]:List U1q)≤9223372036854775807∧((List.length y1.2+List.length ([((List.getD a0 (tN y1.1) ([],[])).1,r2.1)]:List U1q))*40≤140737488355328∧(eS [(1,.val false [.int .i64 a1]),(10,.val false [.lst T2q a0 none]),(11,.val false [.int .i64 (ln a0)])] [(1,.val false [.int .i64 a1]),(10,.val false [.lst T2q a0 none]),(11,.val false [.int .i64 (ln a0)])]∧(raI a0 a1 (wI (y1.1+(1:Int))) (y1.2++[((List.getD a0 (tN y1.1) ([],[])).1,r2.1)]))∧(raM a0 a1 (wI (y1.1+(1:Int))) (y1.2++[((List.getD a0 (tN y1.1) ([],[])).1,r2.1)]))<(raM a0 a1 y1.1 y1.2)))) (eS [(1,.val false [.int .i64 a1]),(10,.val false [.lst T2q a0 none]),(11,.val false [.int .i64 (ln a0)])] [(1,.val false [.int .i64 a1]),(10,.val false [.lst T2q a0 none]),(11,.val false [.int .i64 (ln a0)])]∧(raI a0 a1 (wI (y1.1+(1:Int))) y1.2)∧(raM a0 a1 (wI (y1.1+(1:Int))) y1.2)<(raM a0 a1 y1.1 y1.2)))))) (Eq (y1.2,((),())) ((X0u a0 a1),((),()))))))
def X2A.L(a0:(List U1q))(a1:Int):Nat→Option X0d:=fun p=>Go.Proofs.YtcfaphojdacmbaaGreatR.Bv.look p [(58,{kp:={hold:=[1,10,11],slots:=[5,12],boxes:=[],rows:=[{bx:=false,s:=5,i:=0,k:=1000643,e:=83,hot:=true}]},T:=(.pair (.int .i64) T9q),I:=fun st y=>raI a0 a1 y.1 y.2,μ:=fun st y=>raM a0 a1 y.1 y.2})]
theorem X2A.pure(a0:(List U1q))(a1:Int)(h:(XdY a0 a1))(hw:Wf X7u.A (a0,a1)):X2A.F a0 a1:=by
 delta X2A.F ln tN wI eS
 simp only[Bs,B0,B1,Prod.mk.injEq,X01,X6l]
 have hn:tot a0≤100000000:=h
 have k1:=X7k a0
 refine⟨⟨by omega,by omega,by simp[X0u],by simp⟩,?_⟩
 rintro⟨i,out⟩ hI
 simp only at hI ⊢
 have q1:=hI.h1
 have q2:=hI.h2
 have q4:=hI.h4
 refine⟨fun hi=>?_,fun hi=>XoX hI hi⟩
 have dn:∀o,raM a0 a1 (i+1) o<raM a0 a1 i out:=fun o=>by unfold raM;omega
 rw[w64 (x:=i+1) (by omega) (by omega)]
 have k2:=Xbh (X14 (d:=(([]:List UInt8),([]:List Pt))) (by omega:i.toNat<a0.length))
 refine⟨q1,hi,by omega,fun h6=>⟨by omega,by omega,XoM hI hi (by omega),dn _⟩,fun h6=>⟨XrF hI hi (by omega),dn _⟩⟩
theorem X2A.eq:EqS X7u Tryz.f100 [25] [X3l.e] [] (fun i x=>X2A.L x.1 x.2) (fun i x=>X2A.F x.1 x.2):=by intro i x;kernel_rfl
theorem X2A.ok:X0l Tryz.prog 100 X7u:=X2b X2A.eq Tryz.func100 rfl (by kernel_rfl) fun i x h hi hw=>X2A.pure x.1 x.2 h hw
def X2A.e:GE:=⟨100,X7u,⟨_,Tryz.func100,rfl,rfl⟩,X2A.ok⟩
end Go.Proofs.YtcfaphojdacmbaaGreatR.B
