/- Points merged. -/
import Derived.Test.YtcfaphojdacmbaaGreatRCMrgA
import Derived.Test.YtcfaphojdacmbaaGreatRCInsP
set_option maxRecDepth 100000
set_option linter.unusedVariables false
set_option linter.unusedSimpArgs false
namespace Go.Proofs.YtcfaphojdacmbaaGreatR.B
open Go Go.Proofs.YtcfaphojdacmbaaGreatR.Bv
def pMg(a b:List Pt):Prop:=XaT a∧XaT b∧a.length≤1000000000∧b.length≤1000000000
structure mgI (a b:List Pt) (i:Int) (out:List Pt):Prop where
 h1:0≤i
 h2:i≤a.length
 h3:(a.drop i.toNat).foldl Xjk out=a.foldl Xjk b
 h4:XaT out
 h5:(out.length:Int)≤b.length+i
def mgM(a b:List Pt)(i:Int)(out:List Pt):Nat:=(a.length - i).toNat
theorem XlO{a b:List Pt}{i:Int}{out out':List Pt}(ha:XaT a)(h:mgI a b i out)(hi:i<a.length)(ho:out'=Xjk out (a.getD i.toNat (0,0))):mgI a b (i+1) out':=by
 obtain⟨h1,h2,h3,h4,h5⟩:=h
 have hm:=XnR ha (i:=i.toNat) (by omega)
 have hl:=Xja out (a.getD i.toNat (0,0))
 refine⟨by omega,by omega,?_,⟨by rw[ho];exact XjR h4.1 _,fun x hx=>?_⟩,by rw[ho];omega⟩
 · rw[tn1 h1,ho]
   rw[X4Q (0,0) (by omega:i.toNat<a.length)]at h3
   exact h3
 · rw[ho]at hx
   rcases Xds.1 hx with hx | ⟨rfl,_⟩
   · exact h4.2 x hx
   · exact hm
theorem Xrv{a b:List Pt}{i:Int}{out:List Pt}(ha:XaT a)(hb:XaT b)(h:mgI a b i out)(hi:¬i<a.length):out=X2i a b:=by
 obtain⟨h1,h2,h3,h4,h5⟩:=h
 have e:i.toNat=a.length:=by omega
 rw[e,List.drop_length]at h3
 rw[←Xn0 ha.1 hb.1,←h3];rfl
def X7B:Con:={A:=(.pair X9z X9z),shA:=[.one,.one],R:=X9z,shR:=[(false,1)],fresh:=[(0,85)],pre:=fun _ a=>(pMg a.1 a.2),f:=some fun _ a=>((X2i a.1 a.2),((),()))}
def X32.F(a0:U6q)(a1:U6q):Prop:=((XdR a1)∧∀r1,(Eq r1 ((Xlp a1),((),())))→(eS [(12,.val false [.lst T0q a0 none]),(13,.val false [.int .i64 (ln a0)])] [(12,.val false [.lst T0q a0 none]),(13,.val false [.int .i64 (ln a0)])]∧((mgI a0 a1 0 r1.1)∧∀(y2:(Int×U6q)),(mgI a0 a1 y2.1 y2.2)→(X00 (decide (y2.1<(ln a0))) (0≤y2.1∧(y2.1<(ln a0)∧((pBs y2.2 ((List.getD a0 (tN y2.1) (0,0)).1) ())∧∀r3,(Eq r3 ((fBs y2.2 ((List.getD a0 (tN y2.1) (0,0)).1) ()),((),())))→(X00 (!r3.1.2) ((X34 y2.2 r3.1.1 [((List.getD a0 (tN y2.1) (0,0)).1,(List.getD a0 (tN y2.1) (0,0)).2)])∧∀r4,(Eq r4 ((X1O y2.2 r3.1.1 [((List.getD a0 (tN y2.1) (0,0)).1,(List.getD a0 (tN y2.1) (0,0)).2)]),((),())))→(eS [(12,.val false [.lst T0q a0 none]),(13,.val false [.int .i64 (ln a0)])] [(12,.val false [.lst T0q a0 none]),(13,.val false [.int .i64 (ln a0)])]∧(mgI a0 a1 (wI (y2.1+(1:Int))) r4.1)∧(mgM a0 a1 (wI (y2.1+(1:Int))) r4.1)<(mgM a0 a1 y2.1 y2.2))) (eS [(12,.val false [.lst T0q a0 none]),(13,.val false [.int .i64 (ln a0)])] [(12,.val false [.lst T0q a0 none]),(13,.val false [.int .i64 (ln a0)])]∧(mgI a0 a1 (wI (y2.1+(1:Int))) y2.2)∧(mgM a0 a1 (wI (y2.1+(1:Int))) y2.2)<(mgM a0 a1 y2.1 y2.2)))))) (Eq (y2.2,((),())) ((X2i a0 a1),((),())))))))
def X32.L(a0:U6q)(a1:U6q):Nat→Option X0d:=fun p=>Go.Proofs.YtcfaphojdacmbaaGreatR.Bv.look p [(58,{kp:={hold:=[12,13],slots:=[5,14],boxes:=[],rows:=[{bx:=false,s:=5,i:=0,k:=1000643,e:=85,hot:=true}]},T:=Xlq,I:=fun st y=>mgI a0 a1 y.1 y.2,μ:=fun st y=>mgM a0 a1 y.1 y.2})]
theorem X32.pure(a0:U6q)(a1:U6q)(h:(pMg a0 a1))(hw:Wf X7B.A (a0,a1)):X32.F a0 a1:=by
 delta X32.F ln tN wI eS
 simp only[Bs,B0,B1,Prod.mk.injEq,X01,Xlp,XdR,pBs]
 obtain⟨ha,hb,hal,hbl⟩:=h
 refine⟨by omega,⟨by omega,by omega,rfl,hb,by omega⟩,?_⟩
 rintro⟨i,out⟩ hI
 simp only at hI ⊢
 have q1:=hI.h1
 have q2:=hI.h2
 have q5:=hI.h5
 refine⟨fun hi=>?_,fun hi=>Xrv ha hb hI hi⟩
 have hm:=XnR ha (i:=i.toNat) (by omega)
 have hp:=XlJ (lt:=ltI) (key:=Prod.fst) (a0.getD i.toNat (0,0)).1 out
 have dn:∀o,mgM a0 a1 (i+1) o<mgM a0 a1 i out:=fun o=>by unfold mgM;omega
 rw[w64 (x:=i+1) (by omega) (by omega)]
 refine⟨q1,hi,⟨hI.h4,hm.1,hm.2,by omega⟩,fun h6=>⟨⟨by simp only[fBs];omega,by simp only[fBs];omega,by simp,by simp;omega⟩,XlO ha hI hi ?_,dn _⟩,fun h6=>⟨XlO ha hI hi ?_,dn _⟩⟩
 · have h7:Xn2 out (a0.getD i.toNat (0,0)).1=false:=h6
   unfold Xjk
   rw[if_neg (by rw[h7];decide)]
   simp only[fBs,X1O,Int.toNat_natCast,Prod.eta]
   rfl
 · have h7:Xn2 out (a0.getD i.toNat (0,0)).1=true:=h6
   unfold Xjk
   rw[if_pos h7]
theorem X32.eq:EqS X7B Tryz.f169 [64] [X0b.e,X05.e,X2d.e,X2f.e] [] (fun i x=>X32.L x.1 x.2) (fun i x=>X32.F x.1 x.2):=by intro i x;kernel_rfl
theorem X32.ok:X0l Tryz.prog 169 X7B:=X2b X32.eq Tryz.func169 rfl (by kernel_rfl) fun i x h hi hw=>X32.pure x.1 x.2 h hw
def X32.e:GE:=⟨169,X7B,⟨_,Tryz.func169,rfl,rfl⟩,X32.ok⟩
def XgL(l:List Pt)(p:Pt):List Pt:=XgY p l
def Xon(l:List Pt)(p:Pt):Prop:=l.length≤1000000000000
def X9V(p:Pt)(put:Bool)(l:List Pt):List Pt:=if put then l.filter (fun y=>!(y.1==p.1)) else XgY p l
structure puI (l:List Pt) (p:Pt) (put:Bool) (i:Int) (out:List Pt):Prop where
 h1:0≤i
 h2:i≤l.length
 h3:out++X9V p put (l.drop i.toNat)=XgY p l
 h4:(out.length:Int)≤i+1
 h5:put=false→(out.length:Int)≤i
def puM(l:List Pt)(p:Pt)(put:Bool)(i:Int)(out:List Pt):Nat:=(l.length - i).toNat
def puB(l:List Pt)(p:Pt)(put:Bool)(i t v:Int)(out:List Pt):Prop:=((t,v):Pt)=p∧puI l p put i out
def puN(l:List Pt)(p:Pt)(put:Bool)(i t v:Int)(out:List Pt):Nat:=puM l p put i out
theorem XpU{l:List Pt}{p:Pt}{put put':Bool}{i:Int}{out o':List Pt}(h:puI l p put i out)(hi:i<l.length)(hl:(o'.length:Int)≤i+2∧(put'=false→(o'.length:Int)≤i+1))(he:∀r,o'++X9V p put' r=out++X9V p put (l.getD i.toNat (0,0)::r)):puI l p put' (i+1) o':=by
 obtain⟨h1,h2,h3,h4,h5⟩:=h
 refine⟨by omega,by omega,?_,by omega,hl.2⟩
 rw[tn1 h1,he,←X4Q (0,0) (by omega)];exact h3
theorem pu_no{p x:Pt}{r:List Pt}(h:¬p.1≤x.1):X9V p false (x::r)=x::X9V p false r:=by simp[X9V,XgY,h]
theorem Xp5{p x:Pt}{r:List Pt}(h:p.1≤x.1):X9V p false (x::r)=p::X9V p true (x::r):=by simp[X9V,XgY,h]
theorem Xr4{p x:Pt}{r:List Pt}(h:x.1=p.1):X9V p true (x::r)=X9V p true r:=by simp[X9V,h]
theorem Xr2{p x:Pt}{r:List Pt}(h:¬x.1=p.1):X9V p true (x::r)=x::X9V p true r:=by simp[X9V,h]
theorem Xrf{l:List Pt}{p:Pt}{put:Bool}{i:Int}{out:List Pt}(h:puI l p put i out)(hi:¬i<l.length):(put=true→out=XgL l p)∧(put=false→out++[p]=XgL l p):=by
 obtain⟨h1,h2,h3,h4,h5⟩:=h
 have e:i.toNat=l.length:=by omega
 rw[e,List.drop_length]at h3
 refine⟨fun hp=>?_,fun hp=>?_⟩
 · rw[hp]at h3;simpa [X9V,XgL] using h3
 · rw[hp]at h3;simpa [X9V,XgY,XgL] using h3
def Xen(a b:List Pt):List Pt:=X2i a b
def Xfc(a b:List Pt):Prop:=a.length≤400000000000∧b.length≤400000000000
structure m8I (a b:List Pt) (i:Int) (out:List Pt):Prop where
 h1:0≤i
 h2:i≤b.length
 h3:X2i out (b.drop i.toNat)=X2i a b
 h4:(out.length:Int)≤a.length+i
def m8M(a b:List Pt)(i:Int)(out:List Pt):Nat:=(b.length - i).toNat
theorem Xq4{a b:List Pt}{i:Int}{out:List Pt}(h:m8I a b i out)(hi:i<b.length):m8I a b (i+1) (XgY (b.getD i.toNat (0,0)) out):=by
 obtain⟨h1,h2,h3,h4⟩:=h
 have:=Xb7 (b.getD i.toNat (0,0)) out
 refine⟨by omega,by omega,?_,by omega⟩
 rw[tn1 h1]
 rw[X4Q (0,0) (by omega:i.toNat<b.length)]at h3
 exact h3
theorem XrX{a b:List Pt}{i:Int}{out:List Pt}(h:m8I a b i out)(hi:¬i<b.length):out=Xen a b:=by
 obtain⟨h1,h2,h3,h4⟩:=h
 have e:i.toNat=b.length:=by omega
 rw[e,List.drop_length]at h3
 exact h3
def X7l(a b:List Pt):List Pt×Bool:=if X0s a=true∧X0s b=true∧(X2i a b).length≤60 then(X2i a b,true) else([],false)
def X8S:Con:={A:=(.pair X9z T0q),shA:=[.one,.agg 2],R:=X9z,shR:=[(false,1)],fresh:=[(0,85)],pre:=fun _ a=>(Xon a.1 a.2),f:=some fun _ a=>((XgL a.1 a.2),((),()))}
def X3x.F(a0:U6q)(a1:(Int×Int)):Prop:=(eS [(0,.val false [.lst T0q a0 none]),(3,.box 4 0)] [(0,.val false [.lst T0q a0 none]),(3,.box 4 0)]∧((puB a0 a1 false 0 a1.1 a1.2 ([]:List (Int×Int)))∧∀(y1:(Bool×(Int×(Int×(Int×U6q))))),(puB a0 a1 y1.1 y1.2.1 y1.2.2.1 y1.2.2.2.1 y1.2.2.2.2)→(X00 (decide (y1.2.1<(ln a0))) (X00 (!y1.1) (0≤y1.2.1∧(y1.2.1<(ln a0)∧(X00 (decide (y1.2.2.1≤((List.getD a0 (tN y1.2.1) (0,0)).1))) (List.length y1.2.2.2.2+List.length [(y1.2.2.1,y1.2.2.2.1)]≤9223372036854775807∧((List.length y1.2.2.2.2+List.length [(y1.2.2.1,y1.2.2.2.1)])*16≤140737488355328∧(0≤y1.2.1∧(y1.2.1<(ln a0)∧(X00 (((List.getD a0 (tN y1.2.1) (0,0)).1)!=y1.2.2.1) (0≤y1.2.1∧(y1.2.1<(ln a0)∧(List.length (y1.2.2.2.2++[(y1.2.2.1,y1.2.2.2.1)])+List.length [((List.getD a0 (tN y1.2.1) (0,0)).1,(List.getD a0 (tN y1.2.1) (0,0)).2)]≤9223372036854775807∧((List.length (y1.2.2.2.2++[(y1.2.2.1,y1.2.2.2.1)])+List.length [((List.getD a0 (tN y1.2.1) (0,0)).1,(List.getD a0 (tN y1.2.1) (0,0)).2)])*16≤140737488355328∧(eS [(0,.val false [.lst T0q a0 none]),(3,.box 4 0)] [(0,.val false [.lst T0q a0 none]),(3,.box 4 0)]∧(puB a0 a1 true (wI (y1.2.1+(1:Int))) y1.2.2.1 y1.2.2.2.1 ((y1.2.2.2.2++[(y1.2.2.1,y1.2.2.2.1)])++[((List.getD a0 (tN y1.2.1) (0,0)).1,(List.getD a0 (tN y1.2.1) (0,0)).2)]))∧(puN a0 a1 true (wI (y1.2.1+(1:Int))) y1.2.2.1 y1.2.2.2.1 ((y1.2.2.2.2++[(y1.2.2.1,y1.2.2.2.1)])++[((List.getD a0 (tN y1.2.1) (0,0)).1,(List.getD a0 (tN y1.2.1) (0,0)).2)]))<(puN a0 a1 y1.1 y1.2.1 y1.2.2.1 y1.2.2.2.1 y1.2.2.2.2)))))) (eS [(0,.val false [.lst T0q a0 none]),(3,.box 4 0)] [(0,.val false [.lst T0q a0 none]),(3,.box 4 0)]∧(puB a0 a1 true (wI (y1.2.1+(1:Int))) y1.2.2.1 y1.2.2.2.1 (y1.2.2.2.2++[(y1.2.2.1,y1.2.2.2.1)]))∧(puN a0 a1 true (wI (y1.2.1+(1:Int))) y1.2.2.1 y1.2.2.2.1 (y1.2.2.2.2++[(y1.2.2.1,y1.2.2.2.1)]))<(puN a0 a1 y1.1 y1.2.1 y1.2.2.1 y1.2.2.2.1 y1.2.2.2.2))))))) (0≤y1.2.1∧(y1.2.1<(ln a0)∧(X00 (((List.getD a0 (tN y1.2.1) (0,0)).1)!=y1.2.2.1) (0≤y1.2.1∧(y1.2.1<(ln a0)∧(List.length y1.2.2.2.2+List.length [((List.getD a0 (tN y1.2.1) (0,0)).1,(List.getD a0 (tN y1.2.1) (0,0)).2)]≤9223372036854775807∧((List.length y1.2.2.2.2+List.length [((List.getD a0 (tN y1.2.1) (0,0)).1,(List.getD a0 (tN y1.2.1) (0,0)).2)])*16≤140737488355328∧(eS [(0,.val false [.lst T0q a0 none]),(3,.box 4 0)] [(0,.val false [.lst T0q a0 none]),(3,.box 4 0)]∧(puB a0 a1 y1.1 (wI (y1.2.1+(1:Int))) y1.2.2.1 y1.2.2.2.1 (y1.2.2.2.2++[((List.getD a0 (tN y1.2.1) (0,0)).1,(List.getD a0 (tN y1.2.1) (0,0)).2)]))∧(puN a0 a1 y1.1 (wI (y1.2.1+(1:Int))) y1.2.2.1 y1.2.2.2.1 (y1.2.2.2.2++[((List.getD a0 (tN y1.2.1) (0,0)).1,(List.getD a0 (tN y1.2.1) (0,0)).2)]))<(puN a0 a1 y1.1 y1.2.1 y1.2.2.1 y1.2.2.2.1 y1.2.2.2.2)))))) (eS [(0,.val false [.lst T0q a0 none]),(3,.box 4 0)] [(0,.val false [.lst T0q a0 none]),(3,.box 4 0)]∧(puB a0 a1 y1.1 (wI (y1.2.1+(1:Int))) y1.2.2.1 y1.2.2.2.1 y1.2.2.2.2)∧(puN a0 a1 y1.1 (wI (y1.2.1+(1:Int))) y1.2.2.1 y1.2.2.2.1 y1.2.2.2.2)<(puN a0 a1 y1.1 y1.2.1 y1.2.2.1 y1.2.2.2.1 y1.2.2.2.2)))))))) (0≤y1.2.1∧(y1.2.1<(ln a0)∧(X00 (((List.getD a0 (tN y1.2.1) (0,0)).1)!=y1.2.2.1) (0≤y1.2.1∧(y1.2.1<(ln a0)∧(List.length y1.2.2.2.2+List.length [((List.getD a0 (tN y1.2.1) (0,0)).1,(List.getD a0 (tN y1.2.1) (0,0)).2)]≤9223372036854775807∧((List.length y1.2.2.2.2+List.length [((List.getD a0 (tN y1.2.1) (0,0)).1,(List.getD a0 (tN y1.2.1) (0,0)).2)])*16≤140737488355328∧(eS [(0,.val false [.lst T0q a0 none]),(3,.box 4 0)] [(0,.val false [.lst T0q a0 none]),(3,.box 4 0)]∧(puB a0 a1 y1.1 (wI (y1.2.1+(1:Int))) y1.2.2.1 y1.2.2.2.1 (y1.2.2.2.2++[((List.getD a0 (tN y1.2.1) (0,0)).1,(List.getD a0 (tN y1.2.1) (0,0)).2)]))∧(puN a0 a1 y1.1 (wI (y1.2.1+(1:Int))) y1.2.2.1 y1.2.2.2.1 (y1.2.2.2.2++[((List.getD a0 (tN y1.2.1) (0,0)).1,(List.getD a0 (tN y1.2.1) (0,0)).2)]))<(puN a0 a1 y1.1 y1.2.1 y1.2.2.1 y1.2.2.2.1 y1.2.2.2.2)))))) (eS [(0,.val false [.lst T0q a0 none]),(3,.box 4 0)] [(0,.val false [.lst T0q a0 none]),(3,.box 4 0)]∧(puB a0 a1 y1.1 (wI (y1.2.1+(1:Int))) y1.2.2.1 y1.2.2.2.1 y1.2.2.2.2)∧(puN a0 a1 y1.1 (wI (y1.2.1+(1:Int))) y1.2.2.1 y1.2.2.2.1 y1.2.2.2.2)<(puN a0 a1 y1.1 y1.2.1 y1.2.2.1 y1.2.2.2.1 y1.2.2.2.2)))))) (X00 (!y1.1) (List.length y1.2.2.2.2+List.length [(y1.2.2.1,y1.2.2.2.1)]≤9223372036854775807∧((List.length y1.2.2.2.2+List.length [(y1.2.2.1,y1.2.2.2.1)])*16≤140737488355328∧(Eq ((y1.2.2.2.2++[(y1.2.2.1,y1.2.2.2.1)]),((),())) ((XgL a0 a1),((),()))))) (Eq (y1.2.2.2.2,((),())) ((XgL a0 a1),((),())))))))
def X3x.L(a0:U6q)(a1:(Int×Int)):Nat→Option X0d:=fun p=>Go.Proofs.YtcfaphojdacmbaaGreatR.Bv.look p [(122,{kp:={hold:=[0,3],slots:=[5,6,7],boxes:=[4],rows:=[{bx:=false,s:=5,i:=0,k:=1000643,e:=85,hot:=true}]},T:=(.pair .bool (.pair (.int .i64) (.pair (.int .i64) Xlq))),I:=fun st y=>puB a0 a1 y.1 y.2.1 y.2.2.1 y.2.2.2.1 y.2.2.2.2,μ:=fun st y=>puN a0 a1 y.1 y.2.1 y.2.2.1 y.2.2.2.1 y.2.2.2.2})]
theorem X3x.pure(a0:U6q)(a1:(Int×Int))(h:(Xon a0 a1))(hw:Wf X8S.A (a0,a1)):X3x.F a0 a1:=by
 delta X3x.F ln tN wI eS
 simp only[Bs,B0,B1,Prod.mk.injEq,X01]
 have hl:a0.length≤1000000000000:=h
 refine⟨⟨rfl,⟨by omega,by omega,by simp[X9V],by simp,by simp⟩⟩,?_⟩
 rintro⟨put,i,t,v,out⟩ ⟨hp,hI⟩
 simp only at hp hI ⊢
 subst hp
 have q1:=hI.h1
 have q2:=hI.h2
 have q4:=hI.h4
 have q5:=hI.h5
 have hen:=Xrf hI
 have st:∀{put' o'},i<(a0.length:Int)→_→_→puB a0 (t,v) put' (i+1) t v o':=fun h h2 h3=>⟨rfl,XpU hI h h2 h3⟩
 have dn:∀o p,i<(a0.length:Int)→puN a0 (t,v) p (i+1) t v o<puN a0 (t,v) put i t v out:=fun o p h=>by unfold puN puM;omega
 generalize hx:a0.getD i.toNat (0,0)=x at st ⊢
 repeat' (with_reducible (first | (refine And.intro ?_ ?_) | intro _))
 all_goals (try simp (disch:=omega) only[w64,List.length_append,List.length_cons,List.length_nil]at*)
 all_goals (first
  | omega
  | exact dn _ _ ‹_›
  | (refine st ‹_› (by(try simp only[List.length_append,List.length_cons,List.length_nil]);(try have:=q5 ‹_›);(first | omega | (refine ⟨by omega,fun hh=>?_⟩;first | omega | (have:=q5 hh;omega) | (exfalso;simp_all;done)))) fun r=>?_;(try rw[‹put=true›]);(try rw[‹put=false›]);(try simp only[List.append_assoc,List.cons_append,List.nil_append,Prod.eta]);first | rw[Xp5 (p:=(t,v)) ‹t≤x.1›,Xr4 (p:=(t,v)) ‹x.1=t›] | rw[Xp5 (p:=(t,v)) ‹t≤x.1›,Xr2 (p:=(t,v)) ‹¬x.1=t›] | rw[pu_no (p:=(t,v)) ‹¬t≤x.1›] | rw[Xr4 (p:=(t,v)) ‹x.1=t›] | rw[Xr2 (p:=(t,v)) ‹¬x.1=t›])
  | exact(hen ‹_›).1 ‹_›
  | exact(hen ‹_›).2 ‹_›
  | skip)
theorem X3x.eq:EqS X8S Tryz.f172 [64] [] [] (fun i x=>X3x.L x.1 x.2) (fun i x=>X3x.F x.1 x.2):=by intro i x;kernel_rfl
theorem X3x.ok:X0l Tryz.prog 172 X8S:=X2b X3x.eq Tryz.func172 rfl (by kernel_rfl) fun i x h hi hw=>X3x.pure x.1 x.2 h hw
def X3x.e:GE:=⟨172,X8S,⟨_,Tryz.func172,rfl,rfl⟩,X3x.ok⟩
def X6X:Con:={A:=(.pair X9z X9z),shA:=[.one,.one],R:=X9z,shR:=[(false,1)],fresh:=[(0,85)],pre:=fun _ a=>(Xfc a.1 a.2),f:=some fun _ a=>((Xen a.1 a.2),((),()))}
def X1T.F(a0:U6q)(a1:U6q):Prop:=(List.length ([]:List (Int×Int))+List.length a0≤9223372036854775807∧((List.length ([]:List (Int×Int))+List.length a0)*16≤140737488355328∧(eS [(1,.val false [.lst T0q a1 none])] [(1,.val false [.lst T0q a1 none])]∧((m8I a0 a1 0 (([]:List (Int×Int))++a0))∧∀(y1:(Int×U6q)),(m8I a0 a1 y1.1 y1.2)→(X00 (decide (y1.1<(ln a1))) (0≤y1.1∧(y1.1<(ln a1)∧((Xon y1.2 ((List.getD a1 (tN y1.1) (0,0)).1,(List.getD a1 (tN y1.1) (0,0)).2))∧∀r2,(Eq r2 ((XgL y1.2 ((List.getD a1 (tN y1.1) (0,0)).1,(List.getD a1 (tN y1.1) (0,0)).2)),((),())))→(eS [(1,.val false [.lst T0q a1 none])] [(1,.val false [.lst T0q a1 none])]∧(m8I a0 a1 (wI (y1.1+(1:Int))) r2.1)∧(m8M a0 a1 (wI (y1.1+(1:Int))) r2.1)<(m8M a0 a1 y1.1 y1.2))))) (Eq (y1.2,((),())) ((Xen a0 a1),((),()))))))))
def X1T.L(a0:U6q)(a1:U6q):Nat→Option X0d:=fun p=>Go.Proofs.YtcfaphojdacmbaaGreatR.Bv.look p [(58,{kp:={hold:=[1],slots:=[5,6],boxes:=[],rows:=[{bx:=false,s:=5,i:=0,k:=1000643,e:=85,hot:=true}]},T:=Xlq,I:=fun st y=>m8I a0 a1 y.1 y.2,μ:=fun st y=>m8M a0 a1 y.1 y.2})]
theorem X1T.pure(a0:U6q)(a1:U6q)(h:(Xfc a0 a1))(hw:Wf X6X.A (a0,a1)):X1T.F a0 a1:=by
 delta X1T.F ln tN wI eS
 simp only[Bs,B0,B1,Prod.mk.injEq,X01,XgL,Xon]
 obtain⟨hal,hbl⟩:=h
 refine⟨by omega,by omega,⟨by omega,by omega,rfl,by simp⟩,?_⟩
 rintro⟨i,out⟩ hI
 simp only at hI ⊢
 have q1:=hI.h1
 have q2:=hI.h2
 have q4:=hI.h4
 rw[w64 (x:=i+1) (by omega) (by omega)]
 exact⟨fun hi=>⟨q1,hi,by omega,Xq4 hI hi,by unfold m8M;omega⟩,fun hi=>XrX hI hi⟩
theorem X1T.eq:EqS X6X Tryz.f96 [64] [X3x.e] [] (fun i x=>X1T.L x.1 x.2) (fun i x=>X1T.F x.1 x.2):=by intro i x;kernel_rfl
theorem X1T.ok:X0l Tryz.prog 96 X6X:=X2b X1T.eq Tryz.func96 rfl (by kernel_rfl) fun i x h hi hw=>X1T.pure x.1 x.2 h hw
def X1T.e:GE:=⟨96,X6X,⟨_,Tryz.func96,rfl,rfl⟩,X1T.ok⟩
def X8R:Con:={A:=(.pair X9z X9z),shA:=[.one,.one],R:=(.pair X9z .bool),shR:=[(false,1),(false,1)],pre:=fun _ _=>True,f:=some fun _ a=>((X7l a.1 a.2),((),()))}
def X47.F(a0:U6q)(a1:U6q):Prop:=(True∧∀r1,(Eq r1 ((X0s a0),((),())))→(X00 (!r1.1) (Eq ((([]:U6q),false),((),())) ((X7l a0 a1),((),()))) (True∧∀r2,(Eq r2 ((X0s a1),((),())))→(X00 (!r2.1) (Eq ((([]:U6q),false),((),())) ((X7l a0 a1),((),()))) ((Xfc a0 a1)∧∀r3,(Eq r3 ((Xen a0 a1),((),())))→(X00 (decide ((ln r3.1)>(60:Int))) (Eq ((([]:U6q),false),((),())) ((X7l a0 a1),((),()))) (Eq ((r3.1,true),((),())) ((X7l a0 a1),((),())))))))))
theorem X47.pure(a0:U6q)(a1:U6q)(h:True)(hw:Wf X8R.A (a0,a1)):X47.F a0 a1:=by
 delta X47.F ln
 have hok:=fun(h:X0s a0=true)=>X6p h
 have hok1:=fun(h:X0s a1=true)=>X6p h
 have hl:=X7w a1 a0
 simp only[Bs,B0,B1,Prod.mk.injEq,X01,Xfc,Xen]
 repeat' (with_reducible (first | (refine And.intro ?_ ?_) | intro _))
 all_goals (try simp (disch:=omega) only[w64,wu8,tn0,tn1,tm1,tm2,List.length_append,List.length_cons,List.length_nil]at*)
 all_goals (try simp (disch:=omega) only[w64,wu8,tn0,tn1,tm1,tm2,List.length_append,List.length_cons,List.length_nil]at*)
 all_goals (try omega)
 all_goals (try grind[X7l])
 all_goals (try (have k0:=hok (by assumption);have k1:=hok1 (by assumption)))
 all_goals (first | omega | exact k0.1 | exact k1.1 | grind[X7l])
theorem X47.eq:EqS X8R Tryz.f30 [64,4] [X0O.e,X1T.e] [] noL (fun i x=>X47.F x.1 x.2):=by intro i x;kernel_rfl
theorem X47.ok:X0l Tryz.prog 30 X8R:=X2b X47.eq Tryz.func30 rfl (by kernel_rfl) fun i x h hi hw=>X47.pure x.1 x.2 h hw
def X47.e:GE:=⟨30,X8R,⟨_,Tryz.func30,rfl,rfl⟩,X47.ok⟩
end Go.Proofs.YtcfaphojdacmbaaGreatR.B
