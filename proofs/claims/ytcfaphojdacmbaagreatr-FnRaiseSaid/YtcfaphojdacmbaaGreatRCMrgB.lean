/- Points merged. -/
import Derived.Test.YtcfaphojdacmbaaGreatRCMrgA
import Derived.Test.YtcfaphojdacmbaaGreatRCInsP
set_option maxRecDepth 100000
set_option linter.unusedVariables false
set_option linter.unusedSimpArgs false
namespace Go.Proofs.YtcfaphojdacmbaaGreatR.B
open Go Go.Proofs.YtcfaphojdacmbaaGreatR.Bv
def pMg(a b:List Pt):Prop:=Xas a∧Xas b∧a.length≤1000000000∧b.length≤1000000000
structure mgI (a b:List Pt) (i:Int) (out:List Pt):Prop where
 h1:0≤i
 h2:i≤a.length
 h3:(a.drop i.toNat).foldl Xit out=a.foldl Xit b
 h4:Xas out
 h5:(out.length:Int)≤b.length+i
def mgM(a b:List Pt)(i:Int)(out:List Pt):Nat:=(a.length - i).toNat
theorem Xlh{a b:List Pt}{i:Int}{out out':List Pt}(ha:Xas a)(h:mgI a b i out)(hi:i<a.length)(ho:out'=Xit out (a.getD i.toNat (0,0))):mgI a b (i+1) out':=by
 obtain⟨h1,h2,h3,h4,h5⟩:=h
 have hm:=Xnr ha (i:=i.toNat) (by omega)
 have hl:=Xix out (a.getD i.toNat (0,0))
 refine⟨by omega,by omega,?_,⟨by rw[ho];exact Xjy h4.1 _,fun x hx=>?_⟩,by rw[ho];omega⟩
 · rw[tn1 h1,ho]
   rw[X4y (0,0) (by omega:i.toNat<a.length)]at h3
   exact h3
 · rw[ho]at hx
   rcases Xd2.1 hx with hx | ⟨rfl,_⟩
   · exact h4.2 x hx
   · exact hm
theorem Xr0{a b:List Pt}{i:Int}{out:List Pt}(ha:Xas a)(hb:Xas b)(h:mgI a b i out)(hi:¬i<a.length):out=X2K a b:=by
 obtain⟨h1,h2,h3,h4,h5⟩:=h
 have e:i.toNat=a.length:=by omega
 rw[e,List.drop_length]at h3
 rw[←Xmp ha.1 hb.1,←h3];rfl
def X78:Con:={A:=(.pair Xar Xar),shA:=[.one,.one],R:=Xar,shR:=[(false,1)],fresh:=[(0,85)],pre:=fun _ a=>(pMg a.1 a.2),f:=some fun _ a=>((X2K a.1 a.2),((),()))}
def X2P.F(a0:U6q)(a1:U6q):Prop:=((Xdz a1)∧∀r1,(Eq r1 ((XkT a1),((),())))→(eS [(12,.val false [.lst T0q a0 none]),(13,.val false [.int .i64 (ln a0)])] [(12,.val false [.lst T0q a0 none]),(13,.val false [.int .i64 (ln a0)])]∧((mgI a0 a1 0 r1.1)∧∀(y2:(Int×U6q)),(mgI a0 a1 y2.1 y2.2)→(X00 (decide (y2.1<(ln a0))) (0≤y2.1∧(y2.1<(ln a0)∧((pBs y2.2 ((List.getD a0 (tN y2.1) (0,0)).1) ())∧∀r3,(Eq r3 ((fBs y2.2 ((List.getD a0 (tN y2.1) (0,0)).1) ()),((),())))→(X00 (!r3.1.2) ((X2U y2.2 r3.1.1 [((List.getD a0 (tN y2.1) (0,0)).1,(List.getD a0 (tN y2.1) (0,0)).2)])∧∀r4,(Eq r4 ((X1J y2.2 r3.1.1 [((List.getD a0 (tN y2.1) (0,0)).1,(List.getD a0 (tN y2.1) (0,0)).2)]),((),())))→(eS [(12,.val false [.lst T0q a0 none]),(13,.val false [.int .i64 (ln a0)])] [(12,.val false [.lst T0q a0 none]),(13,.val false [.int .i64 (ln a0)])]∧(mgI a0 a1 (wI (y2.1+(1:Int))) r4.1)∧(mgM a0 a1 (wI (y2.1+(1:Int))) r4.1)<(mgM a0 a1 y2.1 y2.2))) (eS [(12,.val false [.lst T0q a0 none]),(13,.val false [.int .i64 (ln a0)])] [(12,.val false [.lst T0q a0 none]),(13,.val false [.int .i64 (ln a0)])]∧(mgI a0 a1 (wI (y2.1+(1:Int))) y2.2)∧(mgM a0 a1 (wI (y2.1+(1:Int))) y2.2)<(mgM a0 a1 y2.1 y2.2)))))) (Eq (y2.2,((),())) ((X2K a0 a1),((),())))))))
def X2P.L(a0:U6q)(a1:U6q):Nat→Option X0c:=fun p=>Go.Proofs.YtcfaphojdacmbaaGreatR.Bv.look p [(58,{kp:={hold:=[12,13],slots:=[5,14],boxes:=[],rows:=[{bx:=false,s:=5,i:=0,k:=1000643,e:=85,hot:=true}]},T:=XkR,I:=fun st y=>mgI a0 a1 y.1 y.2,μ:=fun st y=>mgM a0 a1 y.1 y.2})]
theorem X2P.pure(a0:U6q)(a1:U6q)(h:(pMg a0 a1))(hw:Wf X78.A (a0,a1)):X2P.F a0 a1:=by
 delta X2P.F ln tN wI eS
 simp only[Bs,B0,B1,Prod.mk.injEq,X01,XkT,Xdz,pBs]
 obtain⟨ha,hb,hal,hbl⟩:=h
 refine⟨by omega,⟨by omega,by omega,rfl,hb,by omega⟩,?_⟩
 rintro⟨i,out⟩ hI
 simp only at hI ⊢
 have q1:=hI.h1
 have q2:=hI.h2
 have q5:=hI.h5
 refine⟨fun hi=>?_,fun hi=>Xr0 ha hb hI hi⟩
 have hm:=Xnr ha (i:=i.toNat) (by omega)
 have hp:=XlQ (lt:=ltI) (key:=Prod.fst) (a0.getD i.toNat (0,0)).1 out
 have dn:∀o,mgM a0 a1 (i+1) o<mgM a0 a1 i out:=fun o=>by unfold mgM;omega
 rw[w64 (x:=i+1) (by omega) (by omega)]
 refine⟨q1,hi,⟨hI.h4,hm.1,hm.2,by omega⟩,fun h6=>⟨⟨by simp only[fBs];omega,by simp only[fBs];omega,by simp,by simp;omega⟩,Xlh ha hI hi ?_,dn _⟩,fun h6=>⟨Xlh ha hI hi ?_,dn _⟩⟩
 · have h7:Xmh out (a0.getD i.toNat (0,0)).1=false:=h6
   unfold Xit
   rw[if_neg (by rw[h7];decide)]
   simp only[fBs,X1J,Int.toNat_natCast,Prod.eta]
   rfl
 · have h7:Xmh out (a0.getD i.toNat (0,0)).1=true:=h6
   unfold Xit
   rw[if_pos h7]
theorem X2P.eq:EqS X78 Tryz.f169 [64] [X0b.e,X05.e,X25.e,X2c.e] [] (fun i x=>X2P.L x.1 x.2) (fun i x=>X2P.F x.1 x.2):=by intro i x;kernel_rfl
theorem X2P.ok:X0n Tryz.prog 169 X78:=X2g X2P.eq Tryz.func169 rfl (by kernel_rfl) fun i x h hi hw=>X2P.pure x.1 x.2 h hw
def X2P.e:GE:=⟨169,X78,⟨_,Tryz.func169,rfl,rfl⟩,X2P.ok⟩
def XgG(l:List Pt)(p:Pt):List Pt:=Xg0 p l
def XnK(l:List Pt)(p:Pt):Prop:=l.length≤1000000000000
def X9o(p:Pt)(put:Bool)(l:List Pt):List Pt:=if put then l.filter (fun y=>!(y.1==p.1)) else Xg0 p l
structure puI (l:List Pt) (p:Pt) (put:Bool) (i:Int) (out:List Pt):Prop where
 h1:0≤i
 h2:i≤l.length
 h3:out++X9o p put (l.drop i.toNat)=Xg0 p l
 h4:(out.length:Int)≤i+1
 h5:put=false→(out.length:Int)≤i
def puM(l:List Pt)(p:Pt)(put:Bool)(i:Int)(out:List Pt):Nat:=(l.length - i).toNat
def puB(l:List Pt)(p:Pt)(put:Bool)(i t v:Int)(out:List Pt):Prop:=((t,v):Pt)=p∧puI l p put i out
def puN(l:List Pt)(p:Pt)(put:Bool)(i t v:Int)(out:List Pt):Nat:=puM l p put i out
theorem XoU{l:List Pt}{p:Pt}{put put':Bool}{i:Int}{out o':List Pt}(h:puI l p put i out)(hi:i<l.length)(hl:(o'.length:Int)≤i+2∧(put'=false→(o'.length:Int)≤i+1))(he:∀r,o'++X9o p put' r=out++X9o p put (l.getD i.toNat (0,0)::r)):puI l p put' (i+1) o':=by
 obtain⟨h1,h2,h3,h4,h5⟩:=h
 refine⟨by omega,by omega,?_,by omega,hl.2⟩
 rw[tn1 h1,he,←X4y (0,0) (by omega)];exact h3
theorem pu_no{p x:Pt}{r:List Pt}(h:¬p.1≤x.1):X9o p false (x::r)=x::X9o p false r:=by simp[X9o,Xg0,h]
theorem Xof{p x:Pt}{r:List Pt}(h:p.1≤x.1):X9o p false (x::r)=p::X9o p true (x::r):=by simp[X9o,Xg0,h]
theorem XqU{p x:Pt}{r:List Pt}(h:x.1=p.1):X9o p true (x::r)=X9o p true r:=by simp[X9o,h]
theorem Xr5{p x:Pt}{r:List Pt}(h:¬x.1=p.1):X9o p true (x::r)=x::X9o p true r:=by simp[X9o,h]
theorem XrD{l:List Pt}{p:Pt}{put:Bool}{i:Int}{out:List Pt}(h:puI l p put i out)(hi:¬i<l.length):(put=true→out=XgG l p)∧(put=false→out++[p]=XgG l p):=by
 obtain⟨h1,h2,h3,h4,h5⟩:=h
 have e:i.toNat=l.length:=by omega
 rw[e,List.drop_length]at h3
 refine⟨fun hp=>?_,fun hp=>?_⟩
 · rw[hp]at h3;simpa [X9o,XgG] using h3
 · rw[hp]at h3;simpa [X9o,Xg0,XgG] using h3
def Xg4(a b:List Pt):List Pt:=X2K a b
def XgT(a b:List Pt):Prop:=a.length≤400000000000∧b.length≤400000000000
structure m8I (a b:List Pt) (i:Int) (out:List Pt):Prop where
 h1:0≤i
 h2:i≤b.length
 h3:X2K out (b.drop i.toNat)=X2K a b
 h4:(out.length:Int)≤a.length+i
def m8M(a b:List Pt)(i:Int)(out:List Pt):Nat:=(b.length - i).toNat
theorem Xpn{a b:List Pt}{i:Int}{out:List Pt}(h:m8I a b i out)(hi:i<b.length):m8I a b (i+1) (Xg0 (b.getD i.toNat (0,0)) out):=by
 obtain⟨h1,h2,h3,h4⟩:=h
 have:=XaK (b.getD i.toNat (0,0)) out
 refine⟨by omega,by omega,?_,by omega⟩
 rw[tn1 h1]
 rw[X4y (0,0) (by omega:i.toNat<b.length)]at h3
 exact h3
theorem Xqh{a b:List Pt}{i:Int}{out:List Pt}(h:m8I a b i out)(hi:¬i<b.length):out=Xg4 a b:=by
 obtain⟨h1,h2,h3,h4⟩:=h
 have e:i.toNat=b.length:=by omega
 rw[e,List.drop_length]at h3
 exact h3
def X8c:Con:={A:=(.pair Xar T0q),shA:=[.one,.agg 2],R:=Xar,shR:=[(false,1)],fresh:=[(0,85)],pre:=fun _ a=>(XnK a.1 a.2),f:=some fun _ a=>((XgG a.1 a.2),((),()))}
def X3l.F(a0:U6q)(a1:(Int×Int)):Prop:=(eS [(0,.val false [.lst T0q a0 none]),(3,.box 4 0)] [(0,.val false [.lst T0q a0 none]),(3,.box 4 0)]∧((puB a0 a1 false 0 a1.1 a1.2 ([]:List (Int×Int)))∧∀(y1:(Bool×(Int×(Int×(Int×U6q))))),(puB a0 a1 y1.1 y1.2.1 y1.2.2.1 y1.2.2.2.1 y1.2.2.2.2)→(X00 (decide (y1.2.1<(ln a0))) (X00 (!y1.1) (0≤y1.2.1∧(y1.2.1<(ln a0)∧(X00 (decide (y1.2.2.1≤((List.getD a0 (tN y1.2.1) (0,0)).1))) (List.length y1.2.2.2.2+List.length [(y1.2.2.1,y1.2.2.2.1)]≤9223372036854775807∧((List.length y1.2.2.2.2+List.length [(y1.2.2.1,y1.2.2.2.1)])*16≤140737488355328∧(0≤y1.2.1∧(y1.2.1<(ln a0)∧(X00 (((List.getD a0 (tN y1.2.1) (0,0)).1)!=y1.2.2.1) (0≤y1.2.1∧(y1.2.1<(ln a0)∧(List.length (y1.2.2.2.2++[(y1.2.2.1,y1.2.2.2.1)])+List.length [((List.getD a0 (tN y1.2.1) (0,0)).1,(List.getD a0 (tN y1.2.1) (0,0)).2)]≤9223372036854775807∧((List.length (y1.2.2.2.2++[(y1.2.2.1,y1.2.2.2.1)])+List.length [((List.getD a0 (tN y1.2.1) (0,0)).1,(List.getD a0 (tN y1.2.1) (0,0)).2)])*16≤140737488355328∧(eS [(0,.val false [.lst T0q a0 none]),(3,.box 4 0)] [(0,.val false [.lst T0q a0 none]),(3,.box 4 0)]∧(puB a0 a1 true (wI (y1.2.1+(1:Int))) y1.2.2.1 y1.2.2.2.1 ((y1.2.2.2.2++[(y1.2.2.1,y1.2.2.2.1)])++[((List.getD a0 (tN y1.2.1) (0,0)).1,(List.getD a0 (tN y1.2.1) (0,0)).2)]))∧(puN a0 a1 true (wI (y1.2.1+(1:Int))) y1.2.2.1 y1.2.2.2.1 ((y1.2.2.2.2++[(y1.2.2.1,y1.2.2.2.1)])++[((List.getD a0 (tN y1.2.1) (0,0)).1,(List.getD a0 (tN y1.2.1) (0,0)).2)]))<(puN a0 a1 y1.1 y1.2.1 y1.2.2.1 y1.2.2.2.1 y1.2.2.2.2)))))) (eS [(0,.val false [.lst T0q a0 none]),(3,.box 4 0)] [(0,.val false [.lst T0q a0 none]),(3,.box 4 0)]∧(puB a0 a1 true (wI (y1.2.1+(1:Int))) y1.2.2.1 y1.2.2.2.1 (y1.2.2.2.2++[(y1.2.2.1,y1.2.2.2.1)]))∧(puN a0 a1 true (wI (y1.2.1+(1:Int))) y1.2.2.1 y1.2.2.2.1 (y1.2.2.2.2++[(y1.2.2.1,y1.2.2.2.1)]))<(puN a0 a1 y1.1 y1.2.1 y1.2.2.1 y1.2.2.2.1 y1.2.2.2.2))))))) (0≤y1.2.1∧(y1.2.1<(ln a0)∧(X00 (((List.getD a0 (tN y1.2.1) (0,0)).1)!=y1.2.2.1) (0≤y1.2.1∧(y1.2.1<(ln a0)∧(List.length y1.2.2.2.2+List.length [((List.getD a0 (tN y1.2.1) (0,0)).1,(List.getD a0 (tN y1.2.1) (0,0)).2)]≤9223372036854775807∧((List.length y1.2.2.2.2+List.length [((List.getD a0 (tN y1.2.1) (0,0)).1,(List.getD a0 (tN y1.2.1) (0,0)).2)])*16≤140737488355328∧(eS [(0,.val false [.lst T0q a0 none]),(3,.box 4 0)] [(0,.val false [.lst T0q a0 none]),(3,.box 4 0)]∧(puB a0 a1 y1.1 (wI (y1.2.1+(1:Int))) y1.2.2.1 y1.2.2.2.1 (y1.2.2.2.2++[((List.getD a0 (tN y1.2.1) (0,0)).1,(List.getD a0 (tN y1.2.1) (0,0)).2)]))∧(puN a0 a1 y1.1 (wI (y1.2.1+(1:Int))) y1.2.2.1 y1.2.2.2.1 (y1.2.2.2.2++[((List.getD a0 (tN y1.2.1) (0,0)).1,(List.getD a0 (tN y1.2.1) (0,0)).2)]))<(puN a0 a1 y1.1 y1.2.1 y1.2.2.1 y1.2.2.2.1 y1.2.2.2.2)))))) (eS [(0,.val false [.lst T0q a0 none]),(3,.box 4 0)] [(0,.val false [.lst T0q a0 none]),(3,.box 4 0)]∧(puB a0 a1 y1.1 (wI (y1.2.1+(1:Int))) y1.2.2.1 y1.2.2.2.1 y1.2.2.2.2)∧(puN a0 a1 y1.1 (wI (y1.2.1+(1:Int))) y1.2.2.1 y1.2.2.2.1 y1.2.2.2.2)<(puN a0 a1 y1.1 y1.2.1 y1.2.2.1 y1.2.2.2.1 y1.2.2.2.2)))))))) (0≤y1.2.1∧(y1.2.1<(ln a0)∧(X00 (((List.getD a0 (tN y1.2.1) (0,0)).1)!=y1.2.2.1) (0≤y1.2.1∧(y1.2.1<(ln a0)∧(List.length y1.2.2.2.2+List.length [((List.getD a0 (tN y1.2.1) (0,0)).1,(List.getD a0 (tN y1.2.1) (0,0)).2)]≤9223372036854775807∧((List.length y1.2.2.2.2+List.length [((List.getD a0 (tN y1.2.1) (0,0)).1,(List.getD a0 (tN y1.2.1) (0,0)).2)])*16≤140737488355328∧(eS [(0,.val false [.lst T0q a0 none]),(3,.box 4 0)] [(0,.val false [.lst T0q a0 none]),(3,.box 4 0)]∧(puB a0 a1 y1.1 (wI (y1.2.1+(1:Int))) y1.2.2.1 y1.2.2.2.1 (y1.2.2.2.2++[((List.getD a0 (tN y1.2.1) (0,0)).1,(List.getD a0 (tN y1.2.1) (0,0)).2)]))∧(puN a0 a1 y1.1 (wI (y1.2.1+(1:Int))) y1.2.2.1 y1.2.2.2.1 (y1.2.2.2.2++[((List.getD a0 (tN y1.2.1) (0,0)).1,(List.getD a0 (tN y1.2.1) (0,0)).2)]))<(puN a0 a1 y1.1 y1.2.1 y1.2.2.1 y1.2.2.2.1 y1.2.2.2.2)))))) (eS [(0,.val false [.lst T0q a0 none]),(3,.box 4 0)] [(0,.val false [.lst T0q a0 none]),(3,.box 4 0)]∧(puB a0 a1 y1.1 (wI (y1.2.1+(1:Int))) y1.2.2.1 y1.2.2.2.1 y1.2.2.2.2)∧(puN a0 a1 y1.1 (wI (y1.2.1+(1:Int))) y1.2.2.1 y1.2.2.2.1 y1.2.2.2.2)<(puN a0 a1 y1.1 y1.2.1 y1.2.2.1 y1.2.2.2.1 y1.2.2.2.2)))))) (X00 (!y1.1) (List.length y1.2.2.2.2+List.length [(y1.2.2.1,y1.2.2.2.1)]≤9223372036854775807∧((List.length y1.2.2.2.2+List.length [(y1.2.2.1,y1.2.2.2.1)])*16≤140737488355328∧(Eq ((y1.2.2.2.2++[(y1.2.2.1,y1.2.2.2.1)]),((),())) ((XgG a0 a1),((),()))))) (Eq (y1.2.2.2.2,((),())) ((XgG a0 a1),((),())))))))
def X3l.L(a0:U6q)(a1:(Int×Int)):Nat→Option X0c:=fun p=>Go.Proofs.YtcfaphojdacmbaaGreatR.Bv.look p [(122,{kp:={hold:=[0,3],slots:=[5,6,7],boxes:=[4],rows:=[{bx:=false,s:=5,i:=0,k:=1000643,e:=85,hot:=true}]},T:=(.pair .bool (.pair (.int .i64) (.pair (.int .i64) XkR))),I:=fun st y=>puB a0 a1 y.1 y.2.1 y.2.2.1 y.2.2.2.1 y.2.2.2.2,μ:=fun st y=>puN a0 a1 y.1 y.2.1 y.2.2.1 y.2.2.2.1 y.2.2.2.2})]
theorem X3l.pure(a0:U6q)(a1:(Int×Int))(h:(XnK a0 a1))(hw:Wf X8c.A (a0,a1)):X3l.F a0 a1:=by
 delta X3l.F ln tN wI eS
 simp only[Bs,B0,B1,Prod.mk.injEq,X01]
 have hl:a0.length≤1000000000000:=h
 refine⟨⟨rfl,⟨by omega,by omega,by simp[X9o],by simp,by simp⟩⟩,?_⟩
 rintro⟨put,i,t,v,out⟩ ⟨hp,hI⟩
 simp only at hp hI ⊢
 subst hp
 have q1:=hI.h1
 have q2:=hI.h2
 have q4:=hI.h4
 have q5:=hI.h5
 have hen:=XrD hI
 have st:∀{put' o'},i<(a0.length:Int)→_→_→puB a0 (t,v) put' (i+1) t v o':=fun h h2 h3=>⟨rfl,XoU hI h h2 h3⟩
 have dn:∀o p,i<(a0.length:Int)→puN a0 (t,v) p (i+1) t v o<puN a0 (t,v) put i t v out:=fun o p h=>by unfold puN puM;omega
 generalize hx:a0.getD i.toNat (0,0)=x at st ⊢
 repeat' (with_reducible (first | (refine And.intro ?_ ?_) | intro _))
 all_goals (try simp (disch:=omega) only[w64,List.length_append,List.length_cons,List.length_nil]at*)
 all_goals (first
  | omega
  | exact dn _ _ ‹_›
  | (refine st ‹_› (by(try simp only[List.length_append,List.length_cons,List.length_nil]);(try have:=q5 ‹_›);(first | omega | (refine ⟨by omega,fun hh=>?_⟩;first | omega | (have:=q5 hh;omega) | (exfalso;simp_all;done)))) fun r=>?_;(try rw[‹put=true›]);(try rw[‹put=false›]);(try simp only[List.append_assoc,List.cons_append,List.nil_append,Prod.eta]);first | rw[Xof (p:=(t,v)) ‹t≤x.1›,XqU (p:=(t,v)) ‹x.1=t›] | rw[Xof (p:=(t,v)) ‹t≤x.1›,Xr5 (p:=(t,v)) ‹¬x.1=t›] | rw[pu_no (p:=(t,v)) ‹¬t≤x.1›] | rw[XqU (p:=(t,v)) ‹x.1=t›] | rw[Xr5 (p:=(t,v)) ‹¬x.1=t›])
  | exact(hen ‹_›).1 ‹_›
  | exact(hen ‹_›).2 ‹_›
  | skip)
theorem X3l.eq:EqS X8c Tryz.f172 [64] [] [] (fun i x=>X3l.L x.1 x.2) (fun i x=>X3l.F x.1 x.2):=by intro i x;kernel_rfl
theorem X3l.ok:X0n Tryz.prog 172 X8c:=X2g X3l.eq Tryz.func172 rfl (by kernel_rfl) fun i x h hi hw=>X3l.pure x.1 x.2 h hw
def X3l.e:GE:=⟨172,X8c,⟨_,Tryz.func172,rfl,rfl⟩,X3l.ok⟩
def X6C:Con:={A:=(.pair Xar Xar),shA:=[.one,.one],R:=Xar,shR:=[(false,1)],fresh:=[(0,85)],pre:=fun _ a=>(XgT a.1 a.2),f:=some fun _ a=>((Xg4 a.1 a.2),((),()))}
def X1Z.F(a0:U6q)(a1:U6q):Prop:=(List.length ([]:List (Int×Int))+List.length a0≤9223372036854775807∧((List.length ([]:List (Int×Int))+List.length a0)*16≤140737488355328∧(eS [(1,.val false [.lst T0q a1 none])] [(1,.val false [.lst T0q a1 none])]∧((m8I a0 a1 0 (([]:List (Int×Int))++a0))∧∀(y1:(Int×U6q)),(m8I a0 a1 y1.1 y1.2)→(X00 (decide (y1.1<(ln a1))) (0≤y1.1∧(y1.1<(ln a1)∧((XnK y1.2 ((List.getD a1 (tN y1.1) (0,0)).1,(List.getD a1 (tN y1.1) (0,0)).2))∧∀r2,(Eq r2 ((XgG y1.2 ((List.getD a1 (tN y1.1) (0,0)).1,(List.getD a1 (tN y1.1) (0,0)).2)),((),())))→(eS [(1,.val false [.lst T0q a1 none])] [(1,.val false [.lst T0q a1 none])]∧(m8I a0 a1 (wI (y1.1+(1:Int))) r2.1)∧(m8M a0 a1 (wI (y1.1+(1:Int))) r2.1)<(m8M a0 a1 y1.1 y1.2))))) (Eq (y1.2,((),())) ((Xg4 a0 a1),((),()))))))))
def X1Z.L(a0:U6q)(a1:U6q):Nat→Option X0c:=fun p=>Go.Proofs.YtcfaphojdacmbaaGreatR.Bv.look p [(58,{kp:={hold:=[1],slots:=[5,6],boxes:=[],rows:=[{bx:=false,s:=5,i:=0,k:=1000643,e:=85,hot:=true}]},T:=XkR,I:=fun st y=>m8I a0 a1 y.1 y.2,μ:=fun st y=>m8M a0 a1 y.1 y.2})]
theorem X1Z.pure(a0:U6q)(a1:U6q)(h:(XgT a0 a1))(hw:Wf X6C.A (a0,a1)):X1Z.F a0 a1:=by
 delta X1Z.F ln tN wI eS
 simp only[Bs,B0,B1,Prod.mk.injEq,X01,XgG,XnK]
 obtain⟨hal,hbl⟩:=h
 refine⟨by omega,by omega,⟨by omega,by omega,rfl,by simp⟩,?_⟩
 rintro⟨i,out⟩ hI
 simp only at hI ⊢
 have q1:=hI.h1
 have q2:=hI.h2
 have q4:=hI.h4
 rw[w64 (x:=i+1) (by omega) (by omega)]
 exact⟨fun hi=>⟨q1,hi,by omega,Xpn hI hi,by unfold m8M;omega⟩,fun hi=>Xqh hI hi⟩
theorem X1Z.eq:EqS X6C Tryz.f96 [64] [X3l.e] [] (fun i x=>X1Z.L x.1 x.2) (fun i x=>X1Z.F x.1 x.2):=by intro i x;kernel_rfl
theorem X1Z.ok:X0n Tryz.prog 96 X6C:=X2g X1Z.eq Tryz.func96 rfl (by kernel_rfl) fun i x h hi hw=>X1Z.pure x.1 x.2 h hw
def X1Z.e:GE:=⟨96,X6C,⟨_,Tryz.func96,rfl,rfl⟩,X1Z.ok⟩
end Go.Proofs.YtcfaphojdacmbaaGreatR.B
