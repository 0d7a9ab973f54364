/- Part 2 of the walk: contracts of functions, their formulas and proofs. -/
import Derived.WalkKit
import Derived.Lib.Walk
import Derived.Lib.Bytealg
import Derived.Laws.Externs
import Derived.Test.YtgmafgmjbaoomaaGreatXA
set_option maxRecDepth 100000
set_option linter.unusedVariables false
set_option linter.unusedSimpArgs false
namespace Go.Proofs.YtgmafgmjbaoomaaGreat.B
open Go Go.Proofs.YtgmafgmjbaoomaaGreat.Bv Go.Proofs.Tryz
def pMg(a b:List Pt):Prop:=Xf2 a/\Xf2 b/\a.length<=1000000000/\b.length<=1000000000
structure mgI (a b:List Pt) (i:Int) (out:List Pt):Prop where
 h1:0<=i
 h2:i<=a.length
 h3:(a.drop i.toNat).foldl XlU out=a.foldl XlU b
 h4:Xf2 out
 h5:(out.length:Int)<=b.length+i
def mgM(a b:List Pt)(i:Int)(out:List Pt):Nat:=(a.length - i).toNat
theorem XsQ{a b:List Pt}{i:Int}{out out':List Pt}(ha:Xf2 a)(h:mgI a b i out)(hi:i<a.length)(ho:out'=XlU out (a.getD i.toNat (0,0))):mgI a b (i+1) out':=by
 obtain⟨h1,h2,h3,h4,h5⟩:=h
 have hm:=Xq5 ha (i:=i.toNat) (by omega)
 have hl:=Xin out (a.getD i.toNat (0,0))
 refine⟨by omega,by omega,?_,⟨by rw[ho];exact XlS h4.1 _,λx hx=>?_⟩,by rw[ho];omega⟩
 . rw[tn1 h1,ho]
   rw[X3U (0,0) (by omega:i.toNat<a.length)]at h3
   exact h3
 . rw[ho]at hx
   rcases Xdb.1 hx with hx | ⟨rfl,_⟩
   . exact h4.2 x hx
   . exact hm
theorem XxA{a b:List Pt}{i:Int}{out:List Pt}(ha:Xf2 a)(hb:Xf2 b)(h:mgI a b i out)(hi:¬i<a.length):out=X4f a b:=by
 obtain⟨h1,h2,h3,h4,h5⟩:=h
 have e:i.toNat=a.length:=by omega
 rw[e,YbO]at h3
 rw[<-XsM ha.1 hb.1,<-h3];rfl
def XaV:Con:=cW (.pair X7m X7m) [.one,.one] X7m [(false,1)] [(0,107)] (λa=>(pMg a.1 a.2)) λa=>(X4f a.1 a.2)
def X4b.F(a0:U9q)(a1:U9q):Prop:=((XjG a1)/\∀r1,(Eq r1 ((Xqz a1),((),())))->(eS [(12,.val false [.lst T0q a0 none]),(13,.val false [.int .i64 (ln a0)])] [(12,.val false [.lst T0q a0 none]),(13,.val false [.int .i64 (ln a0)])]/\((mgI a0 a1 0 r1.1)/\∀(y2:(Int×U9q)),(mgI a0 a1 y2.1 y2.2)->(X00 (decide (y2.1<(ln a0))) (0<=y2.1/\(y2.1<(ln a0)/\((pBs y2.2 ((List.getD a0 (tN y2.1) (0,0)).1) ())/\∀r3,(Eq r3 ((fBs y2.2 ((List.getD a0 (tN y2.1) (0,0)).1) ()),((),())))->(X00 (!r3.1.2) ((X4g y2.2 r3.1.1 [((List.getD a0 (tN y2.1) (0,0)).1,(List.getD a0 (tN y2.1) (0,0)).2)])/\∀r4,(Eq r4 ((X2v y2.2 r3.1.1 [((List.getD a0 (tN y2.1) (0,0)).1,(List.getD a0 (tN y2.1) (0,0)).2)]),((),())))->(eS [(12,.val false [.lst T0q a0 none]),(13,.val false [.int .i64 (ln a0)])] [(12,.val false [.lst T0q a0 none]),(13,.val false [.int .i64 (ln a0)])]/\(mgI a0 a1 (wI (y2.1+(1:Int))) r4.1)/\(mgM a0 a1 (wI (y2.1+(1:Int))) r4.1)<(mgM a0 a1 y2.1 y2.2))) (eS [(12,.val false [.lst T0q a0 none]),(13,.val false [.int .i64 (ln a0)])] [(12,.val false [.lst T0q a0 none]),(13,.val false [.int .i64 (ln a0)])]/\(mgI a0 a1 (wI (y2.1+(1:Int))) y2.2)/\(mgM a0 a1 (wI (y2.1+(1:Int))) y2.2)<(mgM a0 a1 y2.1 y2.2)))))) (Eq (y2.2,((),())) ((X4f a0 a1),((),())))))))
def X4b.L(a0:U9q)(a1:U9q):Nat->Option X0e:=XLK [(58,⟨⟨[12,13],[5,14],[],[kC 5 0 1000643 107]⟩,Xof,λst y=>mgI a0 a1 y.1 y.2,λst y=>mgM a0 a1 y.1 y.2⟩)]
theorem X4b.p(a0:U9q)(a1:U9q)(h:(pMg a0 a1)):X4b.F a0 a1:=by
 delta X4b.F ln tN wI eS
 simp only[Bs,B0,B1,Yaa,X01,Xqz,XjG,pBs]
 obtain⟨ha,hb,hal,hbl⟩:=h
 refine⟨by omega,⟨by omega,by omega,rfl,hb,by omega⟩,?_⟩
 rintro⟨i,out⟩ hI
 simp only at hI ⊢
 have q1:=hI.h1
 have q2:=hI.h2
 have q5:=hI.h5
 refine⟨λhi=>?_,λhi=>XxA ha hb hI hi⟩
 have hm:=Xq5 ha (i:=i.toNat) (by omega)
 have hp:=Xpx (lt:=ltI) (key:=Prod.fst) (a0.getD i.toNat (0,0)).1 out
 have dn:∀o,mgM a0 a1 (i+1) o<mgM a0 a1 i out:=λo=>by unfold mgM;omega
 rw[w64 (x:=i+1) (by omega) (by omega)]
 refine⟨q1,hi,⟨hI.h4,hm.1,hm.2,by omega⟩,λh6=>⟨⟨by simp only[fBs];omega,by simp only[fBs];omega,by simp,by simp;omega⟩,XsQ ha hI hi ?_,dn _⟩,λh6=>⟨XsQ ha hI hi ?_,dn _⟩⟩
 . have h7:Xpl out (a0.getD i.toNat (0,0)).1=false:=h6
   unfold XlU
   rw[Yae (by rw[h7];decide)]
   simp only[fBs,X2v,YaE,YaA]
   rfl
 . have h7:Xpl out (a0.getD i.toNat (0,0)).1=true:=h6
   unfold XlU
   rw[Yah h7]
def X4b.e:GE:=mE XaV func202 [91] [X0f.e,X06.e,X38.e,X3b.e] [] (λi x=>X4b.L x.1 x.2) (λi x=>X4b.F x.1 x.2) λi x h _ _=>X4b.p x.1 x.2 h
def XlB(l:List Pt)(p:Pt):List Pt:=Xlx p l
def XtO(l:List Pt)(p:Pt):Prop:=l.length<=1000000000000
def XdU(p:Pt)(put:Bool)(l:List Pt):List Pt:=if put then l.filter (λy=>!(y.1==p.1)) else Xlx p l
structure puI (l:List Pt) (p:Pt) (put:Bool) (i:Int) (out:List Pt):Prop where
 h1:0<=i
 h2:i<=l.length
 h3:out++XdU p put (l.drop i.toNat)=Xlx p l
 h4:(out.length:Int)<=i+1
 h5:put=false->(out.length:Int)<=i
def puM(l:List Pt)(p:Pt)(put:Bool)(i:Int)(out:List Pt):Nat:=(l.length - i).toNat
def puB(l:List Pt)(p:Pt)(put:Bool)(i t v:Int)(out:List Pt):Prop:=((t,v):Pt)=p/\puI l p put i out
def puN(l:List Pt)(p:Pt)(put:Bool)(i t v:Int)(out:List Pt):Nat:=puM l p put i out
theorem Xwb{l:List Pt}{p:Pt}{put put':Bool}{i:Int}{out o':List Pt}(h:puI l p put i out)(hi:i<l.length)(hl:(o'.length:Int)<=i+2/\(put'=false->(o'.length:Int)<=i+1))(he:∀r,o'++XdU p put' r=out++XdU p put (l.getD i.toNat (0,0)::r)):puI l p put' (i+1) o':=by
 obtain⟨h1,h2,h3,h4,h5⟩:=h
 refine⟨by omega,by omega,?_,by omega,hl.2⟩
 rw[tn1 h1,he,<-X3U (0,0) (by omega)];exact h3
theorem pu_no{p x:Pt}{r:List Pt}(h:¬p.1<=x.1):XdU p false (x::r)=x::XdU p false r:=by simp[XdU,Xlx,h]
theorem XuE{p x:Pt}{r:List Pt}(h:p.1<=x.1):XdU p false (x::r)=p::XdU p true (x::r):=by simp[XdU,Xlx,h]
theorem Xxv{p x:Pt}{r:List Pt}(h:x.1=p.1):XdU p true (x::r)=XdU p true r:=by simp[XdU,h]
theorem XxF{p x:Pt}{r:List Pt}(h:¬x.1=p.1):XdU p true (x::r)=x::XdU p true r:=by simp[XdU,h]
theorem Xx9{l:List Pt}{p:Pt}{put:Bool}{i:Int}{out:List Pt}(h:puI l p put i out)(hi:¬i<l.length):(put=true->out=XlB l p)/\(put=false->out++[p]=XlB l p):=by
 obtain⟨h1,h2,h3,h4,h5⟩:=h
 have e:i.toNat=l.length:=by omega
 rw[e,YbO]at h3
 refine⟨λhp=>?_,λhp=>?_⟩
 . rw[hp]at h3;simpa [XdU,XlB] using h3
 . rw[hp]at h3;simpa [XdU,Xlx,XlB] using h3
def Xl4(a b:List Pt):List Pt:=X4f a b
def Xm2(a b:List Pt):Prop:=a.length<=400000000000/\b.length<=400000000000
structure m8I (a b:List Pt) (i:Int) (out:List Pt):Prop where
 h1:0<=i
 h2:i<=b.length
 h3:X4f out (b.drop i.toNat)=X4f a b
 h4:(out.length:Int)<=a.length+i
def m8M(a b:List Pt)(i:Int)(out:List Pt):Nat:=(b.length - i).toNat
theorem Xwn{a b:List Pt}{i:Int}{out:List Pt}(h:m8I a b i out)(hi:i<b.length):m8I a b (i+1) (Xlx (b.getD i.toNat (0,0)) out):=by
 obtain⟨h1,h2,h3,h4⟩:=h
 have:=Xfn (b.getD i.toNat (0,0)) out
 refine⟨by omega,by omega,?_,by omega⟩
 rw[tn1 h1]
 rw[X3U (0,0) (by omega:i.toNat<b.length)]at h3
 exact h3
theorem Xxn{a b:List Pt}{i:Int}{out:List Pt}(h:m8I a b i out)(hi:¬i<b.length):out=Xl4 a b:=by
 obtain⟨h1,h2,h3,h4⟩:=h
 have e:i.toNat=b.length:=by omega
 rw[e,YbO]at h3
 exact h3
def Xcf:Con:=cW (.pair X7m T0q) [.one,.agg 2] X7m [(false,1)] [(0,107)] (λa=>(XtO a.1 a.2)) λa=>(XlB a.1 a.2)
def X4W.F(a0:U9q)(a1:(Int×Int)):Prop:=(eS [(0,.val false [.lst T0q a0 none]),(3,.box 4 0)] [(0,.val false [.lst T0q a0 none]),(3,.box 4 0)]/\((puB a0 a1 false 0 a1.1 a1.2 ([]:List (Int×Int)))/\∀(y1:(Bool×(Int×(Int×(Int×U9q))))),(puB a0 a1 y1.1 y1.2.1 y1.2.2.1 y1.2.2.2.1 y1.2.2.2.2)->(X00 (decide (y1.2.1<(ln a0))) (X00 (!y1.1) (0<=y1.2.1/\(y1.2.1<(ln a0)/\(X00 (decide (y1.2.2.1<=((List.getD a0 (tN y1.2.1) (0,0)).1))) (List.length y1.2.2.2.2+List.length [(y1.2.2.1,y1.2.2.2.1)]<=9223372036854775807/\((List.length y1.2.2.2.2+List.length [(y1.2.2.1,y1.2.2.2.1)])*16<=140737488355328/\(0<=y1.2.1/\(y1.2.1<(ln a0)/\(X00 (((List.getD a0 (tN y1.2.1) (0,0)).1)!=y1.2.2.1) (0<=y1.2.1/\(y1.2.1<(ln a0)/\(List.length (y1.2.2.2.2++[(y1.2.2.1,y1.2.2.2.1)])+List.length [((List.getD a0 (tN y1.2.1) (0,0)).1,(List.getD a0 (tN y1.2.1) (0,0)).2)]<=9223372036854775807/\((List.length (y1.2.2.2.2++[(y1.2.2.1,y1.2.2.2.1)])+List.length [((List.getD a0 (tN y1.2.1) (0,0)).1,(List.getD a0 (tN y1.2.1) (0,0)).2)])*16<=140737488355328/\(eS [(0,.val false [.lst T0q a0 none]),(3,.box 4 0)] [(0,.val false [.lst T0q a0 none]),(3,.box 4 0)]/\(puB a0 a1 true (wI (y1.2.1+(1:Int))) y1.2.2.1 y1.2.2.2.1 ((y1.2.2.2.2++[(y1.2.2.1,y1.2.2.2.1)])++[((List.getD a0 (tN y1.2.1) (0,0)).1,(List.getD a0 (tN y1.2.1) (0,0)).2)]))/\(puN a0 a1 true (wI (y1.2.1+(1:Int))) y1.2.2.1 y1.2.2.2.1 ((y1.2.2.2.2++[(y1.2.2.1,y1.2.2.2.1)])++[((List.getD a0 (tN y1.2.1) (0,0)).1,(List.getD a0 (tN y1.2.1) (0,0)).2)]))<(puN a0 a1 y1.1 y1.2.1 y1.2.2.1 y1.2.2.2.1 y1.2.2.2.2)))))) (eS [(0,.val false [.lst T0q a0 none]),(3,.box 4 0)] [(0,.val false [.lst T0q a0 none]),(3,.box 4 0)]/\(puB a0 a1 true (wI (y1.2.1+(1:Int))) y1.2.2.1 y1.2.2.2.1 (y1.2.2.2.2++[(y1.2.2.1,y1.2.2.2.1)]))/\(puN a0 a1 true (wI (y1.2.1+(1:Int))) y1.2.2.1 y1.2.2.2.1 (y1.2.2.2.2++[(y1.2.2.1,y1.2.2.2.1)]))<(puN a0 a1 y1.1 y1.2.1 y1.2.2.1 y1.2.2.2.1 y1.2.2.2.2))))))) (0<=y1.2.1/\(y1.2.1<(ln a0)/\(X00 (((List.getD a0 (tN y1.2.1) (0,0)).1)!=y1.2.2.1) (0<=y1.2.1/\(y1.2.1<(ln a0)/\(List.length y1.2.2.2.2+List.length [((List.getD a0 (tN y1.2.1) (0,0)).1,(List.getD a0 (tN y1.2.1) (0,0)).2)]<=9223372036854775807/\((List.length y1.2.2.2.2+List.length [((List.getD a0 (tN y1.2.1) (0,0)).1,(List.getD a0 (tN y1.2.1) (0,0)).2)])*16<=140737488355328/\(eS [(0,.val false [.lst T0q a0 none]),(3,.box 4 0)] [(0,.val false [.lst T0q a0 none]),(3,.box 4 0)]/\(puB a0 a1 y1.1 (wI (y1.2.1+(1:Int))) y1.2.2.1 y1.2.2.2.1 (y1.2.2.2.2++[((List.getD a0 (tN y1.2.1) (0,0)).1,(List.getD a0 (tN y1.2.1) (0,0)).2)]))/\(puN a0 a1 y1.1 (wI (y1.2.1+(1:Int))) y1.2.2.1 y1.2.2.2.1 (y1.2.2.2.2++[((List.getD a0 (tN y1.2.1) (0,0)).1,(List.getD a0 (tN y1.2.1) (0,0)).2)]))<(puN a0 a1 y1.1 y1.2.1 y1.2.2.1 y1.2.2.2.1 y1.2.2.2.2)))))) (eS [(0,.val false [.lst T0q a0 none]),(3,.box 4 0)] [(0,.val false [.lst T0q a0 none]),(3,.box 4 0)]/\(puB a0 a1 y1.1 (wI (y1.2.1+(1:Int))) y1.2.2.1 y1.2.2.2.1 y1.2.2.2.2)/\(puN a0 a1 y1.1 (wI (y1.2.1+(1:Int))) y1.2.2.1 y1.2.2.2.1 y1.2.2.2.2)<(puN a0 a1 y1.1 y1.2.1 y1.2.2.1 y1.2.2.2.1 y1.2.2.2.2)))))))) (0<=y1.2.1/\(y1.2.1<(ln a0)/\(X00 (((List.getD a0 (tN y1.2.1) (0,0)).1)!=y1.2.2.1) (0<=y1.2.1/\(y1.2.1<(ln a0)/\(List.length y1.2.2.2.2+List.length [((List.getD a0 (tN y1.2.1) (0,0)).1,(List.getD a0 (tN y1.2.1) (0,0)).2)]<=9223372036854775807/\((List.length y1.2.2.2.2+List.length [((List.getD a0 (tN y1.2.1) (0,0)).1,(List.getD a0 (tN y1.2.1) (0,0)).2)])*16<=140737488355328/\(eS [(0,.val false [.lst T0q a0 none]),(3,.box 4 0)] [(0,.val false [.lst T0q a0 none]),(3,.box 4 0)]/\(puB a0 a1 y1.1 (wI (y1.2.1+(1:Int))) y1.2.2.1 y1.2.2.2.1 (y1.2.2.2.2++[((List.getD a0 (tN y1.2.1) (0,0)).1,(List.getD a0 (tN y1.2.1) (0,0)).2)]))/\(puN a0 a1 y1.1 (wI (y1.2.1+(1:Int))) y1.2.2.1 y1.2.2.2.1 (y1.2.2.2.2++[((List.getD a0 (tN y1.2.1) (0,0)).1,(List.getD a0 (tN y1.2.1) (0,0)).2)]))<(puN a0 a1 y1.1 y1.2.1 y1.2.2.1 y1.2.2.2.1 y1.2.2.2.2)))))) (eS [(0,.val false [.lst T0q a0 none]),(3,.box 4 0)] [(0,.val false [.lst T0q a0 none]),(3,.box 4 0)]/\(puB a0 a1 y1.1 (wI (y1.2.1+(1:Int))) y1.2.2.1 y1.2.2.2.1 y1.2.2.2.2)/\(puN a0 a1 y1.1 (wI (y1.2.1+(1:Int))) y1.2.2.1 y1.2.2.2.1 y1.2.2.2.2)<(puN a0 a1 y1.1 y1.2.1 y1.2.2.1 y1.2.2.2.1 y1.2.2.2.2)))))) (X00 (!y1.1) (List.length y1.2.2.2.2+List.length [(y1.2.2.1,y1.2.2.2.1)]<=9223372036854775807/\((List.length y1.2.2.2.2+List.length [(y1.2.2.1,y1.2.2.2.1)])*16<=140737488355328/\(Eq ((y1.2.2.2.2++[(y1.2.2.1,y1.2.2.2.1)]),((),())) ((XlB a0 a1),((),()))))) (Eq (y1.2.2.2.2,((),())) ((XlB a0 a1),((),())))))))
def X4W.L(a0:U9q)(a1:(Int×Int)):Nat->Option X0e:=XLK [(122,⟨⟨[0,3],[5,6,7],[4],[kC 5 0 1000643 107]⟩,(.pair .bool (.pair (.int .i64) (.pair (.int .i64) Xof))),λst y=>puB a0 a1 y.1 y.2.1 y.2.2.1 y.2.2.2.1 y.2.2.2.2,λst y=>puN a0 a1 y.1 y.2.1 y.2.2.1 y.2.2.2.1 y.2.2.2.2⟩)]
theorem X4W.p(a0:U9q)(a1:(Int×Int))(h:(XtO a0 a1)):X4W.F a0 a1:=by
 delta X4W.F ln tN wI eS
 simp only[Bs,B0,B1,Yaa,X01]
 have hl:a0.length<=1000000000000:=h
 refine⟨⟨rfl,⟨by omega,by omega,by simp[XdU],by simp,by simp⟩⟩,?_⟩
 rintro⟨put,i,t,v,out⟩ ⟨hp,hI⟩
 simp only at hp hI ⊢
 subst hp
 have q1:=hI.h1
 have q2:=hI.h2
 have q4:=hI.h4
 have q5:=hI.h5
 have hen:=Xx9 hI
 have st:∀{put' o'},i<(a0.length:Int)->_->_->puB a0 (t,v) put' (i+1) t v o':=λh h2 h3=>⟨rfl,Xwb hI h h2 h3⟩
 have dn:∀o p,i<(a0.length:Int)->puN a0 (t,v) p (i+1) t v o<puN a0 (t,v) put i t v out:=λo p h=>by unfold puN puM;omega
 generalize hx:a0.getD i.toNat (0,0)=x at st ⊢
 repeat' (with_reducible (first | (refine And.intro ?_ ?_) | intro _))
 all_goals (try simp (disch:=omega) only[w64,Yab,Yad,Yai]at*)
 all_goals (first
  | omega
  | exact dn _ _ ‹_›
  | (refine st ‹_› (by(try simp only[Yab,Yad,Yai]);(try have:=q5 ‹_›);(first | omega | (refine ⟨by omega,λhh=>?_⟩;first | omega | (have:=q5 hh;omega) | (exfalso;simp_all;done)))) λr=>?_;(try rw[‹put=true›]);(try rw[‹put=false›]);(try simp only[Yam,Ybb,YaW,YaA]);first | rw[XuE (p:=(t,v)) ‹t<=x.1›,Xxv (p:=(t,v)) ‹x.1=t›] | rw[XuE (p:=(t,v)) ‹t<=x.1›,XxF (p:=(t,v)) ‹¬x.1=t›] | rw[pu_no (p:=(t,v)) ‹¬t<=x.1›] | rw[Xxv (p:=(t,v)) ‹x.1=t›] | rw[XxF (p:=(t,v)) ‹¬x.1=t›])
  | exact(hen ‹_›).1 ‹_›
  | exact(hen ‹_›).2 ‹_›
  | skip)
def X4W.e:GE:=mE Xcf func169 [91] [] [] (λi x=>X4W.L x.1 x.2) (λi x=>X4W.F x.1 x.2) λi x h _ _=>X4W.p x.1 x.2 h
def Xaj:Con:=cW (.pair X7m X7m) [.one,.one] X7m [(false,1)] [(0,107)] (λa=>(Xm2 a.1 a.2)) λa=>(Xl4 a.1 a.2)
def X2P.F(a0:U9q)(a1:U9q):Prop:=(List.length ([]:List (Int×Int))+List.length a0<=9223372036854775807/\((List.length ([]:List (Int×Int))+List.length a0)*16<=140737488355328/\(eS [(1,.val false [.lst T0q a1 none])] [(1,.val false [.lst T0q a1 none])]/\((m8I a0 a1 0 (([]:List (Int×Int))++a0))/\∀(y1:(Int×U9q)),(m8I a0 a1 y1.1 y1.2)->(X00 (decide (y1.1<(ln a1))) (0<=y1.1/\(y1.1<(ln a1)/\((XtO y1.2 ((List.getD a1 (tN y1.1) (0,0)).1,(List.getD a1 (tN y1.1) (0,0)).2))/\∀r2,(Eq r2 ((XlB y1.2 ((List.getD a1 (tN y1.1) (0,0)).1,(List.getD a1 (tN y1.1) (0,0)).2)),((),())))->(eS [(1,.val false [.lst T0q a1 none])] [(1,.val false [.lst T0q a1 none])]/\(m8I a0 a1 (wI (y1.1+(1:Int))) r2.1)/\(m8M a0 a1 (wI (y1.1+(1:Int))) r2.1)<(m8M a0 a1 y1.1 y1.2))))) (Eq (y1.2,((),())) ((Xl4 a0 a1),((),()))))))))
def X2P.L(a0:U9q)(a1:U9q):Nat->Option X0e:=XLK [(58,⟨⟨[1],[5,6],[],[kC 5 0 1000643 107]⟩,Xof,λst y=>m8I a0 a1 y.1 y.2,λst y=>m8M a0 a1 y.1 y.2⟩)]
theorem X2P.p(a0:U9q)(a1:U9q)(h:(Xm2 a0 a1)):X2P.F a0 a1:=by
 delta X2P.F ln tN wI eS
 simp only[Bs,B0,B1,Yaa,X01,XlB,XtO]
 obtain⟨hal,hbl⟩:=h
 refine⟨by omega,by omega,⟨by omega,by omega,rfl,by simp⟩,?_⟩
 rintro⟨i,out⟩ hI
 simp only at hI ⊢
 have q1:=hI.h1
 have q2:=hI.h2
 have q4:=hI.h4
 rw[w64 (x:=i+1) (by omega) (by omega)]
 exact⟨λhi=>⟨q1,hi,by omega,Xwn hI hi,by unfold m8M;omega⟩,λhi=>Xxn hI hi⟩
def X2P.e:GE:=mE Xaj func122 [91] [X4W.e] [] (λi x=>X2P.L x.1 x.2) (λi x=>X2P.F x.1 x.2) λi x h _ _=>X2P.p x.1 x.2 h
def XuN(p:Pt)(lo hi:Int):Bool:=decide (p.1<lo)||decide (p.1>=hi)
def XoR(c:Int×Int)(p:Pt):Bool:=XuN p c.1 c.2
def XmQ(l:List Pt)(c:Int×Int):Prop:=l.length<=1099511627776
def XdY(l:List Pt)(c:Int×Int):Int:=if l.findIdx (XoR c)<l.length then((l.findIdx (XoR c):Nat):Int) else -1
def Xws(l:List Pt)(c:Int×Int)(i:Int):Prop:=0<=i/\i<=l.length/\∀j,j<i.toNat->XoR c (l.getD j (0,0))=false
def ixdM(l:List Pt)(c:Int×Int)(i:Int):Nat:=(l.length - i).toNat
theorem Xv9{l:List Pt}{c:Int×Int}{i:Int}(h:Xws l c i)(hi:i<l.length)(hd:XoR c (l.getD i.toNat (0,0))=true):i=XdY l c:=by
 obtain⟨h1,h2,h3⟩:=h
 have e:l.findIdx (XoR c)=i.toNat:=by
  refine(Ycy (by omega)).2 ⟨by rw[X0O (by omega)]at hd;exact hd,λj hj=>?_⟩
  have:=h3 j hj
  rw[X0O (by omega)]at this;exact this
 unfold XdY
 rw[e,Yah (by omega)];omega
theorem XxN{l:List Pt}{c:Int×Int}{i:Int}(h:Xws l c i)(hi:¬i<l.length):-1=XdY l c:=by
 obtain⟨h1,h2,h3⟩:=h
 have e:¬l.findIdx (XoR c)<l.length:=λhlt=>by
  have a:=Ybx (w:=hlt)
  have b:=h3 (l.findIdx (XoR c)) (by omega)
  rw[X0O hlt,a]at b;cases b
 unfold XdY
 rw[Yae e]
def Xni(l:List Pt)(c:Int×Int):List Pt:=l.filter λp=>!XoR c p
structure dlI (l:List Pt) (c:Int×Int) (i j:Int) (s:List Pt):Prop where
 h1:0<=i
 h2:i<j
 h3:j<=l.length
 h4:s.length=l.length
 h5:s.take i.toNat=(l.take j.toNat).filter λp=>!XoR c p
 h6:s.drop j.toNat=l.drop j.toNat
def dlM(l:List Pt)(c:Int×Int)(i j:Int)(s:List Pt):Nat:=(l.length - j).toNat
theorem XvU{l:List Pt}{c:Int×Int}(h:¬XdY l c= -1):0<=XdY l c/\XdY l c<l.length/\dlI l c (XdY l c) (XdY l c+1) l:=by
 unfold XdY at h ⊢
 split at h
 . rename_i hlt
   rw[Yah hlt]
   refine⟨by omega,by omega,⟨by omega,by omega,by omega,rfl,?_,rfl⟩⟩
   rw[tn1 (by omega),YaE,X0J (0,0) hlt,YaY]
   have a:=Ybx (w:=hlt)
   have hk:(l.take (l.findIdx (XoR c))).filter (λp=>!XoR c p)=l.take (l.findIdx (XoR c)):=YbV.2 λx hx=>by
    obtain⟨k,hk,e⟩:=YaQ hx
    rw[Yal]at hk
    have:=YcR (xs:=l) (p:=XoR c) (i:=k) (by omega)
    rw[YcM]at e
    rw[<-e];simpa using this
   rw[hk,X0O hlt]
   simp[a]
 . exact absurd rfl h
theorem XwM{l:List Pt}{c:Int×Int}(h:XdY l c= -1):l=Xni l c:=by
 unfold XdY at h
 split at h
 . omega
 . rename_i hn
   refine(YbV.2 λx hx=>?_).symm
   have:=YcP.1 (Ydu (YcQ (p:=XoR c)) (by omega)) x hx
   simp[this]
theorem Xxm{l:List Pt}{c:Int×Int}{i j:Int}{s:List Pt}(h:dlI l c i j s)(hj:j<l.length):s.getD j.toNat (0,0)=l.getD j.toNat (0,0):=by
 obtain⟨h1,h2,h3,h4,h5,h6⟩:=h
 have a:=X3U (0,0) (l:=s) (i:=j.toNat) (by omega)
 have b:=X3U (0,0) (l:=l) (i:=j.toNat) (by omega)
 rw[a,b]at h6
 exact(List.cons.inj h6).1
theorem XvM{l:List Pt}{c:Int×Int}{i j:Int}{s:List Pt}(h:dlI l c i j s)(hj:j<l.length)(hd:XoR c (l.getD j.toNat (0,0))=false):dlI l c (i+1) (j+1) (s.set i.toNat (l.getD j.toNat (0,0))):=by
 obtain⟨h1,h2,h3,h4,h5,h6⟩:=h
 refine⟨by omega,by omega,by omega,by rw[YaV,h4],?_,?_⟩
 . rw[tn1 h1,tn1 (by omega:0<=j),X0J (0,0) (by omega:j.toNat<l.length),YaY,<-h5]
   have:(s.set i.toNat (l.getD j.toNat (0,0))).take (i.toNat+1)=s.take i.toNat++[l.getD j.toNat (0,0)]:=by
    rw[X0J (0,0) (by rw[YaV];omega),Yck (YaB _)]
    congr 2
    rw[Yap,YbX (by omega)];rfl
   rw[this]
   generalize l.getD j.toNat (0,0)=x at hd ⊢
   simp[hd]
 . rw[tn1 (by omega:0<=j),Ycj (by omega),<-YaI,h6,YaI]
theorem Xv7{l:List Pt}{c:Int×Int}{i j:Int}{s:List Pt}(h:dlI l c i j s)(hj:j<l.length)(hd:XoR c (l.getD j.toNat (0,0))=true):dlI l c i (j+1) s:=by
 obtain⟨h1,h2,h3,h4,h5,h6⟩:=h
 refine⟨by omega,by omega,by omega,h4,?_,?_⟩
 . rw[tn1 (by omega:0<=j),X0J (0,0) (by omega:j.toNat<l.length),YaY,<-h5]
   generalize l.getD j.toNat (0,0)=x at hd ⊢
   simp[hd]
 . rw[tn1 (by omega:0<=j),<-YaI,h6,YaI]
theorem Xx4{l:List Pt}{c:Int×Int}{i j:Int}{s r:List Pt}(h:dlI l c i j s)(hj:¬j<l.length):List.take i.toNat (List.take i.toNat s++r)=Xni l c:=by
 obtain⟨h1,h2,h3,h4,h5,h6⟩:=h
 have e:j.toNat=l.length:=by omega
 rw[e,Yat]at h5
 rw[Ya2 (by rw[Yal];omega),YbR,Nat.min_self,h5];rfl
def X8g(l:List Pt)(lo hi:Int):Prop:=l.length<=1099511627776
theorem Xqt(l:List Pt)(lo hi:Int):Xni l (lo,hi)=X1Z l lo hi:=by
 unfold Xni X1Z
 congr 1
 funext p
 simp only[XoR,XuN]
 rw[YbI];simp
structure s8I (l:List Pt) (lo hi:Int) (i:Int) (out:List Pt):Prop where
 h1:0<=i
 h2:i<=l.length
 h3:out=X1Z (l.take i.toNat) lo hi
 h4:(out.length:Int)<=i
def s8M(l:List Pt)(lo hi:Int)(i:Int)(out:List Pt):Nat:=(l.length - i).toNat
theorem XxC{l:List Pt}{lo hi i:Int}{out:List Pt}(h:s8I l lo hi i out)(hi':i<l.length)(h1:lo<=(l.getD i.toNat (0,0)).1)(h2:(l.getD i.toNat (0,0)).1<hi):s8I l lo hi (i+1) (out++[l.getD i.toNat (0,0)]):=by
 obtain⟨q1,q2,q3,q4⟩:=h
 refine⟨by omega,by omega,?_,by simp;omega⟩
 rw[tn1 q1,X0J (0,0) (by omega),q3]
 unfold X1Z
 rw[YaY]
 generalize l.getD i.toNat (0,0)=x at*
 simp[h1,h2]
theorem XxX{l:List Pt}{lo hi i:Int}{out:List Pt}(h:s8I l lo hi i out)(hi':i<l.length)(h1:¬(lo<=(l.getD i.toNat (0,0)).1/\(l.getD i.toNat (0,0)).1<hi)):s8I l lo hi (i+1) out:=by
 obtain⟨q1,q2,q3,q4⟩:=h
 refine⟨by omega,by omega,?_,by omega⟩
 rw[tn1 q1,X0J (0,0) (by omega),q3]
 unfold X1Z
 rw[YaY]
 generalize l.getD i.toNat (0,0)=x at*
 have:(decide (lo<=x.1)&&decide (x.1<hi))=false:=by
  rw[Ybk];simpa using h1
 simp[this]
theorem XwG{l:List Pt}{lo hi i:Int}{out:List Pt}(h:s8I l lo hi i out)(hi':¬i<l.length):out=X1Z l lo hi:=by
 obtain⟨q1,q2,q3,q4⟩:=h
 rw[q3,show i.toNat=l.length by omega,Yat]
def X97:Con:=cQ (.pair T0q T0q) [.agg 2,.ptr 1,.ptr 1] .bool [(false,1)] (λ_=>True) λa=>(XuN a.1 a.2.1 a.2.2)
def X2C.F(a0:(Int×Int))(a1:Int)(a2:Int):Prop:=(X00 (decide (a0.1<a1)) (Eq (true,((),())) ((XuN a0 a1 a2),((),()))) (Eq ((decide (a0.1>=a2)),((),())) ((XuN a0 a1 a2),((),()))))
theorem X2C.p(a0:(Int×Int))(a1:Int)(a2:Int)(h:True)(hw:Wf X97.A (a0,a1,a2)):X2C.F a0 a1 a2:=by
 unfold X2C.F
 simp only[Bs,B0,B1,Yaa,X01]
 repeat' (with_reducible (first | (refine And.intro ?_ ?_) | intro _))
 all_goals (try simp (disch:=omega) only[w64,wu8,tn0,tn1,tm1,tm2,Yab,Yad,Yai]at*)
 all_goals (try simp (disch:=omega) only[w64,wu8,tn0,tn1,tm1,tm2,Yab,Yad,Yai]at*)
 all_goals (try omega)
 all_goals (try grind[XuN])
def X2C.e:GE:=mE X97 func195 [4] [] [] noL (λi x=>X2C.F x.1 x.2.1 x.2.2) λi x h _ hw=>X2C.p x.1 x.2.1 x.2.2 h hw
def X1b:Con:=cQ (.pair X7m T0q) [.one,.clo 195 [1,1]] (.int .i64) [(false,1)] (λa=>(XmQ a.1 a.2)) λa=>(XdY a.1 a.2)
def X0c.F(a0:U9q)(a1:(Int×Int)):Prop:=(eS [(0,.val false [.lst T0q a0 none]),(1,.fn 195 [] [.ptr [.int .i64 a1.1],.ptr [.int .i64 a1.2]]),(7,.val false [.int .i64 (ln a0)])] [(0,.val false [.lst T0q a0 none]),(1,.fn 195 [] [.ptr [.int .i64 a1.1],.ptr [.int .i64 a1.2]]),(7,.val false [.int .i64 (ln a0)])]/\((Xws a0 a1 0)/\∀(y1:Int),(Xws a0 a1 y1)->(X00 (decide (y1<(ln a0))) (0<=y1/\(y1<(ln a0)/\(True/\∀r2,(Eq r2 ((XuN ((List.getD a0 (tN y1) (0,0)).1,(List.getD a0 (tN y1) (0,0)).2) a1.1 a1.2),((),())))->(X00 r2.1 (Eq (y1,((),())) ((XdY a0 a1),((),()))) (eS [(0,.val false [.lst T0q a0 none]),(1,.fn 195 [] [.ptr [.int .i64 a1.1],.ptr [.int .i64 a1.2]]),(7,.val false [.int .i64 (ln a0)])] [(0,.val false [.lst T0q a0 none]),(1,.fn 195 [] [.ptr [.int .i64 a1.1],.ptr [.int .i64 a1.2]]),(7,.val false [.int .i64 (ln a0)])]/\(Xws a0 a1 (wI (y1+(1:Int))))/\(ixdM a0 a1 (wI (y1+(1:Int))))<(ixdM a0 a1 y1)))))) (Eq ((-1),((),())) ((XdY a0 a1),((),()))))))
def X0c.L(a0:U9q)(a1:(Int×Int)):Nat->Option X0e:=XLK [(26,⟨⟨[0,1,7],[8],[],[]⟩,(.int .i64),λst y=>Xws a0 a1 y,λst y=>ixdM a0 a1 y⟩)]
theorem X0c.p(a0:U9q)(a1:(Int×Int))(h:(XmQ a0 a1)):X0c.F a0 a1:=by
 delta X0c.F ln tN wI eS
 simp only[Bs,B0,B1,Yaa,X01,YaA]
 have hl:a0.length<=1099511627776:=h
 refine⟨⟨by omega,by omega,λj hj=>absurd hj (by simp)⟩,?_⟩
 rintro i hI
 have q1:=hI.1
 have q2:=hI.2.1
 rw[w64 (x:=i+1) (by omega) (by omega)]
 refine⟨λhi=>⟨q1,hi,λhd=>Xv9 hI hi hd,λhd=>⟨⟨by omega,by omega,λj hj=>?_⟩,by unfold ixdM;omega⟩⟩,λhi=>XxN hI hi⟩
 by_cases e:j=i.toNat
 . rw[e];exact hd
 . exact hI.2.2 j (by omega)
def X0c.e:GE:=mE X1b func209 [3] [X2C.e] [] (λi x=>X0c.L x.1 x.2) (λi x=>X0c.F x.1 x.2) λi x h _ _=>X0c.p x.1 x.2 h
def X16:Con:={A:=(.pair X7m T0q),shA:=[.one,.clo 195 [1,1]],ownA:=[(0,107)],R:=X7m,shR:=[(false,1)],fresh:=[(0,107)],pre:=λ_ a=>(XmQ a.1 a.2),f:=some λ_ a=>((Xni a.1 a.2),((),()))}
def X0b.F(a0:U9q)(a1:(Int×Int)):Prop:=((XmQ a0 (a1.1,a1.2))/\∀r1,(Eq r1 ((XdY a0 (a1.1,a1.2)),((),())))->(X00 (r1.1==((-1):Int)) (Eq (a0,((),())) ((Xni a0 a1),((),()))) (eS [(0,.val false [.own T0q 1000003]),(1,.fn 195 [] [.ptr [.int .i64 a1.1],.ptr [.int .i64 a1.2]])] [(0,.val false [.own T0q 1000003]),(1,.fn 195 [] [.ptr [.int .i64 a1.1],.ptr [.int .i64 a1.2]])]/\((dlI a0 a1 r1.1 (wI (r1.1+(1:Int))) a0)/\∀(y2:(Int×(Int×U9q))),(dlI a0 a1 y2.1 y2.2.1 y2.2.2)->(X00 (decide (y2.2.1<(ln y2.2.2))) (0<=y2.2.1/\(y2.2.1<(ln y2.2.2)/\(True/\∀r3,(Eq r3 ((XuN ((List.getD y2.2.2 (tN y2.2.1) (0,0)).1,(List.getD y2.2.2 (tN y2.2.1) (0,0)).2) a1.1 a1.2),((),())))->(X00 (!r3.1) (0<=y2.1/\(y2.1<(ln y2.2.2)/\(eS [(0,.val false [.own T0q 1000003]),(1,.fn 195 [] [.ptr [.int .i64 a1.1],.ptr [.int .i64 a1.2]])] [(0,.val false [.own T0q 1000003]),(1,.fn 195 [] [.ptr [.int .i64 a1.1],.ptr [.int .i64 a1.2]])]/\(dlI a0 a1 (wI (y2.1+(1:Int))) (wI (y2.2.1+(1:Int))) (List.set y2.2.2 (tN y2.1) ((List.getD y2.2.2 (tN y2.2.1) (0,0)).1,(List.getD y2.2.2 (tN y2.2.1) (0,0)).2)))/\(dlM a0 a1 (wI (y2.1+(1:Int))) (wI (y2.2.1+(1:Int))) (List.set y2.2.2 (tN y2.1) ((List.getD y2.2.2 (tN y2.2.1) (0,0)).1,(List.getD y2.2.2 (tN y2.2.1) (0,0)).2)))<(dlM a0 a1 y2.1 y2.2.1 y2.2.2)))) (eS [(0,.val false [.own T0q 1000003]),(1,.fn 195 [] [.ptr [.int .i64 a1.1],.ptr [.int .i64 a1.2]])] [(0,.val false [.own T0q 1000003]),(1,.fn 195 [] [.ptr [.int .i64 a1.1],.ptr [.int .i64 a1.2]])]/\(dlI a0 a1 y2.1 (wI (y2.2.1+(1:Int))) y2.2.2)/\(dlM a0 a1 y2.1 (wI (y2.2.1+(1:Int))) y2.2.2)<(dlM a0 a1 y2.1 y2.2.1 y2.2.2)))))) (0<=y2.1/\(y2.1<=(ln y2.2.2)/\((tN y2.1)<=(List.length y2.2.2)/\((List.length y2.2.2)<=List.length y2.2.2/\(0<=y2.1/\(y2.1<=(ln (List.take (tN y2.1) y2.2.2++(List.replicate ((List.length y2.2.2) - (tN y2.1)) ((0:Int),(0:Int))++List.drop (List.length y2.2.2) y2.2.2)))/\(Eq ((List.take (tN y2.1) (List.take (tN y2.1) y2.2.2++(List.replicate ((List.length y2.2.2) - (tN y2.1)) ((0:Int),(0:Int))++List.drop (List.length y2.2.2) y2.2.2))),((),())) ((Xni a0 a1),((),()))))))))))))))
def X0b.L(a0:U9q)(a1:(Int×Int)):Nat->Option X0e:=XLK [(122,⟨⟨[0,1],[5,6],[],[kC 0 0 1000003 107]⟩,(.pair (.int .i64) Xof),λst y=>dlI a0 a1 y.1 y.2.1 y.2.2,λst y=>dlM a0 a1 y.1 y.2.1 y.2.2⟩)]
theorem X0b.p(a0:U9q)(a1:(Int×Int))(h:(XmQ a0 a1)):X0b.F a0 a1:=by
 delta X0b.F ln tN wI eS
 simp only[Bs,B0,B1,Yaa,X01,YaA,XmQ]
 have hl:a0.length<=1099511627776:=h
 refine⟨hl,λh1=>XwM h1,λh1=>?_⟩
 obtain⟨z1,z2,z3⟩:=XvU h1
 rw[w64 (x:=XdY a0 a1+1) (by omega) (by omega)]
 refine⟨z3,?_⟩
 rintro⟨i,j,s⟩ hI
 simp only at hI ⊢
 have q1:=hI.h1
 have q2:=hI.h2
 have q3:=hI.h3
 have q4:=hI.h4
 refine⟨λhj=>?_,λhj=>?_⟩
 . have hj':j<(a0.length:Int):=by omega
   have hg:=Xxm hI hj'
   rw[w64 (x:=i+1) (by omega) (by omega),w64 (x:=j+1) (by omega) (by omega)]
   simp only[hg]
   refine⟨by omega,by omega,λhd=>⟨by omega,by omega,XvM hI hj' hd,by unfold dlM;omega⟩,λhd=>⟨Xv7 hI hj' hd,by unfold dlM;omega⟩⟩
 . have hj':¬j<(a0.length:Int):=by omega
   have he:=λr=>Xx4 (r:=r) hI hj'
   exact⟨by omega,by omega,by omega,by omega,by omega,by simp only[Yal,YbM,Yar];omega,he _⟩
def X0b.e:GE:=mE X16 func194 [91] [X2C.e,X0c.e] [41] (λi x=>X0b.L x.1 x.2) (λi x=>X0b.F x.1 x.2) λi x h _ _=>X0b.p x.1 x.2 h
def XaU:Con:=cW (.pair X7m T0q) [.one,.one,.one] X7m [(false,1)] [(0,107)] (λa=>(X8g a.1 a.2.1 a.2.2)) λa=>(X1Z a.1 a.2.1 a.2.2)
def X4L.F(a0:U9q)(a1:Int)(a2:Int):Prop:=((XjG a0)/\∀r1,(Eq r1 ((Xqz a0),((),())))->((XmQ r1.1 (a1,a2))/\∀r2,(Eq r2 ((Xni r1.1 (a1,a2)),((),())))->(Eq (r2.1,((),())) ((X1Z a0 a1 a2),((),())))))
theorem X4L.p(a0:U9q)(a1:Int)(a2:Int)(h:(X8g a0 a1 a2)):X4L.F a0 a1 a2:=by
 unfold X4L.F
 simp only[Bs,B0,B1,Yaa,X01,YaA,XmQ,Xqz,XjG]
 have hl:a0.length<=1099511627776:=h
 exact⟨hl,hl,Xqt _ _ _⟩
def X4L.e:GE:=mE XaU func157 [91] [X0f.e,X0b.e,X2C.e] [] noL (λi x=>X4L.F x.1 x.2.1 x.2.2) λi x h _ _=>X4L.p x.1 x.2.1 x.2.2 h
def Xal:Con:=cW (.pair X7m T0q) [.one,.one,.one] X7m [(false,1)] [(0,107)] (λa=>(X8g a.1 a.2.1 a.2.2)) λa=>(X1Z a.1 a.2.1 a.2.2)
def X2r.F(a0:U9q)(a1:Int)(a2:Int):Prop:=(eS [(0,.val false [.lst T0q a0 none]),(1,.val false [.int .i64 a1]),(2,.val false [.int .i64 a2])] [(0,.val false [.lst T0q a0 none]),(1,.val false [.int .i64 a1]),(2,.val false [.int .i64 a2])]/\((s8I a0 a1 a2 0 ([]:List (Int×Int)))/\∀(y1:(Int×U9q)),(s8I a0 a1 a2 y1.1 y1.2)->(X00 (decide (y1.1<(ln a0))) (0<=y1.1/\(y1.1<(ln a0)/\(X00 (decide (((List.getD a0 (tN y1.1) (0,0)).1)>=a1)) (0<=y1.1/\(y1.1<(ln a0)/\(X00 (decide (((List.getD a0 (tN y1.1) (0,0)).1)<a2)) (0<=y1.1/\(y1.1<(ln a0)/\(List.length y1.2+List.length [((List.getD a0 (tN y1.1) (0,0)).1,(List.getD a0 (tN y1.1) (0,0)).2)]<=9223372036854775807/\((List.length y1.2+List.length [((List.getD a0 (tN y1.1) (0,0)).1,(List.getD a0 (tN y1.1) (0,0)).2)])*16<=140737488355328/\(eS [(0,.val false [.lst T0q a0 none]),(1,.val false [.int .i64 a1]),(2,.val false [.int .i64 a2])] [(0,.val false [.lst T0q a0 none]),(1,.val false [.int .i64 a1]),(2,.val false [.int .i64 a2])]/\(s8I a0 a1 a2 (wI (y1.1+(1:Int))) (y1.2++[((List.getD a0 (tN y1.1) (0,0)).1,(List.getD a0 (tN y1.1) (0,0)).2)]))/\(s8M a0 a1 a2 (wI (y1.1+(1:Int))) (y1.2++[((List.getD a0 (tN y1.1) (0,0)).1,(List.getD a0 (tN y1.1) (0,0)).2)]))<(s8M a0 a1 a2 y1.1 y1.2)))))) (eS [(0,.val false [.lst T0q a0 none]),(1,.val false [.int .i64 a1]),(2,.val false [.int .i64 a2])] [(0,.val false [.lst T0q a0 none]),(1,.val false [.int .i64 a1]),(2,.val false [.int .i64 a2])]/\(s8I a0 a1 a2 (wI (y1.1+(1:Int))) y1.2)/\(s8M a0 a1 a2 (wI (y1.1+(1:Int))) y1.2)<(s8M a0 a1 a2 y1.1 y1.2))))) (eS [(0,.val false [.lst T0q a0 none]),(1,.val false [.int .i64 a1]),(2,.val false [.int .i64 a2])] [(0,.val false [.lst T0q a0 none]),(1,.val false [.int .i64 a1]),(2,.val false [.int .i64 a2])]/\(s8I a0 a1 a2 (wI (y1.1+(1:Int))) y1.2)/\(s8M a0 a1 a2 (wI (y1.1+(1:Int))) y1.2)<(s8M a0 a1 a2 y1.1 y1.2))))) (Eq (y1.2,((),())) ((X1Z a0 a1 a2),((),()))))))
def X2r.L(a0:U9q)(a1:Int)(a2:Int):Nat->Option X0e:=XLK [(58,⟨⟨[0,1,2],[7,8],[],[kC 7 0 1000899 107]⟩,Xof,λst y=>s8I a0 a1 a2 y.1 y.2,λst y=>s8M a0 a1 a2 y.1 y.2⟩)]
theorem X2r.p(a0:U9q)(a1:Int)(a2:Int)(h:(X8g a0 a1 a2)):X2r.F a0 a1 a2:=by
 delta X2r.F ln tN wI eS
 simp only[Bs,B0,B1,Yaa,X01,YaA]
 have hl:a0.length<=1099511627776:=h
 refine⟨⟨by omega,by omega,by simp[X1Z],by simp⟩,?_⟩
 rintro⟨i,out⟩ hI
 simp only at hI ⊢
 have q1:=hI.h1
 have q2:=hI.h2
 have q4:=hI.h4
 rw[w64 (x:=i+1) (by omega) (by omega)]
 have dn:∀o,s8M a0 a1 a2 (i+1) o<s8M a0 a1 a2 i out\/¬i<(a0.length:Int):=λo=>by unfold s8M;omega
 refine⟨λhi=>⟨q1,hi,λh1=>⟨q1,hi,λh2=>⟨q1,hi,by omega,by omega,XxC hI hi h1 h2,by unfold s8M;omega⟩,λh2=>⟨XxX hI hi (λh=>h2 h.2),by unfold s8M;omega⟩⟩,λh1=>⟨XxX hI hi (λh=>h1 h.1),by unfold s8M;omega⟩⟩,λhi=>XwG hI hi⟩
def X2r.e:GE:=mE Xal func62 [91] [] [] (λi x=>X2r.L x.1 x.2.1 x.2.2) (λi x=>X2r.F x.1 x.2.1 x.2.2) λi x h _ _=>X2r.p x.1 x.2.1 x.2.2 h
section
open Go Go.Proofs.YtgmafgmjbaoomaaGreat.Bv Go.Proofs Go.RowKit Go.Lib
set_option maxHeartbeats 1000000 in
theorem Xx0(a b:ByteArray)(w:World):Calls Tryz.prog 208 #[.string a,.string b] w λe w'=>e=.returned (.int .i64 (Lib.compareBytes a.data.toList b.data.toList))/\w'=w:=by
 have mixed:Tryz.prog.follows .mixedOrders=true:=rfl
 go_enter func208,(show Tryz.f208.ntmps=8 from rfl)
 go_wp2
 rw[run_callFunc_extern func218 (by kernel_rfl) (by kernel_rfl) (by kernel_rfl) (e:=Extern.BytealgCompare.compare) (by kernel_rfl),Lib.run_compareString]
 simp only[Result.andThen]
 rw[Oper.upon_value]
 go_wp2
 go_ret
 exact⟨rfl,rfl⟩
def Xda(a b:List UInt8):Int:=Lib.compareBytes a b
theorem Xsi:∀a b:List UInt8,Xda a b<0↔Op.bytesLess a b=true
 | [],[]=>by simp[Xda,Lib.compareBytes,Op.bytesLess]
 | [],_::_=>by simp[Xda,Lib.compareBytes,Op.bytesLess]
 | _::_,[]=>by simp[Xda,Lib.compareBytes,Op.bytesLess]
 | x::a,y::b=>by
   have ih:=Xsi a b
   rw[X7q]
   unfold Xda at ih ⊢
   rw[Lib.compareBytes]
   simp only[Ya7,Yac,Yaj]
   by_cases h1:x<y
   . simp[h1]
   . by_cases h2:y<x
     . have:x≠y:=λe=>by subst e;exact absurd h2 h1
       simp[h1,h2,this]
     . have:x=y:=by
        simp only[Yb3]at h1 h2
        exact Ydv.1 (by omega)
       simp[h1,h2,this,ih]
theorem Xsx:∀a b:List UInt8,Xda a b=0↔a=b
 | [],[]=>by simp[Xda,Lib.compareBytes]
 | [],_::_=>by simp[Xda,Lib.compareBytes]
 | _::_,[]=>by simp[Xda,Lib.compareBytes]
 | x::a,y::b=>by
   have ih:=Xsx a b
   unfold Xda at ih ⊢
   rw[Lib.compareBytes]
   by_cases h1:x<y
   . have:x≠y:=λe=>by subst e;simp[Yb3]at h1
     simp[h1,this]
   . by_cases h2:y<x
     . have:x≠y:=λe=>by subst e;simp[Yb3]at h2
       simp[h1,h2,this]
     . have:x=y:=by
        simp only[Yb3]at h1 h2
        exact Ydv.1 (by omega)
       simp[h1,h2,this,ih]
def X5p:Con:=cQ (.pair .str .str) [.one,.one] (.int .i64) [(false,1)] (λ_=>True) λa=>(Xda a.1 a.2)
theorem X4m.ok:X0g Tryz.prog 208 X5p:=by
 intro w M vs cs i x F FI b hM hargs hown hio hiv hnd hnone hpre
 have hbn:b=none:=by cases b with | none=>rfl | some g=>cases hio
 subst hbn
 obtain⟨u0,u1,rfl,rfl⟩:∃u0 u1,vs=[u0,u1]/\cs=[u0,u1]:=by
  cases hargs with
  | cons h0 r0=>cases r0 with
    | cons h1 r1=>cases r1;obtain⟨rfl,_⟩:=h0;obtain⟨rfl,_⟩:=h1;exact⟨_,_,rfl,rfl⟩
 obtain rfl:u0=.string ⟨x.1.toArray⟩:=hown.rd 0 u0 (.str x.1) rfl rfl rfl
 obtain rfl:u1=.string ⟨x.2.toArray⟩:=hown.rd 1 u1 (.str x.2) rfl rfl rfl
 refine(Xx0 ⟨x.1.toArray⟩ ⟨x.2.toArray⟩ w).mono ?_
 rintro e w' ⟨rfl,rfl⟩
 refine⟨[.int .i64 (Xda x.1 x.2)],(Xda x.1 x.2,((),())),[.int .i64 (Xda x.1 x.2)],M,λ_=>[],λ_=>[],λ_=>[],[],rfl,rfl,Mem.le_refl _,hM,Fr.refl _ _,λ_ _ _ h=>h,⟨rfl,Xef.cons rfl rfl Xef.nil⟩,⟨rfl,λj u c _ h1 h2=>?_,λj e hj=>by cases hj⟩,(λg hg=>by cases hg),⟨rfl,λk j e hk=>by cases hk⟩,(λj e hj=>by cases hj),(λj e hj=>by cases hj),Ybf,(λg hg=>by cases hg)⟩
 cases j with
 | zero=>cases h1;cases h2;rfl
 | succ j=>cases h1
def X4m.e:GE:=⟨208,X5p,⟨_,func208,rfl,rfl⟩,X4m.ok⟩
def X72:Con:=cQ (.pair .str .str) [.one,.one] (.int .i64) [(false,1)] (λ_=>True) λa=>(Xda a.1 a.2)
def X2A.F(a0:U6q)(a1:U6q):Prop:=(True/\∀r1,(Eq r1 ((Xda a0 a1),((),())))->(Eq (r1.1,((),())) ((Xda a0 a1),((),()))))
theorem X2A.p(a0:U6q)(a1:U6q)(h:True)(hw:Wf X72.A (a0,a1)):X2A.F a0 a1:=by
 unfold X2A.F
 simp only[Bs,B0,B1,Yaa,X01]
 repeat' (with_reducible (first | (refine And.intro ?_ ?_) | intro _))
 all_goals (try simp (disch:=omega) only[w64,wu8,tn0,tn1,tm1,tm2,Yab,Yad,Yai]at*)
 all_goals (try simp (disch:=omega) only[w64,wu8,tn0,tn1,tm1,tm2,Yab,Yad,Yai]at*)
 all_goals (try omega)
 all_goals (try grind[])
def X2A.e:GE:=mE X72 func193 [3] [X4m.e] [] noL (λi x=>X2A.F x.1 x.2) λi x h _ hw=>X2A.p x.1 x.2 h hw
end
section
open Go Go.Proofs.YtgmafgmjbaoomaaGreat.Bv Go.Proofs Go.Shelf Go.RowKit Go.Lib
def X18:Ren:=⟨λn=>if n=22 then 203 else if n=29 then 214 else if n=30 then 215 else n,λn=>if n=24 then 25 else if n=9 then 109 else n,λn=>n⟩
set_option maxRecDepth 100000 in
theorem X68:Tryz.f203={Body2.n22 X18 with name:=Tryz.f203.name}:=by kernel_rfl
theorem X6f:Xhr Tryz.prog X18 where
 mixed:=rfl
 f22:=⟨Tryz.f203.name,by kernel_rfl,by rw[<-X68];exact func203⟩
 f29:=⟨Tryz.f214,func214,by kernel_rfl,by kernel_rfl,by kernel_rfl,by kernel_rfl⟩
 t0:=by kernel_rfl
 a0:=λw=>by kernel_rfl
 z0:=λw=>by kernel_rfl
 v0:=λw=>by kernel_rfl
 t3:=by kernel_rfl
 a3:=λw=>by kernel_rfl
 z3:=λw=>by kernel_rfl
 v3:=λw=>by kernel_rfl
 t4:=by kernel_rfl
 a4:=λw=>by kernel_rfl
 z4:=λw=>by kernel_rfl
 v4:=λw=>by kernel_rfl
 t24:=by kernel_rfl
 a24:=λw=>by kernel_rfl
 z24:=λw=>by kernel_rfl
 v24:=λw=>by kernel_rfl
 z9:=λw=>by kernel_rfl
 i9:=by
  obtain⟨i,z,h1,h2,h3,h4,h5⟩:=(XlM 109 _ rfl).info
  have h6:z.cells.size=2:=by rw[<-Yas,h5];rfl
  exact⟨i,z,h1,h4,h6.trans h2.symm,h2⟩
theorem X6s:∀i,Tryz.prog.info? (X18.t 9)=some i->i.bytes=40:=λi hi=>by
 obtain⟨i',z,h1,h2,h3,h4,h5⟩:=(XlM 109 _ rfl).info
 have h1':Tryz.prog.info? (X18.t 9)=some i':=h1
 rw[h1']at hi;cases hi;exact h3
def X2b(l:List U3q)(i:Int)(v:List U3q):List U3q:=l.take i.toNat++(v++l.drop i.toNat)
def X45(l:List U3q)(i:Int)(v:List U3q):Prop:=0<=i/\i<=l.length/\0<v.length/\l.length+v.length<=1099511627776
def X4p:Con:={A:=(.pair X5m (.pair (.int .i64) X5m)),shA:=[.one,.one,.one],ownA:=[(0,109),(2,109)],R:=X5m,shR:=[(false,1)],fresh:=[(0,109)],pre:=λ_ a=>(X45 a.1 a.2.1 a.2.2),f:=some λ_ a=>((X2b a.1 a.2.1 a.2.2),((),()))}
theorem X2N.ok:X0g Tryz.prog 203 X4p:=Xr9 (τ:=T5q) X6f rfl X6s (by decide)
def X2N.e:GE:=⟨203,X4p,⟨_,func203,rfl,rfl⟩,X2N.ok⟩
end
def vb(n:Nat):List Int:=if n<128 then [(n:Int)] else(((128+n % 128:Nat):Int))::vb (n / 128)
termination_by n
decreasing_by omega
theorem Xcc{n:Nat}(h:n<128):vb n=[(n:Int)]:=by rw[vb,Yah h]
theorem Xke{n:Nat}(h:¬n<128):vb n=(((128+n % 128:Nat):Int))::vb (n / 128):=by rw[vb,Yae h]
theorem XfO:∀(k n:Nat),n<128 ^ (k+1)->(vb n).length<=k+1
 | 0,n,h=>by rw[Xcc (by simpa using h)];simp
 | k+1,n,h=>by
   by_cases hn:n<128
   . rw[Xcc hn];simp
   . rw[Xke hn]
     have:=XfO k (n / 128) (by rw[Nat.div_lt_iff_lt_mul (by omega)];rw[Yc8]at h;exact h)
     simp;omega
def X3q(l:List Int):List UInt8:=l.map λn=>UInt8.ofNat n.toNat
def X20(n:Int):List UInt8:=if fIn n 0 562949953421311 then X3q (vb n.toNat) else []
theorem X0w(n:Int):(X20 n).length<=7:=by
 unfold X20
 split
 . rename_i h
   simp only[fIn,Yac,Yaj]at h
   simp only[X3q,Ycz]
   exact XfO 6 n.toNat (by omega)
 . simp
def Xuw(n0 n:Int)(out:List Int):Prop:=0<=n/\n<=562949953421311/\out++vb n.toNat=vb n0.toNat
def Xwv(n0 n:Int)(out:List Int):Nat:=n.toNat
def XeL:Con:=cQ (.int .i64) [.one] .str [(false,1)] (λ_=>True) λa=>(X20 a)
def X57.F(a0:Int):Prop:=(True/\∀r1,(Eq r1 ((fIn a0 0 562949953421311),((),())))->(X00 (!r1.1) (Eq ([],((),())) ((X20 a0),((),()))) (eS [] []/\((Xuw a0 a0 ([]:List Int))/\∀(y2:(Int×(List Int))),(Xuw a0 y2.1 y2.2)->(X00 (decide (y2.1>=(128:Int))) ((128:Int)≠0/\(List.length y2.2+List.length [(IntKind.wrap .u8 (wI ((128:Int)+(Int.tmod y2.1 (128:Int)))))]<=9223372036854775807/\((List.length y2.2+List.length [(IntKind.wrap .u8 (wI ((128:Int)+(Int.tmod y2.1 (128:Int)))))])*1<=140737488355328/\((128:Int)≠0/\(eS [] []/\(Xuw a0 (wI (Int.tdiv y2.1 (128:Int))) (y2.2++[(IntKind.wrap .u8 (wI ((128:Int)+(Int.tmod y2.1 (128:Int)))))]))/\(Xwv a0 (wI (Int.tdiv y2.1 (128:Int))) (y2.2++[(IntKind.wrap .u8 (wI ((128:Int)+(Int.tmod y2.1 (128:Int)))))]))<(Xwv a0 y2.1 y2.2)))))) (List.length y2.2+List.length [(IntKind.wrap .u8 y2.1)]<=9223372036854775807/\((List.length y2.2+List.length [(IntKind.wrap .u8 y2.1)])*1<=140737488355328/\(Eq ((List.map (λn=>UInt8.ofNat (Int.toNat n)) (y2.2++[(IntKind.wrap .u8 y2.1)])),((),())) ((X20 a0),((),()))))))))))
def X57.L(a0:Int):Nat->Option X0e:=XLK [(60,⟨⟨[],[0,3],[],[kC 3 0 1000387 5]⟩,(.pair (.int .i64) (.list (.int .u8))),λst y=>Xuw a0 y.1 y.2,λst y=>Xwv a0 y.1 y.2⟩)]
theorem X57.p(a0:Int)(h:True):X57.F a0:=by
 delta X57.F wI eS
 simp only[YbJ,Ybw,Ybn,X01,Yaa,YaP,Ybl,Yaj,Yay,Yad,Yai]
 refine⟨λh1=>by simp[X20,h1],λh1=>?_⟩
 have hin:=h1
 simp only[fIn,Yac,Yaj]at hin
 have hlen:=XfO 6 a0.toNat (by omega)
 refine⟨⟨hin.1,hin.2,rfl⟩,?_⟩
 rintro⟨n,out⟩ ⟨h2,h3,h4⟩
 simp only at h2 h3 h4 ⊢
 have hl:out.length+(vb n.toNat).length=(vb a0.toNat).length:=by rw[<-h4,Yab]
 constructor
 . intro h5
   have e1:Int.tmod n 128=n % 128:=Yax h2
   have e2:Int.tdiv n 128=n / 128:=Ya9 h2
   have e3:IntKind.wrap .i64 (n / 128)=n / 128:=Yau _ (by omega)
   have e4:IntKind.wrap .i64 (128+n % 128)=128+n % 128:=Yau _ (by omega)
   have e4':IntKind.wrap .i64 (n % 128+128)=128+n % 128:=by rw[Int.add_comm];exact e4
   have e5:IntKind.wrap .u8 (128+n % 128)=128+n % 128:=Ycu _ (by omega)
   simp only[e1,e2,e3,e4,e4',e5]
   rw[Xke (by omega)]at hl h4
   refine⟨by omega,by simp at hl;omega,by simp at hl;omega,by omega,⟨by omega,by omega,?_⟩,?_⟩
   . rw[<-h4,Yam]
     have:(n / 128).toNat=n.toNat / 128:=by omega
     rw[this]
     congr 1
     show(128+n % 128)::vb (n.toNat / 128)=_
     congr 1
     omega
   . show(n / 128).toNat<n.toNat
     omega
 . intro h5
   have e5:IntKind.wrap .u8 n=n:=Ycu _ (by omega)
   simp only[e5]
   rw[Xcc (by omega)]at hl h4
   refine⟨by simp at hl;omega,by simp at hl;omega,?_⟩
   simp only[X20,h1,Ycc]
   rw[<-h4]
   have:((n.toNat:Nat):Int)=n:=by omega
   rw[this]
   rfl
def X57.e:GE:=mE XeL func110 [9] [X29.e] [] (λi x=>X57.L x) (λi x=>X57.F x) λi x h _ _=>X57.p x h
def XeY:Con:=cQ (.int .i64) [.one] .str [(false,1)] (λ_=>True) λa=>(X20 a)
def X5l.F(a0:Int):Prop:=(True/\∀r1,(Eq r1 ((fIn a0 0 562949953421311),((),())))->(X00 (!r1.1) (Eq ([],((),())) ((X20 a0),((),()))) (eS [] []/\((Xuw a0 a0 ([]:List Int))/\∀(y2:(Int×(List Int))),(Xuw a0 y2.1 y2.2)->(X00 (decide (y2.1>(127:Int))) ((128:Int)≠0/\(List.length y2.2+List.length [(IntKind.wrap .u8 (wI ((Int.tmod y2.1 (128:Int))+(128:Int))))]<=9223372036854775807/\((List.length y2.2+List.length [(IntKind.wrap .u8 (wI ((Int.tmod y2.1 (128:Int))+(128:Int))))])*1<=140737488355328/\((128:Int)≠0/\(eS [] []/\(Xuw a0 (wI (Int.tdiv y2.1 (128:Int))) (y2.2++[(IntKind.wrap .u8 (wI ((Int.tmod y2.1 (128:Int))+(128:Int))))]))/\(Xwv a0 (wI (Int.tdiv y2.1 (128:Int))) (y2.2++[(IntKind.wrap .u8 (wI ((Int.tmod y2.1 (128:Int))+(128:Int))))]))<(Xwv a0 y2.1 y2.2)))))) (List.length y2.2+List.length [(IntKind.wrap .u8 y2.1)]<=9223372036854775807/\((List.length y2.2+List.length [(IntKind.wrap .u8 y2.1)])*1<=140737488355328/\(Eq ((List.map (λn=>UInt8.ofNat (Int.toNat n)) (y2.2++[(IntKind.wrap .u8 y2.1)])),((),())) ((X20 a0),((),()))))))))))
def X5l.L(a0:Int):Nat->Option X0e:=XLK [(60,⟨⟨[],[0,3],[],[kC 3 0 1000387 5]⟩,(.pair (.int .i64) (.list (.int .u8))),λst y=>Xuw a0 y.1 y.2,λst y=>Xwv a0 y.1 y.2⟩)]
theorem X5l.p(a0:Int)(h:True):X5l.F a0:=by
 delta X5l.F wI eS
 simp only[YbJ,Ybw,Ybn,X01,Yaa,YaP,Ybl,Yaj,Yay,Yad,Yai]
 refine⟨λh1=>by simp[X20,h1],λh1=>?_⟩
 have hin:=h1
 simp only[fIn,Yac,Yaj]at hin
 have hlen:=XfO 6 a0.toNat (by omega)
 refine⟨⟨hin.1,hin.2,rfl⟩,?_⟩
 rintro⟨n,out⟩ ⟨h2,h3,h4⟩
 simp only at h2 h3 h4 ⊢
 have hl:out.length+(vb n.toNat).length=(vb a0.toNat).length:=by rw[<-h4,Yab]
 constructor
 . intro h5
   have e1:Int.tmod n 128=n % 128:=Yax h2
   have e2:Int.tdiv n 128=n / 128:=Ya9 h2
   have e3:IntKind.wrap .i64 (n / 128)=n / 128:=Yau _ (by omega)
   have e4:IntKind.wrap .i64 (128+n % 128)=128+n % 128:=Yau _ (by omega)
   have e4':IntKind.wrap .i64 (n % 128+128)=128+n % 128:=by rw[Int.add_comm];exact e4
   have e5:IntKind.wrap .u8 (128+n % 128)=128+n % 128:=Ycu _ (by omega)
   simp only[e1,e2,e3,e4,e4',e5]
   rw[Xke (by omega)]at hl h4
   refine⟨by omega,by simp at hl;omega,by simp at hl;omega,by omega,⟨by omega,by omega,?_⟩,?_⟩
   . rw[<-h4,Yam]
     have:(n / 128).toNat=n.toNat / 128:=by omega
     rw[this]
     congr 1
     show(128+n % 128)::vb (n.toNat / 128)=_
     congr 1
     omega
   . show(n / 128).toNat<n.toNat
     omega
 . intro h5
   have e5:IntKind.wrap .u8 n=n:=Ycu _ (by omega)
   simp only[e5]
   rw[Xcc (by omega)]at hl h4
   refine⟨by simp at hl;omega,by simp at hl;omega,?_⟩
   simp only[X20,h1,Ycc]
   rw[<-h4]
   have:((n.toNat:Nat):Int)=n:=by omega
   rw[this]
   rfl
def X5l.e:GE:=mE XeY func149 [9] [X0V.e] [] (λi x=>X5l.L x) (λi x=>X5l.F x) λi x h _ _=>X5l.p x h
def fx:Nat->Nat->List Int
 | 0,_=>[]
 | w+1,n=>fx w (n / 256)++[((n % 256:Nat):Int)]
theorem XcI:∀w n,(fx w n).length=w
 | 0,_=>rfl
 | w+1,n=>by simp[fx,XcI w]
def XaO(n w:Int):Prop:=n<=9223372036854775807
def X12(n w:Int):List UInt8:=if fIn w 1 7=true/\0<=n/\n<256 ^ w.toNat then X3q (fx w.toNat n.toNat) else []
theorem X4i(n w:Int):(X12 n w).length<=7:=by
 unfold X12
 split
 . rename_i h
   have:=h.1
   simp only[fIn,Yac,Yaj]at this
   simp only[X3q,Ycz,XcI];omega
 . simp
theorem Xf7(a b:List Int):X3q (a++b)=X3q a++X3q b:=by simp[X3q]
def fxI(n0 w n:Int)(out:List UInt8)(i:Int):Prop:=0<=i/\i<=w/\1<=w/\w<=7/\0<=n0/\n=n0 / 256 ^ i.toNat/\(out.length:Int)=i/\X3q (fx (w - i).toNat n.toNat)++out=X3q (fx w.toNat n0.toNat)
def fxM(n0 w n:Int)(out:List UInt8)(i:Int):Nat:=(w - i).toNat
def fxJ(n0 w i:Int)(out:List Int):Prop:=-1<=i/\i<w/\1<=w/\w<=7/\0<=n0/\n0<256 ^ w.toNat/\out=fx (w - 1 - i).toNat (n0 / 256 ^ (i+1).toNat).toNat
def fxN(n0 w i:Int)(out:List Int):Nat:=(i+1).toNat
theorem Xo2(x:Int):IntKind.wrap .u8 x=x % 256:=IntKind.wrap_u8 x
theorem XwC(i:Nat):(2:Int) ^ (8*i)=256 ^ i:=by rw[Int.pow_mul];rfl
theorem Xbc(i:Nat):(0:Int)<256 ^ i:=Int.pow_pos (by omega)
theorem Xh8(n:Int)(i:Nat):n / 256 ^ (i+1)=n / 256 ^ i / 256:=by
 rw[Int.pow_succ,Int.ediv_ediv_of_nonneg (Int.le_of_lt (Xbc i))]
theorem Xg7{n:Int}(h:0<=n)(i:Nat):0<=n / 256 ^ i:=Int.ediv_nonneg h (Int.le_of_lt (Xbc i))
theorem XsS(w:Nat){n:Int}(h:0<=n):fx (w+1) n.toNat=fx w (n / 256).toNat++[n % 256]:=by
 have e1:n.toNat / 256=(n / 256).toNat:=by omega
 have e2:((n.toNat % 256:Nat):Int)=n % 256:=by omega
 simp only[fx,e1,e2]
theorem Xkg{n w:Int}(h:fIn w 1 7=false):[]=X12 n w:=by simp[X12,h]
theorem XkR{n w:Int}(h:n<0):[]=X12 n w:=by unfold X12;rw[Yae (by omega)]
def XbX:Con:=cQ T0q [.one,.one] .str [(false,1)] (λa=>(XaO a.1 a.2)) λa=>(X12 a.1 a.2)
def X4H.F(a0:Int)(a1:Int):Prop:=(True/\∀r1,(Eq r1 ((fIn a1 1 7),((),())))->(X00 (!r1.1) (Eq ([],((),())) ((X12 a0 a1),((),()))) (X00 (decide (a0<(0:Int))) (Eq ([],((),())) ((X12 a0 a1),((),()))) (eS [(1,.val false [.int .i64 a1])] [(1,.val false [.int .i64 a1])]/\((fxI a0 a1 a0 [] 0)/\∀(y2:(Int×(U6q×Int))),(fxI a0 a1 y2.1 y2.2.1 y2.2.2)->(X00 (decide (y2.2.2<a1)) ((256:Int)≠0/\(List.length (List.map (λn=>UInt8.ofNat (Int.toNat n)) [(IntKind.wrap .u8 (Int.tmod y2.1 (256:Int)))])+List.length y2.2.1<=9223372036854775807/\((256:Int)≠0/\(eS [(1,.val false [.int .i64 a1])] [(1,.val false [.int .i64 a1])]/\(fxI a0 a1 (wI (Int.tdiv y2.1 (256:Int))) ((List.map (λn=>UInt8.ofNat (Int.toNat n)) [(IntKind.wrap .u8 (Int.tmod y2.1 (256:Int)))])++y2.2.1) (wI (y2.2.2+(1:Int))))/\(fxM a0 a1 (wI (Int.tdiv y2.1 (256:Int))) ((List.map (λn=>UInt8.ofNat (Int.toNat n)) [(IntKind.wrap .u8 (Int.tmod y2.1 (256:Int)))])++y2.2.1) (wI (y2.2.2+(1:Int))))<(fxM a0 a1 y2.1 y2.2.1 y2.2.2))))) (X00 (decide (y2.1>(0:Int))) (Eq ([],((),())) ((X12 a0 a1),((),()))) (Eq (y2.2.1,((),())) ((X12 a0 a1),((),()))))))))))
def X4H.L(a0:Int)(a1:Int):Nat->Option X0e:=XLK [(122,⟨⟨[1],[0,5,6],[],[]⟩,(.pair (.int .i64) XqA),λst y=>fxI a0 a1 y.1 y.2.1 y.2.2,λst y=>fxM a0 a1 y.1 y.2.1 y.2.2⟩)]
theorem X4H.p(a0:Int)(a1:Int)(h:(XaO a0 a1)):X4H.F a0 a1:=by
 delta X4H.F wI eS
 have h0:=h
 have hin:fIn a1 1 7=true->1<=a1/\a1<=7:=λh=>by simpa [fIn] using h
 simp only[Bs,B0,B1,Yaa,X01]
 refine⟨λh=>Xkg h,λh=>⟨λh2=>XkR h2,λh2=>?_⟩⟩
 obtain⟨h3,h4⟩:=hin h
 refine⟨⟨by omega,by omega,h3,h4,by omega,by simp,rfl,by simp⟩,?_⟩
 rintro⟨n,out,i⟩ ⟨k1,k2,k3,k4,k5,k6,k7,k8⟩
 simp only at k1 k2 k3 k4 k5 k6 k7 k8 ⊢
 have hn:0<=n:=by rw[k6];exact Xg7 k5 _
 refine⟨λhi=>?_,λhi=>?_⟩
 . have e1:Int.tmod n 256=n % 256:=Yax hn
   have e2:Int.tdiv n 256=n / 256:=Ya9 hn
   have hp:=Xbc i.toNat
   have hle:n<=a0:=by rw[k6];exact Int.ediv_le_self _ k5
   have hp1:a0<=9223372036854775807:=h0
   rw[e1,e2,wu8 (by omega) (by omega),w64 (by omega) (by omega),w64 (x:=i+1) (by omega) (by omega)]
   refine⟨by omega,by simp;omega,by omega,⟨by omega,by omega,k3,k4,k5,?_,by simp;omega,?_⟩,by unfold fxM;omega⟩
   . rw[tn1 k1,Xh8,<-k6]
   . have e3:(a1 - i).toNat=(a1 - (i+1)).toNat+1:=by omega
     rw[e3,XsS _ hn,Xf7,Yam]at k8
     exact k8
 . have e:i=a1:=by omega
   subst e
   rw[Int.sub_self]at k8
   simp only[Int.toNat_zero,fx,X3q,YaG,YaW]at k8
   refine⟨λh5=>?_,λh5=>?_⟩
   . unfold X12
     rw[Yae]
     rintro⟨_,_,h6⟩
     have:n=0:=by rw[k6];exact Int.ediv_eq_zero_of_lt k5 h6
     omega
   . have h8:a0<256 ^ i.toNat:=by
      have h7:n=0:=by omega
      rw[k6]at h7
      have:=Ydb a0 (Xbc i.toNat)
      rw[h7]at this;omega
     unfold X12
     rw[Yah ⟨h,k5,h8⟩]
     exact k8
def X4H.e:GE:=mE XbX func164 [9] [X29.e] [] (λi x=>X4H.L x.1 x.2) (λi x=>X4H.F x.1 x.2) λi x h _ _=>X4H.p x.1 x.2 h
def XbW:Con:=cQ T0q [.one,.one] .str [(false,1)] (λa=>(XaO a.1 a.2)) λa=>(X12 a.1 a.2)
def X4F.F(a0:Int)(a1:Int):Prop:=(True/\∀r1,(Eq r1 ((fIn a1 1 7),((),())))->(X00 (!r1.1) (Eq ([],((),())) ((X12 a0 a1),((),()))) (X00 (decide (a0<(0:Int))) (Eq ([],((),())) ((X12 a0 a1),((),()))) (0<=(wI ((8:Int)*a1))/\(X00 ((Int.fdiv a0 (2 ^ (min (tN (wI ((8:Int)*a1))) (IntKind.bits .i64))))!=(0:Int)) (Eq ([],((),())) ((X12 a0 a1),((),()))) (eS [(0,.val false [.int .i64 a0])] [(0,.val false [.int .i64 a0])]/\((fxJ a0 a1 (wI (a1 - (1:Int))) ([]:List Int))/\∀(y2:(Int×(List Int))),(fxJ a0 a1 y2.1 y2.2)->(X00 (decide (y2.1>=(0:Int))) (0<=(wI ((8:Int)*y2.1))/\(List.length y2.2+List.length [(IntKind.wrap .u8 (Int.fdiv a0 (2 ^ (min (tN (wI ((8:Int)*y2.1))) (IntKind.bits .i64)))))]<=9223372036854775807/\((List.length y2.2+List.length [(IntKind.wrap .u8 (Int.fdiv a0 (2 ^ (min (tN (wI ((8:Int)*y2.1))) (IntKind.bits .i64)))))])*1<=140737488355328/\(eS [(0,.val false [.int .i64 a0])] [(0,.val false [.int .i64 a0])]/\(fxJ a0 a1 (wI (y2.1 - (1:Int))) (y2.2++[(IntKind.wrap .u8 (Int.fdiv a0 (2 ^ (min (tN (wI ((8:Int)*y2.1))) (IntKind.bits .i64)))))]))/\(fxN a0 a1 (wI (y2.1 - (1:Int))) (y2.2++[(IntKind.wrap .u8 (Int.fdiv a0 (2 ^ (min (tN (wI ((8:Int)*y2.1))) (IntKind.bits .i64)))))]))<(fxN a0 a1 y2.1 y2.2))))) (Eq ((List.map (λn=>UInt8.ofNat (Int.toNat n)) y2.2),((),())) ((X12 a0 a1),((),())))))))))))
def X4F.L(a0:Int)(a1:Int):Nat->Option X0e:=XLK [(122,⟨⟨[0],[5,6],[],[kC 5 0 1000643 5]⟩,(.pair (.int .i64) (.list (.int .u8))),λst y=>fxJ a0 a1 y.1 y.2,λst y=>fxN a0 a1 y.1 y.2⟩)]
theorem X4F.p(a0:Int)(a1:Int)(h:(XaO a0 a1)):X4F.F a0 a1:=by
 delta X4F.F tN wI eS
 have h0:=h
 have hin:fIn a1 1 7=true->1<=a1/\a1<=7:=λh=>by simpa [fIn] using h
 simp only[Bs,B0,B1,Yaa,X01]
 refine⟨λh=>Xkg h,λh=>⟨λh2=>XkR h2,λh2=>?_⟩⟩
 obtain⟨h3,h4⟩:=hin h
 have eb:IntKind.bits .i64=64:=rfl
 have e8:∀x:Int,0<=x->x<=7->(2:Int) ^ (min (IntKind.wrap .i64 (8*x)).toNat (IntKind.bits .i64))=256 ^ x.toNat:=λx q1 q2=>by
  rw[w64 (by omega) (by omega),eb,show min (8*x).toNat 64=8*x.toNat by omega,XwC]
 have ef:∀x:Int,0<=x->x<=7->Int.fdiv a0 (2 ^ (min (IntKind.wrap .i64 (8*x)).toNat (IntKind.bits .i64)))=a0 / 256 ^ x.toNat:=λx q1 q2=>by
  rw[e8 x q1 q2];exact Ycw _ (Int.le_of_lt (Xbc _))
 rw[ef a1 (by omega) (by omega)]
 refine⟨by rw[w64 (by omega) (by omega)];omega,λh5=>?_,λh5=>?_⟩
 . unfold X12
   rw[Yae]
   rintro⟨_,_,h6⟩
   exact h5 (Int.ediv_eq_zero_of_lt (by omega) h6)
 have h6:a0<256 ^ a1.toNat:=by
  have:=Ydb a0 (Xbc a1.toNat)
  rw[h5]at this;omega
 refine⟨⟨by rw[w64 (by omega) (by omega)];omega,by rw[w64 (by omega) (by omega)];omega,h3,h4,by omega,h6,by rw[w64 (by omega) (by omega),show(a1 - 1 - (a1 - 1)).toNat=0 by omega];rfl⟩,?_⟩
 rintro⟨i,out⟩ ⟨k1,k2,k3,k4,k5,k6,k7⟩
 simp only at k1 k2 k3 k4 k5 k6 k7 ⊢
 have hl:out.length=(a1 - 1 - i).toNat:=by rw[k7,XcI]
 refine⟨λhi=>?_,λhi=>?_⟩
 . rw[ef i hi (by omega),w64 (x:=8*i) (by omega) (by omega),w64 (x:=i - 1) (by omega) (by omega),Xo2]
   have hd:=Xg7 k5 i.toNat
   refine⟨by omega,by omega,by omega,⟨by omega,by omega,k3,k4,k5,k6,?_⟩,by unfold fxN;omega⟩
   have e1:(a1 - 1 - (i - 1)).toNat=(a1 - 1 - i).toNat+1:=by omega
   have e2:(i - 1+1).toNat=i.toNat:=by omega
   rw[e1,e2,XsS _ hd,k7,tn1 hi,Xh8]
 . have e:i= -1:=by omega
   subst e
   have e1:(a1 - 1 - -1).toNat=a1.toNat:=by omega
   rw[e1]at k7
   unfold X12
   rw[Yah ⟨h,k5,k6⟩,k7]
   show X3q _=_
   rw[show((-1:Int)+1).toNat=0 from rfl,Int.pow_zero,Int.ediv_one]
def X4F.e:GE:=mE XbW func188 [9] [X0V.e] [] (λi x=>X4F.L x.1 x.2) (λi x=>X4F.F x.1 x.2) λi x h _ _=>X4F.p x.1 x.2 h
def Xgg(c:Nat):Nat:=if c % 2=1 then(c / 2) ^^^ 2197175160 else c / 2
def XdA:Nat->Nat->Nat
 | 0,c=>c
 | k+1,c=>Xgg (XdA k c)
def Xl8(c:Nat)(b:UInt8):Nat:=XdA 8 (c ^^^ b.toNat)
def XqC(s:List UInt8):Nat:=s.foldl Xl8 4294967295
def XjE(s:List UInt8):Int:=4294967295 - (XqC s:Int)
theorem Xil{a b:Nat}(h:a<4294967296)(h':b<4294967296):a ^^^ b<4294967296:=Nat.xor_lt_two_pow (n:=32) h h'
theorem XqS{c:Nat}(h:c<4294967296):Xgg c<4294967296:=by
 unfold Xgg;split
 . exact Xil (by omega) (by omega)
 . omega
theorem XeB{c:Nat}(h:c<4294967296):∀k,XdA k c<4294967296
 | 0=>h
 | k+1=>XqS (XeB h k)
theorem Xqc{c:Nat}(b:UInt8)(h:c<4294967296):Xl8 c b<4294967296:=XeB (Xil h (by have:=b.toNat_lt;omega)) 8
theorem Xpd:∀(s:List UInt8) (c:Nat),c<4294967296->s.foldl Xl8 c<4294967296
 | [],_,h=>h
 | b::s,c,h=>Xpd s _ (Xqc b h)
theorem Xj1(s:List UInt8):XqC s<4294967296:=Xpd s _ (by omega)
theorem Xic(s:List UInt8):0<=XjE s/\XjE s<=4294967295:=by have:=Xj1 s;unfold XjE;omega
theorem Xma(s:List UInt8)(i:Nat)(h:i<s.length):XqC (s.take (i+1))=Xl8 (XqC (s.take i)) (s.getD i 0):=by
 rw[X0J 0 h];simp[XqC]
theorem bv64(x:Nat)(h:x<4294967296):(BitVec.ofInt 64 (x:Int)).toNat=x:=by
 rw[BitVec.toNat_ofInt];omega
theorem Xwr(x:Nat)(h:x<4294967296):(BitVec.ofInt 32 (x:Int)).toNat=x:=by
 rw[BitVec.toNat_ofInt];omega
theorem Xxy{x y:Nat}(hx:x<4294967296)(hy:y<4294967296):IntKind.wrap .i64 ((BitVec.ofInt (IntKind.bits .i64) (x:Int) ^^^ BitVec.ofInt (IntKind.bits .i64) (y:Int)).toNat:Int)=((x ^^^ y:Nat):Int):=by
 show IntKind.wrap .i64 ((BitVec.ofInt 64 (x:Int) ^^^ BitVec.ofInt 64 (y:Int)).toNat:Int)=_
 have:=Xil hx hy
 rw[YcT,bv64 x hx,bv64 y hy,w64 (by omega) (by omega)]
theorem XwR{x y:Nat}(hx:x<4294967296)(hy:y<4294967296):IntKind.wrap .u32 ((BitVec.ofInt (IntKind.bits .u32) (x:Int) ^^^ BitVec.ofInt (IntKind.bits .u32) (y:Int)).toNat:Int)=((x ^^^ y:Nat):Int):=by
 show IntKind.wrap .u32 ((BitVec.ofInt 32 (x:Int) ^^^ BitVec.ofInt 32 (y:Int)).toNat:Int)=_
 have:=Xil hx hy
 rw[YcT,Xwr x hx,Xwr y hy,YcK _ (by omega)]
theorem and32{x:Nat}(hx:x<4294967296):IntKind.wrap .u32 ((BitVec.ofInt (IntKind.bits .u32) (x:Int)&&&BitVec.ofInt (IntKind.bits .u32) 1).toNat:Int)=((x % 2:Nat):Int):=by
 show IntKind.wrap .u32 ((BitVec.ofInt 32 (x:Int)&&&BitVec.ofInt 32 ((1:Nat):Int)).toNat:Int)=_
 rw[BitVec.toNat_and,Xwr x hx,Xwr 1 (by omega),Nat.and_one_is_mod,YcK _ (by omega)]
theorem not32{x:Nat}(hx:x<4294967296):IntKind.wrap .u32 ((BitVec.ofInt (IntKind.bits .u32) (if IntKind.signed .u32 then -1 else IntKind.max .u32) ^^^ BitVec.ofInt (IntKind.bits .u32) (x:Int)).toNat:Int)=4294967295 - (x:Int):=by
 show IntKind.wrap .u32 ((BitVec.ofInt 32 ((4294967295:Nat):Int) ^^^ BitVec.ofInt 32 (x:Int)).toNat:Int)=_
 have h2:=Xil (a:=4294967295) (b:=x) (by omega) hx
 have h3:4294967295 ^^^ x=4294967295 - x:=by
  have h4:(~~~ (BitVec.ofNat 32 x)).toNat=(BitVec.ofNat 32 4294967295 ^^^ BitVec.ofNat 32 x).toNat:=by
   congr 1
  rw[BitVec.toNat_not,YcT,YcC,YcC,Ycg (by omega),Ycg (by omega)]at h4
  omega
 rw[YcT,Xwr x hx,Xwr _ (by omega),h3,YcK _ (by omega)]
 omega
def XqE(s:List UInt8):Prop:=s.length<=maxLen
def crI(s:List UInt8)(c i:Int):Prop:=0<=i/\i<=s.length/\c=((XqC (s.take i.toNat):Nat):Int)
def crM(s:List UInt8)(c i:Int):Nat:=(s.length - i).toNat
def crJ(s:List UInt8)(i c k:Int):Prop:=0<=i/\i<s.length/\0<=k/\k<=8/\c=((XdA k.toNat (XqC (s.take i.toNat) ^^^ (s.getD i.toNat 0).toNat):Nat):Int)
def crN(s:List UInt8)(i c k:Int):Nat:=(8 - k).toNat
def XeG:Con:=cQ .str [.one] (.int .i64) [(false,1)] (λa=>(XqE a)) λa=>(XjE a)
def X6l.F(a0:U6q):Prop:=(eS [(0,.val false [.str a0])] [(0,.val false [.str a0])]/\((crI a0 4294967295 0)/\∀(y1:(Int×Int)),(crI a0 y1.1 y1.2)->(X00 (decide (y1.2<(ln a0))) (0<=y1.2/\(y1.2<(ln a0)/\(eS [(0,.val false [.str a0]),(4,.val false [.int .i64 y1.2])] [(0,.val false [.str a0]),(4,.val false [.int .i64 y1.2])]/\((crJ a0 y1.2 (IntKind.wrap .i64 (BitVec.toNat (BitVec.ofInt (IntKind.bits .i64) y1.1 ^^^ BitVec.ofInt (IntKind.bits .i64) (wI ((UInt8.toNat (List.getD a0 (tN y1.2) 0):Nat):Int))))) 0)/\∀(y2:(Int×Int)),(crJ a0 y1.2 y2.1 y2.2)->(X00 (decide (y2.2<(8:Int))) ((2:Int)≠0/\((2:Int)≠0/\(X00 ((Int.tmod y2.1 (2:Int))==(1:Int)) (eS [(0,.val false [.str a0]),(4,.val false [.int .i64 y1.2])] [(0,.val false [.str a0]),(4,.val false [.int .i64 y1.2])]/\(crJ a0 y1.2 (IntKind.wrap .i64 (BitVec.toNat (BitVec.ofInt (IntKind.bits .i64) (wI (Int.tdiv y2.1 (2:Int))) ^^^ BitVec.ofInt (IntKind.bits .i64) (2197175160:Int)))) (wI (y2.2+(1:Int))))/\(crN a0 y1.2 (IntKind.wrap .i64 (BitVec.toNat (BitVec.ofInt (IntKind.bits .i64) (wI (Int.tdiv y2.1 (2:Int))) ^^^ BitVec.ofInt (IntKind.bits .i64) (2197175160:Int)))) (wI (y2.2+(1:Int))))<(crN a0 y1.2 y2.1 y2.2)) (eS [(0,.val false [.str a0]),(4,.val false [.int .i64 y1.2])] [(0,.val false [.str a0]),(4,.val false [.int .i64 y1.2])]/\(crJ a0 y1.2 (wI (Int.tdiv y2.1 (2:Int))) (wI (y2.2+(1:Int))))/\(crN a0 y1.2 (wI (Int.tdiv y2.1 (2:Int))) (wI (y2.2+(1:Int))))<(crN a0 y1.2 y2.1 y2.2))))) (eS [(0,.val false [.str a0])] [(0,.val false [.str a0])]/\(crI a0 y2.1 (wI (y1.2+(1:Int))))/\(crM a0 y2.1 (wI (y1.2+(1:Int))))<(crM a0 y1.1 y1.2))))))) (Eq ((wI ((4294967295:Int) - y1.1)),((),())) ((XjE a0),((),()))))))
def X6l.L(a0:U6q):Nat->Option X0e:=XLK [(58,⟨⟨[0],[3,4],[],[]⟩,T0q,λst y=>crI a0 y.1 y.2,λst y=>crM a0 y.1 y.2⟩),(7462,⟨⟨[0,4],[3,5],[],[]⟩,T0q,λst y=>crJ a0 (XuG (Xho st 4 0)) y.1 y.2,λst y=>crN a0 (XuG (Xho st 4 0)) y.1 y.2⟩)]
theorem X6l.p(a0:U6q)(h:(XqE a0)):X6l.F a0:=by
 delta X6l.F ln tN wI eS
 simp only[Bs,B0,B1,Yaa,X01]
 have hl:a0.length<=maxLen:=h
 unfold maxLen at hl
 refine⟨⟨by omega,by omega,rfl⟩,?_⟩
 rintro⟨c,i⟩ ⟨h1,h2,h3⟩
 simp only at h1 h2 h3 ⊢
 have hc:=Xj1 (a0.take i.toNat)
 refine⟨λhi=>?_,λhi=>?_⟩
 . have hb:=(a0.getD i.toNat 0).toNat_lt
   have hx:=Xil hc (show(a0.getD i.toNat 0).toNat<4294967296 by omega)
   rw[w64 (x:=((a0.getD i.toNat 0).toNat:Int)) (by omega) (by omega),h3,Xxy hc (by omega)]
   refine⟨h1,hi,⟨h1,hi,by omega,by omega,rfl⟩,?_⟩
   rintro⟨c2,k⟩ ⟨q1,q2,q3,q4,q5⟩
   simp only at q1 q2 q3 q4 q5 ⊢
   have hcb:=XeB hx k.toNat
   refine⟨λhk=>?_,λhk=>?_⟩
   . have e1:IntKind.wrap .i64 (k+1)=k+1:=w64 (by omega) (by omega)
     have step:crJ a0 i ((Xgg (XdA k.toNat (XqC (a0.take i.toNat) ^^^ (a0.getD i.toNat 0).toNat)):Nat):Int) (k+1):=⟨h1,hi,by omega,by omega,by rw[tn1 q3];rfl⟩
     have e2:Int.tmod c2 2=c2 % 2:=Yax (by omega)
     have e3:Int.tdiv c2 2=c2 / 2:=Ya9 (by omega)
     rw[e1,e2,e3,w64 (x:=c2 / 2) (by omega) (by omega),show c2 / 2=((XdA k.toNat (XqC (a0.take i.toNat) ^^^ (a0.getD i.toNat 0).toNat) / 2:Nat):Int) by omega]
     refine⟨by omega,by omega,λho=>?_,λho=>?_⟩
     . rw[show(2197175160:Int)=((2197175160:Nat):Int) from rfl,Xxy (by omega) (by omega)]
       unfold Xgg at step
       rw[Yah (by omega)]at step
       exact⟨step,by unfold crN;omega⟩
     . unfold Xgg at step
       rw[Yae (by omega)]at step
       exact⟨step,by unfold crN;omega⟩
   . have e:k=8:=by omega
     subst e
     rw[w64 (x:=i+1) (by omega) (by omega)]
     refine⟨⟨by omega,by omega,?_⟩,by unfold crM;omega⟩
     rw[q5,tn1 h1,Xma a0 i.toNat (by omega)]
     rfl
 . have e:i.toNat=a0.length:=by omega
   rw[e,Yat]at h3
   have hc2:=Xj1 a0
   rw[h3]
   rw[w64 (by omega) (by omega)]
   rfl
def X6l.e:GE:=mE XeG func165 [3] [] [] (λi x=>X6l.L x) (λi x=>X6l.F x) λi x h _ _=>X6l.p x h
def XeF:Con:=cQ .str [.one] (.int .i64) [(false,1)] (λa=>(XqE a)) λa=>(XjE a)
def X6m.F(a0:U6q):Prop:=(eS [(0,.val false [.str a0]),(7,.val false [.int .i64 (ln a0)])] [(0,.val false [.str a0]),(7,.val false [.int .i64 (ln a0)])]/\((crI a0 4294967295 0)/\∀(y1:(Int×Int)),(crI a0 y1.1 y1.2)->(X00 (decide (y1.2<(ln a0))) (0<=y1.2/\(y1.2<(ln a0)/\(eS [(0,.val false [.str a0]),(7,.val false [.int .i64 (ln a0)]),(8,.val false [.int .i64 y1.2])] [(0,.val false [.str a0]),(7,.val false [.int .i64 (ln a0)]),(8,.val false [.int .i64 y1.2])]/\((crJ a0 y1.2 (IntKind.wrap .u32 (BitVec.toNat (BitVec.ofInt (IntKind.bits .u32) y1.1 ^^^ BitVec.ofInt (IntKind.bits .u32) (IntKind.wrap .u32 ((UInt8.toNat (List.getD a0 (tN y1.2) 0):Nat):Int))))) 0)/\∀(y2:(Int×Int)),(crJ a0 y1.2 y2.1 y2.2)->(X00 (decide (y2.2<(8:Int))) (0<=(1:Int)/\(X00 ((IntKind.wrap .u32 (BitVec.toNat (BitVec.ofInt (IntKind.bits .u32) y2.1&&&BitVec.ofInt (IntKind.bits .u32) (1:Int))))==(1:Int)) (eS [(0,.val false [.str a0]),(7,.val false [.int .i64 (ln a0)]),(8,.val false [.int .i64 y1.2])] [(0,.val false [.str a0]),(7,.val false [.int .i64 (ln a0)]),(8,.val false [.int .i64 y1.2])]/\(crJ a0 y1.2 (IntKind.wrap .u32 (BitVec.toNat (BitVec.ofInt (IntKind.bits .u32) (Int.fdiv y2.1 (2 ^ (min (tN (1:Int)) (IntKind.bits .u32)))) ^^^ BitVec.ofInt (IntKind.bits .u32) (2197175160:Int)))) (wI (y2.2+(1:Int))))/\(crN a0 y1.2 (IntKind.wrap .u32 (BitVec.toNat (BitVec.ofInt (IntKind.bits .u32) (Int.fdiv y2.1 (2 ^ (min (tN (1:Int)) (IntKind.bits .u32)))) ^^^ BitVec.ofInt (IntKind.bits .u32) (2197175160:Int)))) (wI (y2.2+(1:Int))))<(crN a0 y1.2 y2.1 y2.2)) (eS [(0,.val false [.str a0]),(7,.val false [.int .i64 (ln a0)]),(8,.val false [.int .i64 y1.2])] [(0,.val false [.str a0]),(7,.val false [.int .i64 (ln a0)]),(8,.val false [.int .i64 y1.2])]/\(crJ a0 y1.2 (Int.fdiv y2.1 (2 ^ (min (tN (1:Int)) (IntKind.bits .u32)))) (wI (y2.2+(1:Int))))/\(crN a0 y1.2 (Int.fdiv y2.1 (2 ^ (min (tN (1:Int)) (IntKind.bits .u32)))) (wI (y2.2+(1:Int))))<(crN a0 y1.2 y2.1 y2.2)))) (eS [(0,.val false [.str a0]),(7,.val false [.int .i64 (ln a0)])] [(0,.val false [.str a0]),(7,.val false [.int .i64 (ln a0)])]/\(crI a0 y2.1 (wI (y1.2+(1:Int))))/\(crM a0 y2.1 (wI (y1.2+(1:Int))))<(crM a0 y1.1 y1.2))))))) (Eq ((wI (IntKind.wrap .u32 (BitVec.toNat (BitVec.ofInt (IntKind.bits .u32) (if IntKind.signed .u32 then -1 else IntKind.max .u32) ^^^ BitVec.ofInt (IntKind.bits .u32) y1.1)))),((),())) ((XjE a0),((),()))))))
def X6m.L(a0:U6q):Nat->Option X0e:=XLK [(58,⟨⟨[0,7],[3,8],[],[]⟩,(.pair (.int .u32) (.int .i64)),λst y=>crI a0 y.1 y.2,λst y=>crM a0 y.1 y.2⟩),(29902,⟨⟨[0,7,8],[3,17],[],[]⟩,(.pair (.int .u32) (.int .i64)),λst y=>crJ a0 (XuG (Xho st 8 0)) y.1 y.2,λst y=>crN a0 (XuG (Xho st 8 0)) y.1 y.2⟩)]
theorem X6m.p(a0:U6q)(h:(XqE a0)):X6m.F a0:=by
 delta X6m.F ln tN wI eS
 simp only[Bs,B0,B1,Yaa,X01]
 have hl:a0.length<=maxLen:=h
 unfold maxLen at hl
 refine⟨⟨by omega,by omega,rfl⟩,?_⟩
 rintro⟨c,i⟩ ⟨h1,h2,h3⟩
 simp only at h1 h2 h3 ⊢
 have hc:=Xj1 (a0.take i.toNat)
 refine⟨λhi=>?_,λhi=>?_⟩
 . have hb:=(a0.getD i.toNat 0).toNat_lt
   have hx:=Xil hc (show(a0.getD i.toNat 0).toNat<4294967296 by omega)
   rw[YcK ((a0.getD i.toNat 0).toNat:Int) (by omega),h3,XwR hc (by omega)]
   refine⟨h1,hi,⟨h1,hi,by omega,by omega,rfl⟩,?_⟩
   rintro⟨c2,k⟩ ⟨q1,q2,q3,q4,q5⟩
   simp only at q1 q2 q3 q4 q5 ⊢
   have hcb:=XeB hx k.toNat
   refine⟨λhk=>?_,λhk=>?_⟩
   . have e1:IntKind.wrap .i64 (k+1)=k+1:=w64 (by omega) (by omega)
     have step:crJ a0 i ((Xgg (XdA k.toNat (XqC (a0.take i.toNat) ^^^ (a0.getD i.toNat 0).toNat)):Nat):Int) (k+1):=⟨h1,hi,by omega,by omega,by rw[tn1 q3];rfl⟩
     have eb:min (Int.toNat 1) (IntKind.bits .u32)=1:=by decide
     have e3:Int.fdiv c2 (2 ^ 1)=c2 / 2:=Ycw _ (by omega)
     rw[e1,eb,e3,q5,and32 hcb,show((XdA k.toNat (XqC (a0.take i.toNat) ^^^ (a0.getD i.toNat 0).toNat):Nat):Int) / 2=((XdA k.toNat (XqC (a0.take i.toNat) ^^^ (a0.getD i.toNat 0).toNat) / 2:Nat):Int) by omega]
     refine⟨by omega,λho=>?_,λho=>?_⟩
     . rw[show(2197175160:Int)=((2197175160:Nat):Int) from rfl,XwR (by omega) (by omega)]
       unfold Xgg at step
       rw[Yah (by omega)]at step
       exact⟨step,by unfold crN;omega⟩
     . unfold Xgg at step
       rw[Yae (by omega)]at step
       exact⟨step,by unfold crN;omega⟩
   . have e:k=8:=by omega
     subst e
     rw[w64 (x:=i+1) (by omega) (by omega)]
     refine⟨⟨by omega,by omega,?_⟩,by unfold crM;omega⟩
     rw[q5,tn1 h1,Xma a0 i.toNat (by omega)]
     rfl
 . have e:i.toNat=a0.length:=by omega
   rw[e,Yat]at h3
   have hc2:=Xj1 a0
   rw[h3]
   rw[not32 hc2,w64 (by omega) (by omega)]
   rfl
def X6m.e:GE:=mE XeF func189 [3] [] [] (λi x=>X6m.L x) (λi x=>X6m.F x) λi x h _ _=>X6m.p x h
def X42(b:List UInt8):List UInt8:=if fIn b.length 1 2000=true then X12 b.length 4++X12 (XjE (X12 b.length 4++b)) 4++b else []
theorem Xls(b:List UInt8):(X42 b).length<=2014:=by
 unfold X42
 split
 . rename_i h
   simp only[fIn,Yac,Yaj]at h
   have h1:=X4i b.length 4
   have h2:=X4i (XjE (X12 b.length 4++b)) 4
   simp only[Yab];omega
 . simp
theorem X0N{a l h:Int}:fIn a l h=true↔l<=a/\a<=h:=by simp[fIn]
theorem Xie{a l h:Int}:fIn a l h=false↔¬(l<=a/\a<=h):=by rw[<-X0N];simp
def Xc9:Con:=cQ .str [.one] .str [(false,1)] (λ_=>True) λa=>(X42 a)
def X5d.F(a0:U6q):Prop:=(X00 ((ln a0)==(0:Int)) (Eq ([],((),())) ((X42 a0),((),()))) (X00 (decide ((ln a0)>(2000:Int))) (Eq ([],((),())) ((X42 a0),((),()))) ((XaO (ln a0) 4)/\∀r1,(Eq r1 ((X12 (ln a0) 4),((),())))->(List.length r1.1+List.length a0<=9223372036854775807/\((XqE (r1.1++a0))/\∀r2,(Eq r2 ((XjE (r1.1++a0)),((),())))->((XaO r2.1 4)/\∀r3,(Eq r3 ((X12 r2.1 4),((),())))->(List.length r1.1+List.length r3.1<=9223372036854775807/\(List.length (r1.1++r3.1)+List.length a0<=9223372036854775807/\(Eq (((r1.1++r3.1)++a0),((),())) ((X42 a0),((),())))))))))))
theorem X5d.p(a0:U6q)(h:True)(hw:Wf Xc9.A a0):X5d.F a0:=by
 delta X5d.F ln
 have h1:=X4i a0.length 4
 have h2:=X4i (XjE (X12 a0.length 4++a0)) 4
 have h3:=Xic (X12 a0.length 4++a0)
 simp only[Bs,B0,B1,Yaa,X01,XaO,XqE,maxLen]
 repeat' (with_reducible (first | (refine And.intro ?_ ?_) | intro _))
 all_goals (try simp (disch:=omega) only[w64,wu8,tn0,tn1,tm1,tm2,Yab,Yad,Yai]at*)
 all_goals (try simp (disch:=omega) only[w64,wu8,tn0,tn1,tm1,tm2,Yab,Yad,Yai]at*)
 all_goals (try omega)
 all_goals (try grind[X42,X0N])
 all_goals (unfold X42;rw[Yah (X0N.2 (by omega))])
def X5d.e:GE:=mE Xc9 func118 [9] [X4H.e,X6l.e] [] noL (λi x=>X5d.F x) λi x h _ hw=>X5d.p x h hw
def XbF:Con:=cQ .str [.one] .str [(false,1)] (λ_=>True) λa=>(X42 a)
def X5c.F(a0:U6q):Prop:=(True/\∀r1,(Eq r1 ((fIn (ln a0) 1 2000),((),())))->(X00 (!r1.1) (Eq ([],((),())) ((X42 a0),((),()))) ((XaO (ln a0) 4)/\∀r2,(Eq r2 ((X12 (ln a0) 4),((),())))->(List.length r2.1+List.length a0<=9223372036854775807/\((XqE (r2.1++a0))/\∀r3,(Eq r3 ((XjE (r2.1++a0)),((),())))->((XaO r3.1 4)/\∀r4,(Eq r4 ((X12 r3.1 4),((),())))->(List.length r2.1+List.length r4.1<=9223372036854775807/\(List.length (r2.1++r4.1)+List.length a0<=9223372036854775807/\(Eq (((r2.1++r4.1)++a0),((),())) ((X42 a0),((),())))))))))))
theorem X5c.p(a0:U6q)(h:True)(hw:Wf XbF.A a0):X5c.F a0:=by
 delta X5c.F ln
 have h1:=X4i a0.length 4
 have h2:=X4i (XjE (X12 a0.length 4++a0)) 4
 have h3:=Xic (X12 a0.length 4++a0)
 simp only[Bs,B0,B1,Yaa,X01,XaO,XqE,maxLen,X0N,Xie]
 repeat' (with_reducible (first | (refine And.intro ?_ ?_) | intro _))
 all_goals (try simp (disch:=omega) only[w64,wu8,tn0,tn1,tm1,tm2,Yab,Yad,Yai]at*)
 all_goals (try simp (disch:=omega) only[w64,wu8,tn0,tn1,tm1,tm2,Yab,Yad,Yai]at*)
 all_goals (try omega)
 all_goals (try grind[X42,X0N])
 all_goals (unfold X42;rw[Yah (X0N.2 (by omega))])
def X5c.e:GE:=mE XbF func153 [9] [X0V.e,X4F.e,X6m.e] [] noL (λi x=>X5c.F x) λi x h _ hw=>X5c.p x h hw
def Xgw(n:Int):Int:=if fIn n (-140737488355328) 140737488355328 then(if n<0 then -2*n - 1 else 2*n) else -1
def Xn6(n:Int):List UInt8:=X20 (Xgw n)
def XdP(l:List Int)(i:Nat):Bool:=fIn (l.getD i 0) 0 1099511627776&&(decide (i=0)||decide (l.getD (i - 1) 0<l.getD i 0))
def Xcl(l:List Int):Bool:=fIn l.length 1 60&&Xha (XdP l) l.length
def Xb7(l:List Int)(i:Nat):Bool:=fIn (l.getD i 0) (-1099511627776) 1099511627776
def XcJ(l:List Int):Bool:=fIn l.length 1 60&&Xha (Xb7 l) l.length
theorem XhM{p:Nat->Bool}{n:Nat}:Xha p n=true↔∀j,j<n->p j=true:=by simp[Xha]
theorem X69{l:List Int}:Xcl l=true↔(1<=l.length/\l.length<=60)/\∀j,j<l.length->XdP l j=true:=by
 simp only[Xcl,Yac,X0N,XhM]
 exact⟨λh=>⟨by omega,h.2⟩,λh=>⟨by omega,h.2⟩⟩
theorem X6U{l:List Int}:XcJ l=true↔(1<=l.length/\l.length<=60)/\∀j,j<l.length->Xb7 l j=true:=by
 simp only[XcJ,Yac,X0N,XhM]
 exact⟨λh=>⟨by omega,h.2⟩,λh=>⟨by omega,h.2⟩⟩
theorem Xbb{l:List Int}{i:Nat}:XdP l i=true↔(0<=l.getD i 0/\l.getD i 0<=1099511627776)/\(i=0\/l.getD (i - 1) 0<l.getD i 0):=by
 simp[XdP,fIn]
theorem XfM{l:List Int}{i:Nat}:Xb7 l i=true↔-1099511627776<=l.getD i 0/\l.getD i 0<=1099511627776:=by simp[Xb7,fIn]
def scI(p:List Int->Nat->Bool)(l:List Int)(i:Int):Prop:=0<=i/\i<=l.length/\l.length<=60/\1<=l.length/\∀j,j<i.toNat->p l j=true
def scM(l:List Int)(i:Int):Nat:=(l.length - i).toNat
def Xfl(l:List Int)(i:Nat):List UInt8:=if i=0 then X20 (l.getD 0 0) else if i=1 then X20 (l.getD 1 0 - l.getD 0 0) else X20 (Xgw (l.getD i 0 - l.getD (i - 1) 0 - (l.getD (i - 1) 0 - l.getD (i - 2) 0)))
def tmS(l:List Int):Nat->List UInt8
 | 0=>[]
 | i+1=>tmS l i++Xfl l i
theorem Xp8(l:List Int)(i:Nat):tmS l (i+1)=tmS l i++Xfl l i:=rfl
def X0t(l:List Int):List UInt8:=if Xcl l then tmS l l.length else []
def Xjl(l:List Int)(i:Nat):List UInt8:=X20 (Xgw (l.getD i 0 - (if i=0 then 0 else l.getD (i - 1) 0)))
def vlS(l:List Int):Nat->List UInt8
 | 0=>[]
 | i+1=>vlS l i++Xjl l i
theorem Xpo(l:List Int)(i:Nat):vlS l (i+1)=vlS l i++Xjl l i:=rfl
def X0o(l:List Int):List UInt8:=if XcJ l then vlS l l.length else []
theorem Xc8(n:Int):(X20 n).length<=7:=X0w n
theorem Xkh(l:List Int):∀i,(tmS l i).length<=7*i
 | 0=>by simp[tmS]
 | i+1=>by
   have h:=Xkh l i
   have h1:(Xfl l i).length<=7:=by
    unfold Xfl
    split
    . exact X0w _
    . split<;>exact X0w _
   rw[Xp8,Yab];omega
theorem Xkl(l:List Int):∀i,(vlS l i).length<=7*i
 | 0=>by simp[vlS]
 | i+1=>by
   have h:=Xkl l i
   have h1:(Xjl l i).length<=7:=X0w _
   rw[Xpo,Yab];omega
theorem X9I(l:List Int):(X0t l).length<=420:=by
 unfold X0t;split
 . rename_i h
   have:=Xkh l l.length
   have:=(X69.1 h).1;omega
 . simp
theorem X9p(l:List Int):(X0o l).length<=420:=by
 unfold X0o;split
 . rename_i h
   have:=Xkl l l.length
   have:=(X6U.1 h).1;omega
 . simp
def tmI(l:List Int)(s:List UInt8)(i:Int):Prop:=0<=i/\i<=l.length/\(∀j,j<i.toNat->XdP l j=true)/\(1<=i->(0<=l.getD 0 0/\l.getD 0 0<=1099511627776)/\0<=l.getD (i.toNat - 1) 0/\l.getD (i.toNat - 1) 0<=1099511627776)/\(2<=i->0<=l.getD (i.toNat - 2) 0/\l.getD (i.toNat - 2) 0<=1099511627776)/\(s.length:Int)<=7*i/\s=tmS l i.toNat
def tmJ(l:List Int)(s:List UInt8)(i:Int):Prop:=1<=i/\Xcl l=true/\(i<l.length->0<=l.getD i.toNat 0/\l.getD i.toNat 0<=1099511627776)/\tmI l s i
def tmM(l:List Int)(s:List UInt8)(i:Int):Nat:=(l.length - i).toNat
def vlI(l:List Int)(s:List UInt8)(last i:Int):Prop:=0<=i/\i<=l.length/\(∀j,j<i.toNat->Xb7 l j=true)/\(-1099511627776<=last/\last<=1099511627776)/\last=(if i.toNat=0 then 0 else l.getD (i.toNat - 1) 0)/\(s.length:Int)<=7*i/\s=vlS l i.toNat
def vlJ(l:List Int)(s:List UInt8)(last i:Int):Prop:=XcJ l=true/\(i<l.length->-1099511627776<=l.getD i.toNat 0/\l.getD i.toNat 0<=1099511627776)/\vlI l s last i
def vlM(l:List Int)(s:List UInt8)(last i:Int):Nat:=(l.length - i).toNat
def Xit(l:List Int):Prop:=l.length<=1099511627776
theorem n11(n:Nat):n+1 - 1=n:=rfl
theorem n12(n:Nat):n+1 - 2=n - 1:=rfl
theorem tn_0:Int.toNat 0=0:=rfl
theorem tn_1:Int.toNat 1=1:=rfl
theorem XfP{l:List Int}{i:Nat}(h:Xcl l=true)(hi:i<l.length):0<=l.getD i 0/\l.getD i 0<=1099511627776:=(Xbb.1 ((X69.1 h).2 i hi)).1
theorem XnG{l:List Int}{i:Nat}(h:XcJ l=true)(hi:i<l.length):-1099511627776<=l.getD i 0/\l.getD i 0<=1099511627776:=XfM.1 ((X6U.1 h).2 i hi)
def Xb8:Con:=cQ (.int .i64) [.one] (.int .i64) [(false,1)] (λ_=>True) λa=>(Xgw a)
def X4e.F(a0:Int):Prop:=(True/\∀r1,(Eq r1 ((fIn a0 (-140737488355328) 140737488355328),((),())))->(X00 (!r1.1) (Eq ((-1),((),())) ((Xgw a0),((),()))) (X00 (decide (a0<(0:Int))) (Eq ((wI ((wI (((-2):Int)*a0)) - (1:Int))),((),())) ((Xgw a0),((),()))) (Eq ((wI ((2:Int)*a0)),((),())) ((Xgw a0),((),()))))))
theorem X4e.p(a0:Int)(h:True)(hw:Wf Xb8.A a0):X4e.F a0:=by
 delta X4e.F wI
 simp only[Bs,B0,B1,Yaa,X01,X0N,Xie]
 repeat' (with_reducible (first | (refine And.intro ?_ ?_) | intro _))
 all_goals (try simp (disch:=omega) only[w64,wu8,tn0,tn1,tm1,tm2,Yab,Yad,Yai]at*)
 all_goals (try simp (disch:=omega) only[w64,wu8,tn0,tn1,tm1,tm2,Yab,Yad,Yai]at*)
 all_goals (try omega)
 all_goals (try grind[Xgw,X0N])
def X4e.e:GE:=mE Xb8 func167 [3] [X29.e] [] noL (λi x=>X4e.F x) λi x h _ hw=>X4e.p x h hw
def Xb2:Con:=cQ (.int .i64) [.one] (.int .i64) [(false,1)] (λ_=>True) λa=>(Xgw a)
def X53.F(a0:Int):Prop:=(True/\∀r1,(Eq r1 ((fIn a0 0 140737488355328),((),())))->(X00 r1.1 (Eq ((wI ((2:Int)*a0)),((),())) ((Xgw a0),((),()))) (True/\∀r2,(Eq r2 ((fIn a0 (-140737488355328) (-1)),((),())))->(X00 r2.1 (Eq ((wI ((wI (((-2):Int)*a0)) - (1:Int))),((),())) ((Xgw a0),((),()))) (Eq ((-1),((),())) ((Xgw a0),((),())))))))
theorem X53.p(a0:Int)(h:True)(hw:Wf Xb2.A a0):X53.F a0:=by
 delta X53.F wI
 simp only[Bs,B0,B1,Yaa,X01,X0N,Xie]
 repeat' (with_reducible (first | (refine And.intro ?_ ?_) | intro _))
 all_goals (try simp (disch:=omega) only[w64,wu8,tn0,tn1,tm1,tm2,Yab,Yad,Yai]at*)
 all_goals (try simp (disch:=omega) only[w64,wu8,tn0,tn1,tm1,tm2,Yab,Yad,Yai]at*)
 all_goals (try omega)
 all_goals (try grind[Xgw,X0N])
def X53.e:GE:=mE Xb2 func207 [3] [X0V.e] [] noL (λi x=>X53.F x) λi x h _ hw=>X53.p x h hw
def XeJ:Con:=cQ (.int .i64) [.one] .str [(false,1)] (λ_=>True) λa=>(Xn6 a)
def X7x.F(a0:Int):Prop:=(True/\∀r1,(Eq r1 ((Xgw a0),((),())))->(True/\∀r2,(Eq r2 ((X20 r1.1),((),())))->(Eq (r2.1,((),())) ((Xn6 a0),((),())))))
theorem X7x.p(a0:Int)(h:True)(hw:Wf XeJ.A a0):X7x.F a0:=by
 unfold X7x.F
 simp only[Bs,B0,B1,Yaa,X01]
 repeat' (with_reducible (first | (refine And.intro ?_ ?_) | intro _))
 all_goals (try simp (disch:=omega) only[w64,wu8,tn0,tn1,tm1,tm2,Yab,Yad,Yai]at*)
 all_goals (try simp (disch:=omega) only[w64,wu8,tn0,tn1,tm1,tm2,Yab,Yad,Yai]at*)
 all_goals (try omega)
 all_goals (try grind[Xn6])
def X7x.e:GE:=mE XeJ func190 [9] [X5l.e,X53.e] [] noL (λi x=>X7x.F x) λi x h _ hw=>X7x.p x h hw
def XaR:Con:=cQ Xfc [.one] .bool [(false,1)] (λ_=>True) λa=>(Xcl a)
def X4a.F(a0:(List Int)):Prop:=(True/\∀r1,(Eq r1 ((fIn (ln a0) 1 60),((),())))->(X00 (!r1.1) (Eq (false,((),())) ((Xcl a0),((),()))) (eS [(0,.val false [.lst (.int .i64) a0 none])] [(0,.val false [.lst (.int .i64) a0 none])]/\((scI XdP a0 0)/\∀(y2:Int),(scI XdP a0 y2)->(X00 (decide (y2<(ln a0))) (0<=y2/\(y2<(ln a0)/\(True/\∀r3,(Eq r3 ((fIn (List.getD a0 (tN y2) 0) 0 1099511627776),((),())))->(X00 (!r3.1) (Eq (false,((),())) ((Xcl a0),((),()))) (X00 (decide (y2>(0:Int))) (0<=(wI (y2 - (1:Int)))/\((wI (y2 - (1:Int)))<(ln a0)/\(0<=y2/\(y2<(ln a0)/\(X00 (decide ((List.getD a0 (tN (wI (y2 - (1:Int)))) 0)>=(List.getD a0 (tN y2) 0))) (Eq (false,((),())) ((Xcl a0),((),()))) (eS [(0,.val false [.lst (.int .i64) a0 none])] [(0,.val false [.lst (.int .i64) a0 none])]/\(scI XdP a0 (wI (y2+(1:Int))))/\(scM a0 (wI (y2+(1:Int))))<(scM a0 y2))))))) (eS [(0,.val false [.lst (.int .i64) a0 none])] [(0,.val false [.lst (.int .i64) a0 none])]/\(scI XdP a0 (wI (y2+(1:Int))))/\(scM a0 (wI (y2+(1:Int))))<(scM a0 y2))))))) (Eq (true,((),())) ((Xcl a0),((),()))))))))
def X4a.L(a0:(List Int)):Nat->Option X0e:=XLK [(58,⟨⟨[0],[3],[],[]⟩,(.int .i64),λst y=>scI XdP a0 y,λst y=>scM a0 y⟩)]
theorem X4a.p(a0:(List Int))(h:True)(hw:Wf XaR.A a0):X4a.F a0:=by
 delta X4a.F ln tN wI eS
 have hw1:a0.length<=maxLen:=hw.1
 unfold maxLen at hw1
 simp only[Bs,B0,B1,Yaa,X01,scI,scM,X0N,Xie]
 repeat' (with_reducible (first | (refine And.intro ?_ ?_) | intro _))
 all_goals (try simp (disch:=omega) only[w64,wu8,tn0,tn1,tm1,tm2,Yab,Yad,Yai]at*)
 all_goals (try simp (disch:=omega) only[w64,wu8,tn0,tn1,tm1,tm2,Yab,Yad,Yai]at*)
 all_goals (try omega)
 all_goals (try grind[X69,Xbb])
def X4a.e:GE:=mE XaR func166 [4] [X29.e] [] (λi x=>X4a.L x) (λi x=>X4a.F x) λi x h _ hw=>X4a.p x h hw
def X8L:Con:=cQ Xfc [.one] .bool [(false,1)] (λ_=>True) λa=>(XcJ a)
def X2J.F(a0:(List Int)):Prop:=(True/\∀r1,(Eq r1 ((fIn (ln a0) 1 60),((),())))->(X00 (!r1.1) (Eq (false,((),())) ((XcJ a0),((),()))) (eS [(0,.val false [.lst (.int .i64) a0 none])] [(0,.val false [.lst (.int .i64) a0 none])]/\((scI Xb7 a0 0)/\∀(y2:Int),(scI Xb7 a0 y2)->(X00 (decide (y2<(ln a0))) (0<=y2/\(y2<(ln a0)/\(True/\∀r3,(Eq r3 ((fIn (List.getD a0 (tN y2) 0) (-1099511627776) 1099511627776),((),())))->(X00 (!r3.1) (Eq (false,((),())) ((XcJ a0),((),()))) (eS [(0,.val false [.lst (.int .i64) a0 none])] [(0,.val false [.lst (.int .i64) a0 none])]/\(scI Xb7 a0 (wI (y2+(1:Int))))/\(scM a0 (wI (y2+(1:Int))))<(scM a0 y2)))))) (Eq (true,((),())) ((XcJ a0),((),()))))))))
def X2J.L(a0:(List Int)):Nat->Option X0e:=XLK [(58,⟨⟨[0],[3],[],[]⟩,(.int .i64),λst y=>scI Xb7 a0 y,λst y=>scM a0 y⟩)]
theorem X2J.p(a0:(List Int))(h:True)(hw:Wf X8L.A a0):X2J.F a0:=by
 delta X2J.F ln tN wI eS
 have hw1:a0.length<=maxLen:=hw.1
 unfold maxLen at hw1
 simp only[Bs,B0,B1,Yaa,X01,scI,scM,X0N,Xie]
 repeat' (with_reducible (first | (refine And.intro ?_ ?_) | intro _))
 all_goals (try simp (disch:=omega) only[w64,wu8,tn0,tn1,tm1,tm2,Yab,Yad,Yai]at*)
 all_goals (try simp (disch:=omega) only[w64,wu8,tn0,tn1,tm1,tm2,Yab,Yad,Yai]at*)
 all_goals (try omega)
 all_goals (try grind[X6U,XfM])
def X2J.e:GE:=mE X8L func168 [4] [X29.e] [] (λi x=>X2J.L x) (λi x=>X2J.F x) λi x h _ hw=>X2J.p x h hw
def X81:Con:=cQ Xfc [.one] .str [(false,1)] (λ_=>True) λa=>(X0t a)
def X1W.F(a0:(List Int)):Prop:=(True/\∀r1,(Eq r1 ((Xcl a0),((),())))->(X00 (!r1.1) (Eq ([],((),())) ((X0t a0),((),()))) (0<=(0:Int)/\((0:Int)<(ln a0)/\(True/\∀r2,(Eq r2 ((X20 (List.getD a0 (tN (0:Int)) 0)),((),())))->(eS [(0,.val false [.lst (.int .i64) a0 none])] [(0,.val false [.lst (.int .i64) a0 none])]/\((tmJ a0 r2.1 1)/\∀(y3:(U6q×Int)),(tmJ a0 y3.1 y3.2)->(X00 (decide (y3.2<(ln a0))) (0<=y3.2/\(y3.2<(ln a0)/\(0<=(wI (y3.2 - (1:Int)))/\((wI (y3.2 - (1:Int)))<(ln a0)/\(X00 (y3.2==(1:Int)) (True/\∀r4,(Eq r4 ((X20 (wI ((List.getD a0 (tN y3.2) 0) - (List.getD a0 (tN (wI (y3.2 - (1:Int)))) 0)))),((),())))->(List.length y3.1+List.length r4.1<=9223372036854775807/\(eS [(0,.val false [.lst (.int .i64) a0 none])] [(0,.val false [.lst (.int .i64) a0 none])]/\(tmJ a0 (y3.1++r4.1) (wI (y3.2+(1:Int))))/\(tmM a0 (y3.1++r4.1) (wI (y3.2+(1:Int))))<(tmM a0 y3.1 y3.2)))) (0<=(wI (y3.2 - (1:Int)))/\((wI (y3.2 - (1:Int)))<(ln a0)/\(0<=(wI (y3.2 - (2:Int)))/\((wI (y3.2 - (2:Int)))<(ln a0)/\(True/\∀r5,(Eq r5 ((Xgw (wI ((wI ((List.getD a0 (tN y3.2) 0) - (List.getD a0 (tN (wI (y3.2 - (1:Int)))) 0))) - (wI ((List.getD a0 (tN (wI (y3.2 - (1:Int)))) 0) - (List.getD a0 (tN (wI (y3.2 - (2:Int)))) 0)))))),((),())))->(True/\∀r6,(Eq r6 ((X20 r5.1),((),())))->(List.length y3.1+List.length r6.1<=9223372036854775807/\(eS [(0,.val false [.lst (.int .i64) a0 none])] [(0,.val false [.lst (.int .i64) a0 none])]/\(tmJ a0 (y3.1++r6.1) (wI (y3.2+(1:Int))))/\(tmM a0 (y3.1++r6.1) (wI (y3.2+(1:Int))))<(tmM a0 y3.1 y3.2)))))))))))))) (Eq (y3.1,((),())) ((X0t a0),((),())))))))))))
def X1W.L(a0:(List Int)):Nat->Option X0e:=XLK [(122,⟨⟨[0],[3,4],[],[]⟩,XqA,λst y=>tmJ a0 y.1 y.2,λst y=>tmM a0 y.1 y.2⟩)]
theorem X1W.p(a0:(List Int))(h:True)(hw:Wf X81.A a0):X1W.F a0:=by
 delta X1W.F ln tN wI eS
 have hw1:a0.length<=maxLen:=hw.1
 unfold maxLen at hw1
 simp only[Bs,B0,B1,Yaa,X01,tmJ,tmI,tmM]
 repeat' (with_reducible (first | (refine And.intro ?_ ?_) | intro _))
 all_goals (try simp (disch:=omega) only[w64,wu8,tn0,tn1,tm1,tm2,Yab,Yad,Yai,n11,n12,tn_0,tn_1]at*)
 all_goals (try simp (disch:=omega) only[w64,wu8,tn0,tn1,tm1,tm2,Yab,Yad,Yai,n11,n12,tn_0,tn_1]at*)
 all_goals (try omega)
 all_goals (try grind[X0t,Xfl,tmS,X69,Xbb,Xc8])
def X1W.e:GE:=mE X81 func119 [9] [X57.e,X4a.e,X4e.e] [] (λi x=>X1W.L x) (λi x=>X1W.F x) λi x h _ hw=>X1W.p x h hw
def X85:Con:=cQ Xfc [.one] .str [(false,1)] (λa=>(Xit a)) λa=>(X0t a)
def X1X.F(a0:(List Int)):Prop:=(eS [(0,.val false [.lst (.int .i64) a0 none]),(6,.val false [.lst (.int .i64) a0 none]),(7,.val false [.int .i64 (ln a0)])] [(0,.val false [.lst (.int .i64) a0 none]),(6,.val false [.lst (.int .i64) a0 none]),(7,.val false [.int .i64 (ln a0)])]/\((tmI a0 [] 0)/\∀(y1:(U6q×Int)),(tmI a0 y1.1 y1.2)->(X00 (decide (y1.2<(ln a0))) (0<=y1.2/\(y1.2<(ln a0)/\(True/\∀r2,(Eq r2 ((fIn (List.getD a0 (tN y1.2) 0) 0 1099511627776),((),())))->(X00 (!r2.1) (Eq ([],((),())) ((X0t a0),((),()))) (X00 (decide (y1.2>(0:Int))) (0<=(wI (y1.2 - (1:Int)))/\((wI (y1.2 - (1:Int)))<(ln a0)/\(X00 (decide ((List.getD a0 (tN (wI (y1.2 - (1:Int)))) 0)>=(List.getD a0 (tN y1.2) 0))) (Eq ([],((),())) ((X0t a0),((),()))) (X00 (y1.2==(0:Int)) (True/\∀r3,(Eq r3 ((X20 (List.getD a0 (tN y1.2) 0)),((),())))->(List.length y1.1+List.length r3.1<=9223372036854775807/\(eS [(0,.val false [.lst (.int .i64) a0 none]),(6,.val false [.lst (.int .i64) a0 none]),(7,.val false [.int .i64 (ln a0)])] [(0,.val false [.lst (.int .i64) a0 none]),(6,.val false [.lst (.int .i64) a0 none]),(7,.val false [.int .i64 (ln a0)])]/\(tmI a0 (y1.1++r3.1) (wI (y1.2+(1:Int))))/\(tmM a0 (y1.1++r3.1) (wI (y1.2+(1:Int))))<(tmM a0 y1.1 y1.2)))) (X00 (y1.2==(1:Int)) (0<=(0:Int)/\((0:Int)<(ln a0)/\(True/\∀r4,(Eq r4 ((X20 (wI ((List.getD a0 (tN y1.2) 0) - (List.getD a0 (tN (0:Int)) 0)))),((),())))->(List.length y1.1+List.length r4.1<=9223372036854775807/\(eS [(0,.val false [.lst (.int .i64) a0 none]),(6,.val false [.lst (.int .i64) a0 none]),(7,.val false [.int .i64 (ln a0)])] [(0,.val false [.lst (.int .i64) a0 none]),(6,.val false [.lst (.int .i64) a0 none]),(7,.val false [.int .i64 (ln a0)])]/\(tmI a0 (y1.1++r4.1) (wI (y1.2+(1:Int))))/\(tmM a0 (y1.1++r4.1) (wI (y1.2+(1:Int))))<(tmM a0 y1.1 y1.2)))))) (0<=(wI (y1.2 - (1:Int)))/\((wI (y1.2 - (1:Int)))<(ln a0)/\(0<=(wI (y1.2 - (1:Int)))/\((wI (y1.2 - (1:Int)))<(ln a0)/\(0<=(wI (y1.2 - (2:Int)))/\((wI (y1.2 - (2:Int)))<(ln a0)/\(True/\∀r5,(Eq r5 ((Xn6 (wI ((wI ((List.getD a0 (tN y1.2) 0) - (List.getD a0 (tN (wI (y1.2 - (1:Int)))) 0))) - (wI ((List.getD a0 (tN (wI (y1.2 - (1:Int)))) 0) - (List.getD a0 (tN (wI (y1.2 - (2:Int)))) 0)))))),((),())))->(List.length y1.1+List.length r5.1<=9223372036854775807/\(eS [(0,.val false [.lst (.int .i64) a0 none]),(6,.val false [.lst (.int .i64) a0 none]),(7,.val false [.int .i64 (ln a0)])] [(0,.val false [.lst (.int .i64) a0 none]),(6,.val false [.lst (.int .i64) a0 none]),(7,.val false [.int .i64 (ln a0)])]/\(tmI a0 (y1.1++r5.1) (wI (y1.2+(1:Int))))/\(tmM a0 (y1.1++r5.1) (wI (y1.2+(1:Int))))<(tmM a0 y1.1 y1.2))))))))))))))) (X00 (y1.2==(0:Int)) (True/\∀r6,(Eq r6 ((X20 (List.getD a0 (tN y1.2) 0)),((),())))->(List.length y1.1+List.length r6.1<=9223372036854775807/\(eS [(0,.val false [.lst (.int .i64) a0 none]),(6,.val false [.lst (.int .i64) a0 none]),(7,.val false [.int .i64 (ln a0)])] [(0,.val false [.lst (.int .i64) a0 none]),(6,.val false [.lst (.int .i64) a0 none]),(7,.val false [.int .i64 (ln a0)])]/\(tmI a0 (y1.1++r6.1) (wI (y1.2+(1:Int))))/\(tmM a0 (y1.1++r6.1) (wI (y1.2+(1:Int))))<(tmM a0 y1.1 y1.2)))) (X00 (y1.2==(1:Int)) (0<=(0:Int)/\((0:Int)<(ln a0)/\(True/\∀r7,(Eq r7 ((X20 (wI ((List.getD a0 (tN y1.2) 0) - (List.getD a0 (tN (0:Int)) 0)))),((),())))->(List.length y1.1+List.length r7.1<=9223372036854775807/\(eS [(0,.val false [.lst (.int .i64) a0 none]),(6,.val false [.lst (.int .i64) a0 none]),(7,.val false [.int .i64 (ln a0)])] [(0,.val false [.lst (.int .i64) a0 none]),(6,.val false [.lst (.int .i64) a0 none]),(7,.val false [.int .i64 (ln a0)])]/\(tmI a0 (y1.1++r7.1) (wI (y1.2+(1:Int))))/\(tmM a0 (y1.1++r7.1) (wI (y1.2+(1:Int))))<(tmM a0 y1.1 y1.2)))))) (0<=(wI (y1.2 - (1:Int)))/\((wI (y1.2 - (1:Int)))<(ln a0)/\(0<=(wI (y1.2 - (1:Int)))/\((wI (y1.2 - (1:Int)))<(ln a0)/\(0<=(wI (y1.2 - (2:Int)))/\((wI (y1.2 - (2:Int)))<(ln a0)/\(True/\∀r8,(Eq r8 ((Xn6 (wI ((wI ((List.getD a0 (tN y1.2) 0) - (List.getD a0 (tN (wI (y1.2 - (1:Int)))) 0))) - (wI ((List.getD a0 (tN (wI (y1.2 - (1:Int)))) 0) - (List.getD a0 (tN (wI (y1.2 - (2:Int)))) 0)))))),((),())))->(List.length y1.1+List.length r8.1<=9223372036854775807/\(eS [(0,.val false [.lst (.int .i64) a0 none]),(6,.val false [.lst (.int .i64) a0 none]),(7,.val false [.int .i64 (ln a0)])] [(0,.val false [.lst (.int .i64) a0 none]),(6,.val false [.lst (.int .i64) a0 none]),(7,.val false [.int .i64 (ln a0)])]/\(tmI a0 (y1.1++r8.1) (wI (y1.2+(1:Int))))/\(tmM a0 (y1.1++r8.1) (wI (y1.2+(1:Int))))<(tmM a0 y1.1 y1.2))))))))))))))))) (True/\∀r9,(Eq r9 ((fIn (ln a0) 1 60),((),())))->(X00 (!r9.1) (Eq ([],((),())) ((X0t a0),((),()))) (Eq (y1.1,((),())) ((X0t a0),((),()))))))))
def X1X.L(a0:(List Int)):Nat->Option X0e:=XLK [(58,⟨⟨[0,6,7],[3,8],[],[]⟩,XqA,λst y=>tmI a0 y.1 y.2,λst y=>tmM a0 y.1 y.2⟩)]
theorem X1X.p(a0:(List Int))(h:(Xit a0))(hw:Wf X85.A a0):X1X.F a0:=by
 delta X1X.F ln tN wI eS
 have hw1:a0.length<=maxLen:=hw.1
 unfold maxLen at hw1
 have hp:a0.length<=1099511627776:=h
 simp only[Bs,B0,B1,Yaa,X01,tmI,tmM,Xn6,X0N,Xie]
 repeat' (with_reducible (first | (refine And.intro ?_ ?_) | intro _))
 all_goals (try simp (disch:=omega) only[w64,wu8,tn0,tn1,tm1,tm2,Yab,Yad,Yai,n11,n12,tn_0,tn_1]at*)
 all_goals (try simp (disch:=omega) only[w64,wu8,tn0,tn1,tm1,tm2,Yab,Yad,Yai,n11,n12,tn_0,tn_1]at*)
 all_goals (try omega)
 all_goals (try grind[X0t,Xfl,tmS,X69,Xbb,Xc8])
def X1X.e:GE:=mE X85 func154 [9] [X0V.e,X5l.e,X7x.e] [] (λi x=>X1X.L x) (λi x=>X1X.F x) λi x h _ hw=>X1X.p x h hw
def X7a:Con:=cQ Xfc [.one] .str [(false,1)] (λ_=>True) λa=>(X0o a)
def X1n.F(a0:(List Int)):Prop:=(True/\∀r1,(Eq r1 ((XcJ a0),((),())))->(X00 (!r1.1) (Eq ([],((),())) ((X0o a0),((),()))) (eS [(0,.val false [.lst (.int .i64) a0 none])] [(0,.val false [.lst (.int .i64) a0 none])]/\((vlJ a0 [] 0 0)/\∀(y2:(U6q×(Int×Int))),(vlJ a0 y2.1 y2.2.1 y2.2.2)->(X00 (decide (y2.2.2<(ln a0))) (0<=y2.2.2/\(y2.2.2<(ln a0)/\(True/\∀r3,(Eq r3 ((Xgw (wI ((List.getD a0 (tN y2.2.2) 0) - y2.2.1))),((),())))->(True/\∀r4,(Eq r4 ((X20 r3.1),((),())))->(List.length y2.1+List.length r4.1<=9223372036854775807/\(0<=y2.2.2/\(y2.2.2<(ln a0)/\(eS [(0,.val false [.lst (.int .i64) a0 none])] [(0,.val false [.lst (.int .i64) a0 none])]/\(vlJ a0 (y2.1++r4.1) (List.getD a0 (tN y2.2.2) 0) (wI (y2.2.2+(1:Int))))/\(vlM a0 (y2.1++r4.1) (List.getD a0 (tN y2.2.2) 0) (wI (y2.2.2+(1:Int))))<(vlM a0 y2.1 y2.2.1 y2.2.2))))))))) (Eq (y2.1,((),())) ((X0o a0),((),()))))))))
def X1n.L(a0:(List Int)):Nat->Option X0e:=XLK [(250,⟨⟨[0],[3,4,5],[],[]⟩,(.pair .str T0q),λst y=>vlJ a0 y.1 y.2.1 y.2.2,λst y=>vlM a0 y.1 y.2.1 y.2.2⟩)]
theorem X1n.p(a0:(List Int))(h:True)(hw:Wf X7a.A a0):X1n.F a0:=by
 delta X1n.F ln tN wI eS
 have hw1:a0.length<=maxLen:=hw.1
 unfold maxLen at hw1
 simp only[Bs,B0,B1,Yaa,X01,vlJ,vlI,vlM]
 repeat' (with_reducible (first | (refine And.intro ?_ ?_) | intro _))
 all_goals (try simp (disch:=omega) only[w64,wu8,tn0,tn1,tm1,tm2,Yab,Yad,Yai,n11]at*)
 all_goals (try simp (disch:=omega) only[w64,wu8,tn0,tn1,tm1,tm2,Yab,Yad,Yai,n11]at*)
 all_goals (try omega)
 all_goals (try grind[X0o,Xjl,vlS,X6U,XfM,Xc8])
def X1n.e:GE:=mE X7a func120 [9] [X57.e,X4e.e,X2J.e] [] (λi x=>X1n.L x) (λi x=>X1n.F x) λi x h _ hw=>X1n.p x h hw
def X6Y:Con:=cQ Xfc [.one] .str [(false,1)] (λa=>(Xit a)) λa=>(X0o a)
def X1m.F(a0:(List Int)):Prop:=(eS [(0,.val false [.lst (.int .i64) a0 none]),(7,.val false [.lst (.int .i64) a0 none]),(8,.val false [.int .i64 (ln a0)])] [(0,.val false [.lst (.int .i64) a0 none]),(7,.val false [.lst (.int .i64) a0 none]),(8,.val false [.int .i64 (ln a0)])]/\((vlI a0 [] 0 0)/\∀(y1:(U6q×(Int×Int))),(vlI a0 y1.1 y1.2.1 y1.2.2)->(X00 (decide (y1.2.2<(ln a0))) (0<=y1.2.2/\(y1.2.2<(ln a0)/\(True/\∀r2,(Eq r2 ((fIn (List.getD a0 (tN y1.2.2) 0) (-1099511627776) 1099511627776),((),())))->(X00 (!r2.1) (Eq ([],((),())) ((X0o a0),((),()))) (True/\∀r3,(Eq r3 ((Xn6 (wI ((List.getD a0 (tN y1.2.2) 0) - y1.2.1))),((),())))->(List.length y1.1+List.length r3.1<=9223372036854775807/\(eS [(0,.val false [.lst (.int .i64) a0 none]),(7,.val false [.lst (.int .i64) a0 none]),(8,.val false [.int .i64 (ln a0)])] [(0,.val false [.lst (.int .i64) a0 none]),(7,.val false [.lst (.int .i64) a0 none]),(8,.val false [.int .i64 (ln a0)])]/\(vlI a0 (y1.1++r3.1) (List.getD a0 (tN y1.2.2) 0) (wI (y1.2.2+(1:Int))))/\(vlM a0 (y1.1++r3.1) (List.getD a0 (tN y1.2.2) 0) (wI (y1.2.2+(1:Int))))<(vlM a0 y1.1 y1.2.1 y1.2.2)))))))) (True/\∀r4,(Eq r4 ((fIn (ln a0) 1 60),((),())))->(X00 (!r4.1) (Eq ([],((),())) ((X0o a0),((),()))) (Eq (y1.1,((),())) ((X0o a0),((),()))))))))
def X1m.L(a0:(List Int)):Nat->Option X0e:=XLK [(122,⟨⟨[0,7,8],[3,4,9],[],[]⟩,(.pair .str T0q),λst y=>vlI a0 y.1 y.2.1 y.2.2,λst y=>vlM a0 y.1 y.2.1 y.2.2⟩)]
theorem X1m.p(a0:(List Int))(h:(Xit a0))(hw:Wf X6Y.A a0):X1m.F a0:=by
 delta X1m.F ln tN wI eS
 have hw1:a0.length<=maxLen:=hw.1
 unfold maxLen at hw1
 have hp:a0.length<=1099511627776:=h
 simp only[Bs,B0,B1,Yaa,X01,vlI,vlM,Xn6,X0N,Xie]
 repeat' (with_reducible (first | (refine And.intro ?_ ?_) | intro _))
 all_goals (try simp (disch:=omega) only[w64,wu8,tn0,tn1,tm1,tm2,Yab,Yad,Yai,n11]at*)
 all_goals (try simp (disch:=omega) only[w64,wu8,tn0,tn1,tm1,tm2,Yab,Yad,Yai,n11]at*)
 all_goals (try omega)
 all_goals (try grind[X0o,Xjl,vlS,X6U,XfM,Xc8])
def X1m.e:GE:=mE X6Y func155 [9] [X0V.e,X7x.e] [] (λi x=>X1m.L x) (λi x=>X1m.F x) λi x h _ hw=>X1m.p x h hw
def X04(l:List Pt):List UInt8:=if X0K l=true/\l≠[] then X42 (X20 l.length++X0t (l.map (·.1))++X0o (l.map (·.2))) else []
theorem X9G{l:List Pt}(h:X0K l=true):l.length<=60:=by
 simp only[X0K,Yac,Yaj]at h;exact h.1
def sbI(l:List Pt)(i:Int)(t v:List Int):Prop:=0<=i/\i<=l.length/\l.length<=60/\l≠[]/\X0K l=true/\(t.length:Int)=i/\(v.length:Int)=i/\t=(l.take i.toNat).map (·.1)/\v=(l.take i.toNat).map (·.2)
def sbM(l:List Pt)(i:Int)(t v:List Int):Nat:=(l.length - i).toNat
theorem Xgb{l:List Pt}{i:Nat}(h:i<l.length):(l.take (i+1)).map (·.1)=(l.take i).map (·.1)++[(l.getD i (0,0)).1]/\(l.take (i+1)).map (·.2)=(l.take i).map (·.2)++[(l.getD i (0,0)).2]:=by
 rw[X0J (0,0) h];simp
theorem Xgm{l:List Pt}(h:X0K l=false):[]=X04 l:=by simp[X04,h]
def X7M:Con:=cQ X7m [.one] .str [(false,1)] (λ_=>True) λa=>(X04 a)
def X1t.F(a0:U9q):Prop:=(True/\∀r1,(Eq r1 ((X0K a0),((),())))->(X00 (!r1.1) (Eq ([],((),())) ((X04 a0),((),()))) (X00 ((ln a0)==(0:Int)) (Eq ([],((),())) ((X04 a0),((),()))) (eS [(0,.val false [.lst T0q a0 none])] [(0,.val false [.lst T0q a0 none])]/\((sbI a0 0 ([]:List Int) ([]:List Int))/\∀(y2:(Int×((List Int)×(List Int)))),(sbI a0 y2.1 y2.2.1 y2.2.2)->(X00 (decide (y2.1<(ln a0))) (0<=y2.1/\(y2.1<(ln a0)/\(List.length y2.2.1+List.length [(List.getD a0 (tN y2.1) (0,0)).1]<=9223372036854775807/\((List.length y2.2.1+List.length [(List.getD a0 (tN y2.1) (0,0)).1])*8<=140737488355328/\(0<=y2.1/\(y2.1<(ln a0)/\(List.length y2.2.2+List.length [(List.getD a0 (tN y2.1) (0,0)).2]<=9223372036854775807/\((List.length y2.2.2+List.length [(List.getD a0 (tN y2.1) (0,0)).2])*8<=140737488355328/\(eS [(0,.val false [.lst T0q a0 none])] [(0,.val false [.lst T0q a0 none])]/\(sbI a0 (wI (y2.1+(1:Int))) (y2.2.1++[(List.getD a0 (tN y2.1) (0,0)).1]) (y2.2.2++[(List.getD a0 (tN y2.1) (0,0)).2]))/\(sbM a0 (wI (y2.1+(1:Int))) (y2.2.1++[(List.getD a0 (tN y2.1) (0,0)).1]) (y2.2.2++[(List.getD a0 (tN y2.1) (0,0)).2]))<(sbM a0 y2.1 y2.2.1 y2.2.2)))))))))) (True/\∀r3,(Eq r3 ((X20 (ln a0)),((),())))->(True/\∀r4,(Eq r4 ((X0t y2.2.1),((),())))->(List.length r3.1+List.length r4.1<=9223372036854775807/\(True/\∀r5,(Eq r5 ((X0o y2.2.2),((),())))->(List.length (r3.1++r4.1)+List.length r5.1<=9223372036854775807/\(True/\∀r6,(Eq r6 ((X42 ((r3.1++r4.1)++r5.1)),((),())))->(Eq (r6.1,((),())) ((X04 a0),((),())))))))))))))))
def X1t.L(a0:U9q):Nat->Option X0e:=XLK [(250,⟨⟨[0],[3,4,5],[],[kC 3 0 1000387 3,kC 4 0 1000515 3]⟩,(.pair (.int .i64) (.pair Xfc Xfc)),λst y=>sbI a0 y.1 y.2.1 y.2.2,λst y=>sbM a0 y.1 y.2.1 y.2.2⟩)]
theorem X1t.p(a0:U9q)(h:True):X1t.F a0:=by
 delta X1t.F ln tN wI eS
 simp only[Bs,B0,B1,Yaa,X01]
 refine⟨λh1=>Xgm h1,λh1=>?_⟩
 have h60:=X9G h1
 refine⟨λh2=>?_,λh2=>⟨⟨by omega,by omega,h60,λe=>by subst e;exact h2 rfl,h1,rfl,rfl,rfl,rfl⟩,?_⟩⟩
 . have:a0=[]:=YaL.1 (by omega)
   subst this;rfl
 rintro⟨i,t,v⟩ ⟨q1,q2,q3,q4,q5,q6,q7,q8,q9⟩
 simp only at q1 q2 q3 q4 q5 q6 q7 q8 q9 ⊢
 refine⟨λhi=>?_,λhi=>?_⟩
 . have hm:=Xgb (l:=a0) (i:=i.toNat) (by omega)
   rw[w64 (x:=i+1) (by omega) (by omega)]
   have step:sbI a0 (i+1) (t++[(a0.getD i.toNat (0,0)).1]) (v++[(a0.getD i.toNat (0,0)).2]):=⟨by omega,by omega,q3,q4,q5,by simp;omega,by simp;omega,by rw[tn1 q1,hm.1,q8],by rw[tn1 q1,hm.2,q9]⟩
   have down:sbM a0 (i+1) (t++[(a0.getD i.toNat (0,0)).1]) (v++[(a0.getD i.toNat (0,0)).2])<sbM a0 i t v:=by unfold sbM;omega
   exact⟨q1,by omega,by omega,by omega,q1,by omega,by omega,by omega,step,down⟩
 . have e:i.toNat=a0.length:=by omega
   rw[e,Yat]at q8 q9
   have l1:=X0w a0.length
   have l2:=X9I t
   have l3:=X9p v
   have hp:v.length<=1099511627776:=by omega
   have hp2:t.length<=1099511627776:=by omega
   have hf:X42 (X20 a0.length++X0t t++X0o v)=X04 a0:=by
    unfold X04
    rw[Yah ⟨q5,q4⟩,<-q8,<-q9]
   exact⟨by omega,by omega,hf⟩
def X1t.e:GE:=mE X7M func61 [9] [X57.e,X1C.e,X5d.e,X1W.e,X1n.e] [] (λi x=>X1t.L x) (λi x=>X1t.F x) λi x h _ _=>X1t.p x h
def X7A:Con:=cQ X7m [.one] .str [(false,1)] (λ_=>True) λa=>(X04 a)
def X1r.F(a0:U9q):Prop:=(True/\∀r1,(Eq r1 ((X0K a0),((),())))->(X00 (!r1.1) (Eq ([],((),())) ((X04 a0),((),()))) (X00 ((ln a0)==(0:Int)) (Eq ([],((),())) ((X04 a0),((),()))) (eS [(0,.val false [.lst T0q a0 none]),(17,.val false [.lst T0q a0 none]),(18,.val false [.int .i64 (ln a0)])] [(0,.val false [.lst T0q a0 none]),(17,.val false [.lst T0q a0 none]),(18,.val false [.int .i64 (ln a0)])]/\((sbI a0 0 ([]:List Int) ([]:List Int))/\∀(y2:(Int×((List Int)×(List Int)))),(sbI a0 y2.1 y2.2.1 y2.2.2)->(X00 (decide (y2.1<(ln a0))) (0<=y2.1/\(y2.1<(ln a0)/\(List.length y2.2.1+List.length [(List.getD a0 (tN y2.1) (0,0)).1]<=9223372036854775807/\((List.length y2.2.1+List.length [(List.getD a0 (tN y2.1) (0,0)).1])*8<=140737488355328/\(List.length y2.2.2+List.length [(List.getD a0 (tN y2.1) (0,0)).2]<=9223372036854775807/\((List.length y2.2.2+List.length [(List.getD a0 (tN y2.1) (0,0)).2])*8<=140737488355328/\(eS [(0,.val false [.lst T0q a0 none]),(17,.val false [.lst T0q a0 none]),(18,.val false [.int .i64 (ln a0)])] [(0,.val false [.lst T0q a0 none]),(17,.val false [.lst T0q a0 none]),(18,.val false [.int .i64 (ln a0)])]/\(sbI a0 (wI (y2.1+(1:Int))) (y2.2.1++[(List.getD a0 (tN y2.1) (0,0)).1]) (y2.2.2++[(List.getD a0 (tN y2.1) (0,0)).2]))/\(sbM a0 (wI (y2.1+(1:Int))) (y2.2.1++[(List.getD a0 (tN y2.1) (0,0)).1]) (y2.2.2++[(List.getD a0 (tN y2.1) (0,0)).2]))<(sbM a0 y2.1 y2.2.1 y2.2.2)))))))) (True/\∀r3,(Eq r3 ((X20 (ln a0)),((),())))->((Xit y2.2.1)/\∀r4,(Eq r4 ((X0t y2.2.1),((),())))->(List.length r3.1+List.length r4.1<=9223372036854775807/\((Xit y2.2.2)/\∀r5,(Eq r5 ((X0o y2.2.2),((),())))->(List.length (r3.1++r4.1)+List.length r5.1<=9223372036854775807/\(True/\∀r6,(Eq r6 ((X42 ((r3.1++r4.1)++r5.1)),((),())))->(Eq (r6.1,((),())) ((X04 a0),((),())))))))))))))))
def X1r.L(a0:U9q):Nat->Option X0e:=XLK [(122,⟨⟨[0,17,18],[3,4,19],[],[kC 3 0 1000387 3,kC 4 0 1000515 3]⟩,(.pair (.int .i64) (.pair Xfc Xfc)),λst y=>sbI a0 y.1 y.2.1 y.2.2,λst y=>sbM a0 y.1 y.2.1 y.2.2⟩)]
theorem X1r.p(a0:U9q)(h:True):X1r.F a0:=by
 delta X1r.F ln tN wI eS
 simp only[Bs,B0,B1,Yaa,X01,Xit]
 refine⟨λh1=>Xgm h1,λh1=>?_⟩
 have h60:=X9G h1
 refine⟨λh2=>?_,λh2=>⟨⟨by omega,by omega,h60,λe=>by subst e;exact h2 rfl,h1,rfl,rfl,rfl,rfl⟩,?_⟩⟩
 . have:a0=[]:=YaL.1 (by omega)
   subst this;rfl
 rintro⟨i,t,v⟩ ⟨q1,q2,q3,q4,q5,q6,q7,q8,q9⟩
 simp only at q1 q2 q3 q4 q5 q6 q7 q8 q9 ⊢
 refine⟨λhi=>?_,λhi=>?_⟩
 . have hm:=Xgb (l:=a0) (i:=i.toNat) (by omega)
   rw[w64 (x:=i+1) (by omega) (by omega)]
   have step:sbI a0 (i+1) (t++[(a0.getD i.toNat (0,0)).1]) (v++[(a0.getD i.toNat (0,0)).2]):=⟨by omega,by omega,q3,q4,q5,by simp;omega,by simp;omega,by rw[tn1 q1,hm.1,q8],by rw[tn1 q1,hm.2,q9]⟩
   have down:sbM a0 (i+1) (t++[(a0.getD i.toNat (0,0)).1]) (v++[(a0.getD i.toNat (0,0)).2])<sbM a0 i t v:=by unfold sbM;omega
   exact⟨q1,by omega,by omega,by omega,by omega,by omega,step,down⟩
 . have e:i.toNat=a0.length:=by omega
   rw[e,Yat]at q8 q9
   have l1:=X0w a0.length
   have l2:=X9I t
   have l3:=X9p v
   have hp:v.length<=1099511627776:=by omega
   have hp2:t.length<=1099511627776:=by omega
   have hf:X42 (X20 a0.length++X0t t++X0o v)=X04 a0:=by
    unfold X04
    rw[Yah ⟨q5,q4⟩,<-q8,<-q9]
   exact⟨hp2,by omega,hp,by omega,hf⟩
def X1r.e:GE:=mE X7A func102 [9] [X5l.e,X27.e,X5c.e,X1X.e,X1m.e] [] (λi x=>X1r.L x) (λi x=>X1r.F x) λi x h _ _=>X1r.p x h
def X7k(s:Ser)(n:Nat):List UInt8:=X20 s.1.length++(s.1++(X20 n++(X20 (X04 s.2).length++(X20 (s.2.getD 0 (0,0)).1++X20 (s.2.getD (s.2.length - 1) (0,0)).1))))
def XqI(p:List UInt8×List UInt8)(s:Ser):List UInt8×List UInt8:=(p.1++X04 s.2,p.2++X7k s p.1.length)
def Xvl(l:List Ser):List UInt8×List UInt8:=l.foldl XqI ([116,115,98,49],[])
def Xnk(p:List UInt8×List UInt8):List UInt8:=p.1++(p.2++X12 p.1.length 4)
def X0x(l:List Ser):List UInt8:=if X0M l=true/\l≠[] then Xnk (Xvl l)++X12 (XjE (Xnk (Xvl l))) 4 else []
theorem X74(l:List Pt):(X04 l).length<=2014:=by
 unfold X04;split
 . exact Xls _
 . simp
theorem XiD{l:List Ser}(h:X0M l=true):l.length<=5/\∀i,i<l.length->(l.getD i ([],[])).1.length<=8/\1<=(l.getD i ([],[])).1.length/\(l.getD i ([],[])).2.length≠0/\X0K (l.getD i ([],[])).2=true:=by
 simp only[X0M,Yac,Yaj,XhM]at h
 refine⟨h.1,λi hi=>?_⟩
 have:=h.2 i hi
 simp only[Xmd,Yac,Yaj,X6w,X0N]at this
 exact⟨by omega,by omega,this.2.2.1,this.2.2.2⟩
theorem Xk1{s:Ser}{n:Nat}(h:s.1.length<=8):(X7k s n).length<=43:=by
 have h1:=X0w s.1.length
 have h2:=X0w n
 have h3:=X0w (X04 s.2).length
 have h4:=X0w (s.2.getD 0 (0,0)).1
 have h5:=X0w (s.2.getD (s.2.length - 1) (0,0)).1
 simp only[X7k,Yab];omega
structure ftI (l:List Ser) (t x:List UInt8) (i:Int):Prop where
 h1:0<=i
 h2:i<=l.length
 h3:X0M l=true
 h4:l≠[]
 h5:(t,x)=Xvl (l.take i.toNat)
 h6:(t.length:Int)<=4+2014*i
 h7:(x.length:Int)<=43*i
def ftM(l:List Ser)(t x:List UInt8)(i:Int):Nat:=(l.length - i).toNat
theorem XsF{l:List Ser}{t x t' x':List UInt8}{i:Int}(h:ftI l t x i)(hi:i<l.length)(ht:t'=t++X04 (l.getD i.toNat ([],[])).2)(hx:x'=x++X7k (l.getD i.toNat ([],[])) t.length):ftI l t' x' (i+1):=by
 obtain⟨h1,h2,h3,h4,h5,h6,h7⟩:=h
 have hs:=(XiD h3).2 i.toNat (by omega)
 have b1:=X74 (l.getD i.toNat ([],[])).2
 have b2:=Xk1 (n:=t.length) hs.1
 refine⟨by omega,by omega,h3,h4,?_,by rw[ht,Yab];omega,by rw[hx,Yab];omega⟩
 rw[tn1 h1,X0J ([],[]) (by omega)]
 unfold Xvl at h5 ⊢
 rw[YbG,<-h5,ht,hx]
 rfl
theorem XuL{l:List Ser}{t x:List UInt8}{i:Int}(h:ftI l t x i)(hi:¬i<l.length):(t++(x++X12 t.length 4))++X12 (XjE (t++(x++X12 t.length 4))) 4=X0x l:=by
 obtain⟨h1,h2,h3,h4,h5,h6,h7⟩:=h
 have e:i.toNat=l.length:=by omega
 rw[e,Yat]at h5
 unfold X0x
 rw[Yah ⟨h3,h4⟩,<-h5]
 rfl
theorem Xhs{l:List Ser}(h:X0M l=false):[]=X0x l:=by simp[X0x,h]
theorem XoI{l:List Ser}(h:X0M l=true)(h2:l≠[]):ftI l [116,115,98,49] [] 0:=⟨by omega,by omega,h,h2,rfl,by simp,by simp⟩
def X9r:Con:=cQ X5m [.one] .str [(false,1)] (λa=>(X3s a)) λa=>(X0x a)
def X25.F(a0:(List U3q)):Prop:=((X3s a0)/\∀r1,(Eq r1 ((X0M a0),((),())))->(X00 (!r1.1) (Eq ([],((),())) ((X0x a0),((),()))) (X00 ((ln a0)==(0:Int)) (Eq ([],((),())) ((X0x a0),((),()))) (eS [(0,.val false [.lst T5q a0 none])] [(0,.val false [.lst T5q a0 none])]/\((ftI a0 [116,115,98,49] [] 0)/\∀(y2:(U6q×(U6q×Int))),(ftI a0 y2.1 y2.2.1 y2.2.2)->(X00 (decide (y2.2.2<(ln a0))) (0<=y2.2.2/\(y2.2.2<(ln a0)/\(True/\∀r3,(Eq r3 ((X04 ((List.getD a0 (tN y2.2.2) ([],[])).2)),((),())))->(0<=y2.2.2/\(y2.2.2<(ln a0)/\(True/\∀r4,(Eq r4 ((X20 (ln ((List.getD a0 (tN y2.2.2) ([],[])).1))),((),())))->(List.length y2.2.1+List.length r4.1<=9223372036854775807/\(0<=y2.2.2/\(y2.2.2<(ln a0)/\(List.length (y2.2.1++r4.1)+List.length ((List.getD a0 (tN y2.2.2) ([],[])).1)<=9223372036854775807/\(True/\∀r5,(Eq r5 ((X20 (ln y2.1)),((),())))->(List.length ((y2.2.1++r4.1)++((List.getD a0 (tN y2.2.2) ([],[])).1))+List.length r5.1<=9223372036854775807/\(True/\∀r6,(Eq r6 ((X20 (ln r3.1)),((),())))->(List.length (((y2.2.1++r4.1)++((List.getD a0 (tN y2.2.2) ([],[])).1))++r5.1)+List.length r6.1<=9223372036854775807/\(0<=(0:Int)/\((0:Int)<(ln ((List.getD a0 (tN y2.2.2) ([],[])).2))/\(True/\∀r7,(Eq r7 ((X20 ((List.getD ((List.getD a0 (tN y2.2.2) ([],[])).2) (tN (0:Int)) (0,0)).1)),((),())))->(List.length ((((y2.2.1++r4.1)++((List.getD a0 (tN y2.2.2) ([],[])).1))++r5.1)++r6.1)+List.length r7.1<=9223372036854775807/\(0<=(wI ((ln ((List.getD a0 (tN y2.2.2) ([],[])).2)) - (1:Int)))/\((wI ((ln ((List.getD a0 (tN y2.2.2) ([],[])).2)) - (1:Int)))<(ln ((List.getD a0 (tN y2.2.2) ([],[])).2))/\(True/\∀r8,(Eq r8 ((X20 ((List.getD ((List.getD a0 (tN y2.2.2) ([],[])).2) (tN (wI ((ln ((List.getD a0 (tN y2.2.2) ([],[])).2)) - (1:Int)))) (0,0)).1)),((),())))->(List.length (((((y2.2.1++r4.1)++((List.getD a0 (tN y2.2.2) ([],[])).1))++r5.1)++r6.1)++r7.1)+List.length r8.1<=9223372036854775807/\(List.length y2.1+List.length r3.1<=9223372036854775807/\(eS [(0,.val false [.lst T5q a0 none])] [(0,.val false [.lst T5q a0 none])]/\(ftI a0 (y2.1++r3.1) ((((((y2.2.1++r4.1)++((List.getD a0 (tN y2.2.2) ([],[])).1))++r5.1)++r6.1)++r7.1)++r8.1) (wI (y2.2.2+(1:Int))))/\(ftM a0 (y2.1++r3.1) ((((((y2.2.1++r4.1)++((List.getD a0 (tN y2.2.2) ([],[])).1))++r5.1)++r6.1)++r7.1)++r8.1) (wI (y2.2.2+(1:Int))))<(ftM a0 y2.1 y2.2.1 y2.2.2))))))))))))))))))))))))) (List.length y2.1+List.length y2.2.1<=9223372036854775807/\((XaO (ln y2.1) 4)/\∀r9,(Eq r9 ((X12 (ln y2.1) 4),((),())))->(List.length (y2.1++y2.2.1)+List.length r9.1<=9223372036854775807/\((XqE ((y2.1++y2.2.1)++r9.1))/\∀r10,(Eq r10 ((XjE ((y2.1++y2.2.1)++r9.1)),((),())))->((XaO r10.1 4)/\∀r11,(Eq r11 ((X12 r10.1 4),((),())))->(List.length ((y2.1++y2.2.1)++r9.1)+List.length r11.1<=9223372036854775807/\(Eq ((((y2.1++y2.2.1)++r9.1)++r11.1),((),())) ((X0x a0),((),())))))))))))))))
def X25.L(a0:(List U3q)):Nat->Option X0e:=XLK [(250,⟨⟨[0],[3,4,5],[],[]⟩,(.pair .str XqA),λst y=>ftI a0 y.1 y.2.1 y.2.2,λst y=>ftM a0 y.1 y.2.1 y.2.2⟩)]
theorem X25.p(a0:(List U3q))(h:(X3s a0)):X25.F a0:=by
 delta X25.F ln tN wI eS
 have hk:X3s a0:=h
 simp only[Bs,B0,B1,Yaa,X01,XaO]
 refine⟨hk,λh1=>Xhs h1,λh1=>⟨λh2=>?_,λh2=>⟨XoI h1 (λe=>by subst e;exact h2 rfl),?_⟩⟩⟩
 . have:a0=[]:=YaL.1 (by omega)
   subst this;rfl
 rintro⟨t,x,i⟩ hI
 simp only at hI ⊢
 have q1:=hI.h1
 have q2:=hI.h2
 have q6:=hI.h6
 have q7:=hI.h7
 have hs0:=XiD hI.h3
 refine⟨λhi=>?_,λhi=>?_⟩
 . have hs:=hs0.2 i.toNat (by omega)
   have st:∀t' x',t'=t++X04 (a0.getD i.toNat ([],[])).2->x'=x++X7k (a0.getD i.toNat ([],[])) t.length->ftI a0 t' x' (i+1):=λt' x'=>XsF hI hi
   have dn:∀t' x',ftM a0 t' x' (i+1)<ftM a0 t x i:=λt' x'=>by unfold ftM;omega
   unfold X7k at st
   generalize a0.getD i.toNat ([],[])=s at*
   have b1:=X74 s.2
   have v1:=X0w s.1.length
   have v2:=X0w t.length
   have v3:=X0w (X04 s.2).length
   have v4:=X0w (s.2.getD 0 (0,0)).1
   have v5:=X0w (s.2.getD (s.2.length - 1) (0,0)).1
   have v6:=X9G hs.2.2.2
   have e1:((s.2.length:Int) - 1).toNat=s.2.length - 1:=by omega
   have e0:(0:Int).toNat=0:=rfl
   simp (disch:=omega) only[w64,e1,e0]
   repeat' (with_reducible (first | (refine And.intro ?_ ?_) | intro _))
   all_goals (first | omega | exact dn _ _ | (refine st _ _ ?_ ?_<;>simp only[Yam]) | skip)
 . have f1:=X4i t.length 4
   have he:=XuL hI hi
   have f2:=X4i (XjE (t++(x++X12 t.length 4))) 4
   have c1:=Xic (t++(x++X12 t.length 4))
   simp only[<-Yam]at he f2 c1 ⊢
   repeat' (with_reducible (first | (refine And.intro ?_ ?_) | intro _))
   all_goals (first | omega | exact he | (unfold XqE maxLen;simp only[Yab];omega) | skip)
def X25.e:GE:=mE X9r func123 [9] [X1t.e,X1z.e,X57.e,X4H.e,X6l.e] [] (λi x=>X25.L x) (λi x=>X25.F x) λi x h _ _=>X25.p x h
def X8J:Con:=cQ X5m [.one] .str [(false,1)] (λa=>(X3s a)) λa=>(X0x a)
def X23.F(a0:(List U3q)):Prop:=((X3s a0)/\∀r1,(Eq r1 ((X0M a0),((),())))->(X00 (!r1.1) (Eq ([],((),())) ((X0x a0),((),()))) (X00 ((ln a0)==(0:Int)) (Eq ([],((),())) ((X0x a0),((),()))) (eS [(16,.val false [.lst T5q a0 none]),(17,.val false [.int .i64 (ln a0)])] [(16,.val false [.lst T5q a0 none]),(17,.val false [.int .i64 (ln a0)])]/\((ftI a0 [116,115,98,49] [] 0)/\∀(y2:(U6q×(U6q×Int))),(ftI a0 y2.1 y2.2.1 y2.2.2)->(X00 (decide (y2.2.2<(ln a0))) (0<=y2.2.2/\(y2.2.2<(ln a0)/\(True/\∀r3,(Eq r3 ((X04 ((List.getD a0 (tN y2.2.2) ([],[])).2)),((),())))->(True/\∀r4,(Eq r4 ((X20 (ln ((List.getD a0 (tN y2.2.2) ([],[])).1))),((),())))->(List.length r4.1+List.length ((List.getD a0 (tN y2.2.2) ([],[])).1)<=9223372036854775807/\(True/\∀r5,(Eq r5 ((X20 (ln y2.1)),((),())))->(List.length (r4.1++((List.getD a0 (tN y2.2.2) ([],[])).1))+List.length r5.1<=9223372036854775807/\(True/\∀r6,(Eq r6 ((X20 (ln r3.1)),((),())))->(List.length ((r4.1++((List.getD a0 (tN y2.2.2) ([],[])).1))++r5.1)+List.length r6.1<=9223372036854775807/\(0<=(0:Int)/\((0:Int)<(ln ((List.getD a0 (tN y2.2.2) ([],[])).2))/\(True/\∀r7,(Eq r7 ((X20 ((List.getD ((List.getD a0 (tN y2.2.2) ([],[])).2) (tN (0:Int)) (0,0)).1)),((),())))->(List.length (((r4.1++((List.getD a0 (tN y2.2.2) ([],[])).1))++r5.1)++r6.1)+List.length r7.1<=9223372036854775807/\(0<=(wI ((ln ((List.getD a0 (tN y2.2.2) ([],[])).2)) - (1:Int)))/\((wI ((ln ((List.getD a0 (tN y2.2.2) ([],[])).2)) - (1:Int)))<(ln ((List.getD a0 (tN y2.2.2) ([],[])).2))/\(True/\∀r8,(Eq r8 ((X20 ((List.getD ((List.getD a0 (tN y2.2.2) ([],[])).2) (tN (wI ((ln ((List.getD a0 (tN y2.2.2) ([],[])).2)) - (1:Int)))) (0,0)).1)),((),())))->(List.length ((((r4.1++((List.getD a0 (tN y2.2.2) ([],[])).1))++r5.1)++r6.1)++r7.1)+List.length r8.1<=9223372036854775807/\(List.length y2.2.1+List.length (((((r4.1++((List.getD a0 (tN y2.2.2) ([],[])).1))++r5.1)++r6.1)++r7.1)++r8.1)<=9223372036854775807/\(List.length y2.1+List.length r3.1<=9223372036854775807/\(eS [(16,.val false [.lst T5q a0 none]),(17,.val false [.int .i64 (ln a0)])] [(16,.val false [.lst T5q a0 none]),(17,.val false [.int .i64 (ln a0)])]/\(ftI a0 (y2.1++r3.1) (y2.2.1++(((((r4.1++((List.getD a0 (tN y2.2.2) ([],[])).1))++r5.1)++r6.1)++r7.1)++r8.1)) (wI (y2.2.2+(1:Int))))/\(ftM a0 (y2.1++r3.1) (y2.2.1++(((((r4.1++((List.getD a0 (tN y2.2.2) ([],[])).1))++r5.1)++r6.1)++r7.1)++r8.1)) (wI (y2.2.2+(1:Int))))<(ftM a0 y2.1 y2.2.1 y2.2.2))))))))))))))))))))) ((XaO (ln y2.1) 4)/\∀r9,(Eq r9 ((X12 (ln y2.1) 4),((),())))->(List.length y2.2.1+List.length r9.1<=9223372036854775807/\(List.length y2.1+List.length (y2.2.1++r9.1)<=9223372036854775807/\((XqE (y2.1++(y2.2.1++r9.1)))/\∀r10,(Eq r10 ((XjE (y2.1++(y2.2.1++r9.1))),((),())))->((XaO r10.1 4)/\∀r11,(Eq r11 ((X12 r10.1 4),((),())))->(List.length (y2.1++(y2.2.1++r9.1))+List.length r11.1<=9223372036854775807/\(Eq (((y2.1++(y2.2.1++r9.1))++r11.1),((),())) ((X0x a0),((),())))))))))))))))
def X23.L(a0:(List U3q)):Nat->Option X0e:=XLK [(122,⟨⟨[16,17],[3,4,18],[],[]⟩,(.pair .str XqA),λst y=>ftI a0 y.1 y.2.1 y.2.2,λst y=>ftM a0 y.1 y.2.1 y.2.2⟩)]
theorem X23.p(a0:(List U3q))(h:(X3s a0)):X23.F a0:=by
 delta X23.F ln tN wI eS
 have hk:X3s a0:=h
 simp only[Bs,B0,B1,Yaa,X01,XaO]
 refine⟨hk,λh1=>Xhs h1,λh1=>⟨λh2=>?_,λh2=>⟨XoI h1 (λe=>by subst e;exact h2 rfl),?_⟩⟩⟩
 . have:a0=[]:=YaL.1 (by omega)
   subst this;rfl
 rintro⟨t,x,i⟩ hI
 simp only at hI ⊢
 have q1:=hI.h1
 have q2:=hI.h2
 have q6:=hI.h6
 have q7:=hI.h7
 have hs0:=XiD hI.h3
 refine⟨λhi=>?_,λhi=>?_⟩
 . have hs:=hs0.2 i.toNat (by omega)
   have st:∀t' x',t'=t++X04 (a0.getD i.toNat ([],[])).2->x'=x++X7k (a0.getD i.toNat ([],[])) t.length->ftI a0 t' x' (i+1):=λt' x'=>XsF hI hi
   have dn:∀t' x',ftM a0 t' x' (i+1)<ftM a0 t x i:=λt' x'=>by unfold ftM;omega
   unfold X7k at st
   generalize a0.getD i.toNat ([],[])=s at*
   have b1:=X74 s.2
   have v1:=X0w s.1.length
   have v2:=X0w t.length
   have v3:=X0w (X04 s.2).length
   have v4:=X0w (s.2.getD 0 (0,0)).1
   have v5:=X0w (s.2.getD (s.2.length - 1) (0,0)).1
   have v6:=X9G hs.2.2.2
   have e1:((s.2.length:Int) - 1).toNat=s.2.length - 1:=by omega
   have e0:(0:Int).toNat=0:=rfl
   simp (disch:=omega) only[w64,e1,e0]
   repeat' (with_reducible (first | (refine And.intro ?_ ?_) | intro _))
   all_goals (first | omega | exact dn _ _ | (refine st _ _ ?_ ?_<;>simp only[Yam]) | skip)
 . have f1:=X4i t.length 4
   have he:=XuL hI hi
   have f2:=X4i (XjE (t++(x++X12 t.length 4))) 4
   have c1:=Xic (t++(x++X12 t.length 4))
   simp only[<-Yam]at he f2 c1 ⊢
   repeat' (with_reducible (first | (refine And.intro ?_ ?_) | intro _))
   all_goals (first | omega | exact he | (unfold XqE maxLen;simp only[Yab];omega) | skip)
def X23.e:GE:=mE X8J func196 [9] [X1r.e,X28.e,X5l.e,X4F.e,X6m.e] [] (λi x=>X23.L x) (λi x=>X23.F x) λi x h _ _=>X23.p x h
def dec:List UInt8->Nat
 | []=>0
 | b::l=>b.toNat % 128+128*dec l
theorem Xka(l:List UInt8)(b:UInt8):dec (l++[b])=dec l+(b.toNat % 128)*128 ^ l.length:=by
 induction l with
 | nil=>simp[dec]
 | cons c l ih=>
   simp only[Ybb,dec,ih,Yad,Yc8]
   rw[Nat.mul_add]
   have:128*(b.toNat % 128*128 ^ l.length)=b.toNat % 128*(128 ^ l.length*128):=by rw[Nat.mul_comm 128,Nat.mul_assoc]
   omega
theorem Xp2(l:List UInt8):dec l<128 ^ l.length:=by
 induction l with
 | nil=>simp[dec]
 | cons c l ih=>
   simp only[dec,Yad,Yc8]
   omega
theorem Xel(a:Int)(l:List Int):X3q (a::l)=UInt8.ofNat a.toNat::X3q l:=rfl
theorem Xoy{n:Nat}{b:UInt8}(h:n<256):UInt8.ofNat n=b↔n=b.toNat:=by
 constructor
 . intro e;rw[<-e];simp[Ycg h]
 . intro e;rw[e];simp
def Xed(l:List UInt8):Prop:=X3q (vb (dec l))=l
theorem Xme(b:UInt8):Xed [b]↔b.toNat<128:=by
 unfold Xed
 have hb:=b.toNat_lt
 rw[show dec [b]=b.toNat % 128 by simp[dec],Xcc (by omega)]
 rw[Xel]
 simp only[X3q,YaG,Ycm,Ybn,YaE]
 rw[Xoy (by omega)]
 omega
theorem XkC(b c:UInt8)(r:List UInt8):Xed (b::c::r)↔128<=b.toNat/\dec (c::r)≠0/\Xed (c::r):=by
 have hb:=b.toNat_lt
 unfold Xed
 rw[show dec (b::c::r)=b.toNat % 128+128*dec (c::r) from rfl]
 generalize hd:dec (c::r)=d
 by_cases h0:d=0
 . subst h0
   rw[Xcc (by omega)]
   constructor
   . intro h;have:=Ybo List.length h;simp[X3q]at this
   . intro h;exact absurd rfl h.2.1
 . rw[Xke (by omega),Xel]
   have e1:(b.toNat % 128+128*d) / 128=d:=by omega
   have e2:(b.toNat % 128+128*d) % 128=b.toNat % 128:=by omega
   rw[e1,e2]
   simp only[Ycm,YaE]
   rw[Xoy (by omega)]
   constructor
   . rintro⟨h1,h2⟩;exact⟨by omega,h0,h2⟩
   . rintro⟨h1,_,h2⟩;exact⟨by omega,h2⟩
theorem Xee(x:UInt8):∀(pre:List UInt8),Xed (pre++[x])↔x.toNat<128/\(∀b∈pre,128<=b.toNat)/\(pre=[]\/x.toNat≠0)
 | []=>by simp[Xme]
 | [b]=>by
   show Xed [b,x]↔_
   rw[XkC,Xme]
   have:dec [x]=x.toNat % 128:=by simp[dec]
   rw[this]
   simp
   omega
 | b::c::r=>by
   show Xed (b::c::(r++[x]))↔_
   rw[XkC]
   have ih:=Xee x (c::r)
   rw[show c::(r++[x])=(c::r)++[x] from rfl,ih]
   have hd:x.toNat<128->x.toNat≠0->dec ((c::r)++[x])≠0:=by
    intro h1 h2
    rw[Xka]
    have:0<x.toNat % 128*128 ^ (c::r).length:=Nat.mul_pos (by omega) (Nat.pow_pos (by omega))
    omega
   simp
   constructor
   . rintro⟨h1,h2,h3,⟨h4,h5⟩,h6⟩
     exact⟨h3,⟨h1,h4,h5⟩,h6⟩
   . rintro⟨h3,⟨h1,h4,h5⟩,h6⟩
     exact⟨h1,hd h3 h6,h3,⟨h4,h5⟩,h6⟩
instance (l:List UInt8):Decidable (Xed l):=inferInstanceAs (Decidable (X3q (vb (dec l))=l))
def XjW(s:List UInt8)(k:Nat):Bool:=decide (k<=s.length)&&decide (Xed (s.take k))
def X0j(s:List UInt8):Int×Int:=match (List.range 7).find? (λj=>XjW s (j+1)) with
 | some j=>((dec (s.take (j+1)):Int),(j:Int)+1)
 | none=>(0,0)
theorem XbT{s:List UInt8}{j:Nat}(hj:j<7)(h:XjW s (j+1)=true)(hn:∀i,i<j->XjW s (i+1)=false):X0j s=((dec (s.take (j+1)):Int),(j:Int)+1):=by
 unfold X0j
 rw[(List.find?_range_eq_some (p:=λj=>XjW s (j+1))).2 ⟨h,by simpa using hj,λi hi=>by simp[hn i hi]⟩]
theorem Xav{s:List UInt8}(hn:∀i,i<7->XjW s (i+1)=false):X0j s=(0,0):=by
 unfold X0j
 rw[List.find?_eq_none.2 λi hi=>by simp[hn i (by simpa using hi)]]
theorem Xp5{l:List UInt8}(h:l.length<=7):X20 (dec l:Int)=X3q (vb (dec l)):=by
 have:=Xp2 l
 have h2:128 ^ l.length<=128 ^ 7:=Ycf (by omega) h
 unfold X20
 rw[Yah (by simp[fIn];omega)]
 simp
theorem Xqh{s:List UInt8}{i k:Nat}(hi:i<s.length)(hb:(s.getD i 0).toNat<128)(hik:i+1<k):XjW s k=false:=by
 unfold XjW
 cases hk:decide (k<=s.length) with
 | false=>rfl
 | true=>
   simp only[YaT,Yay]
   have hk':k<=s.length:=by simpa using hk
   intro hc
   have e:s.take k=s.take (k - 1)++[s.getD (k - 1) 0]:=by
    rw[show k=(k - 1)+1 by omega,Yb1 (by omega)]
    simp[Yap,Yav (show k - 1<s.length by omega)]
   rw[e,Xee]at hc
   have:=hc.2.1 (s.getD i 0) (by
    rw[Yap,Yav hi]
    simp only[Option.getD_some]
    exact List.mem_take_iff_getElem.2 ⟨i,by omega,rfl⟩)
   omega
theorem Xmp{s:List UInt8}{i:Nat}(hi:i<s.length)(hb:128<=(s.getD i 0).toNat):XjW s (i+1)=false:=by
 unfold XjW
 simp only[Yc0,Yay]
 right
 have e:s.take (i+1)=s.take i++[s.getD i 0]:=by
  rw[Yb1 hi]
  simp[Yap,Yav hi]
 rw[e,Xee]
 omega
theorem Xcr{s:List UInt8}{i:Nat}(hi:i<s.length):s.take (i+1)=s.take i++[s.getD i 0]:=by
 rw[Yb1 hi]
 simp[Yap,Yav hi]
theorem Xm6{s:List UInt8}{k:Nat}(h:s.length<k):XjW s k=false:=by
 unfold XjW
 simp;omega
theorem X4h(s:List UInt8):0<=(X0j s).1/\(X0j s).1<=562949953421311/\0<=(X0j s).2/\(X0j s).2<=s.length/\(X0j s).2<=7:=by
 unfold X0j
 split
 . rename_i j hj
   obtain⟨h1,h2,_⟩:=List.find?_range_eq_some.1 hj
   have h3:j<7:=by simpa using h2
   simp only[XjW,Yac,Yaj]at h1
   have:=Xp2 (s.take (j+1))
   have h4:128 ^ (s.take (j+1)).length<=128 ^ 7:=Ycf (by omega) (by simp;omega)
   simp only
   omega
 . simp
def rvO(s:List UInt8)(k:Int):Prop:=1<=k/\k<=8/\∀i:Nat,(i:Int)+1<k->XjW s (i+1)=false
def rvOm(s:List UInt8)(k:Int):Nat:=(8 - k).toNat
def rvI(s:List UInt8)(k n i:Int):Prop:=-1<=i/\i<k/\1<=k/\k<=7/\k<=(s.length:Int)/\n=((dec ((s.take k.toNat).drop (i+1).toNat):Nat):Int)
def rvIm(s:List UInt8)(k n i:Int):Nat:=(i+1).toNat
theorem Xjw(l:List UInt8)(k:Nat)(h:l.length<=7):dec (l.drop k)<128 ^ 7:=
 Ybc (Xp2 _) (Ycf (by omega) (by simp;omega))
def X9Z:Con:=cQ .str [.one] T0q [(false,1),(false,1)] (λ_=>True) λa=>(X0j a)
def X2x.F(a0:U6q):Prop:=(eS [(0,.val false [.str a0])] [(0,.val false [.str a0])]/\((rvO a0 1)/\∀(y1:Int),(rvO a0 y1)->(X00 (decide (y1<=(7:Int))) (X00 (decide (y1<=(ln a0))) (eS [(0,.val false [.str a0]),(4,.val false [.int .i64 y1]),(10,.val false [.int .i64 y1]),(11,.val false [.str a0]),(12,.val false [.int .i64 (ln a0)]),(13,.val false [.bool (decide (y1<=(ln a0)))])] [(0,.val false [.str a0]),(4,.val false [.int .i64 y1]),(10,.val false [.int .i64 y1]),(11,.val false [.str a0]),(12,.val false [.int .i64 (ln a0)]),(13,.val false [.bool (decide (y1<=(ln a0)))])]/\((rvI a0 y1 0 (wI (y1 - (1:Int))))/\∀(y2:(Int×Int)),(rvI a0 y1 y2.1 y2.2)->(X00 (decide (y2.2>=(0:Int))) (0<=y2.2/\(y2.2<(ln a0)/\((128:Int)≠0/\(eS [(0,.val false [.str a0]),(4,.val false [.int .i64 y1]),(10,.val false [.int .i64 y1]),(11,.val false [.str a0]),(12,.val false [.int .i64 (ln a0)]),(13,.val false [.bool (decide (y1<=(ln a0)))])] [(0,.val false [.str a0]),(4,.val false [.int .i64 y1]),(10,.val false [.int .i64 y1]),(11,.val false [.str a0]),(12,.val false [.int .i64 (ln a0)]),(13,.val false [.bool (decide (y1<=(ln a0)))])]/\(rvI a0 y1 (wI ((wI (y2.1*(128:Int)))+(Int.tmod (wI ((UInt8.toNat (List.getD a0 (tN y2.2) 0):Nat):Int)) (128:Int)))) (wI (y2.2 - (1:Int))))/\(rvIm a0 y1 (wI ((wI (y2.1*(128:Int)))+(Int.tmod (wI ((UInt8.toNat (List.getD a0 (tN y2.2) 0):Nat):Int)) (128:Int)))) (wI (y2.2 - (1:Int))))<(rvIm a0 y1 y2.1 y2.2))))) (True/\∀r3,(Eq r3 ((X20 y2.1),((),())))->(0<=y1/\(y1<=(ln a0)/\(X00 (r3.1==(List.take (tN y1) a0)) (Eq ((y2.1,y1),((),())) ((X0j a0),((),()))) (eS [(0,.val false [.str a0])] [(0,.val false [.str a0])]/\(rvO a0 (wI (y1+(1:Int))))/\(rvOm a0 (wI (y1+(1:Int))))<(rvOm a0 y1))))))))) (Eq ((0,0),((),())) ((X0j a0),((),())))) (Eq ((0,0),((),())) ((X0j a0),((),()))))))
def X2x.L(a0:U6q):Nat->Option X0e:=XLK [(26,⟨⟨[0],[4],[],[]⟩,(.int .i64),λst y=>rvO a0 y,λst y=>rvOm a0 y⟩),(6730,⟨⟨[0,4,10,11,12,13],[5,6],[],[]⟩,T0q,λst y=>rvI a0 (XuG (Xho st 4 0)) y.1 y.2,λst y=>rvIm a0 (XuG (Xho st 4 0)) y.1 y.2⟩)]
theorem X2x.p(a0:U6q)(h:True):X2x.F a0:=by
 delta X2x.F ln tN wI eS
 simp only[YbJ,Ybw,Ybn,X01,Yaa,Yaj,Yay]
 refine⟨⟨by omega,by omega,λi hi=>by omega⟩,λk hk=>?_⟩
 obtain⟨hk1,hk8,hno⟩:=hk
 refine⟨λh7=>⟨λhl=>⟨?_,λy hy=>?_⟩,λhl=>?_⟩,λh7=>?_⟩
 . rw[Yau _ (by omega)]
   refine⟨by omega,by omega,by omega,by omega,by omega,?_⟩
   rw[show(k - 1+1).toNat=k.toNat by omega,List.drop_eq_nil_of_le (by simp;omega)]
   rfl
 . obtain⟨n,i⟩:=y
   obtain⟨h1,h2,h3,h4,h5,h6⟩:=hy
   simp only at h1 h2 h6 ⊢
   have hb:=Xjw (a0.take k.toNat) (i+1).toNat (by simp;omega)
   refine⟨λh0=>⟨by omega,by omega,by omega,?_,?_⟩,λh0=>?_⟩
   . have hx:=(a0.getD i.toNat 0).toNat_lt
     have e1:IntKind.wrap .i64 (((a0.getD i.toNat 0).toNat:Nat):Int)=(((a0.getD i.toNat 0).toNat:Nat):Int):=Yau _ (by omega)
     have hcons:(a0.take k.toNat).drop i.toNat=a0.getD i.toNat 0::(a0.take k.toNat).drop (i+1).toNat:=by
      rw[show(i+1).toNat=i.toNat+1 by omega,YbC (by simp;omega)]
      simp[Yap,Yav (show i.toNat<a0.length by omega)]
     have hb2:=Xjw (a0.take k.toNat) i.toNat (by simp;omega)
     have hdec:dec ((a0.take k.toNat).drop i.toNat)=(a0.getD i.toNat 0).toNat % 128+128*dec ((a0.take k.toNat).drop (i+1).toNat):=by rw[hcons];rfl
     have e2:Int.tmod (((a0.getD i.toNat 0).toNat:Nat):Int) 128=(((a0.getD i.toNat 0).toNat:Nat):Int) % 128:=Yax (by omega)
     rw[e1,e2,Yau (n*128) (by omega),Yau (n*128+_) (by omega),Yau (i - 1) (by omega)]
     refine⟨by omega,by omega,h3,h4,h5,?_⟩
     rw[show(i - 1+1).toNat=i.toNat by omega,hdec]
     omega
   . rw[Yau (i - 1) (by omega)]
     show(i - 1+1).toNat<(i+1).toNat
     omega
   . have hi:i= -1:=by omega
     subst hi
     have e0:((-1:Int)+1).toNat=0:=rfl
     rw[e0,YbP]at h6
     have hv:X20 n=X3q (vb (dec (a0.take k.toNat))):=by rw[h6];exact Xp5 (by simp;omega)
     have hok:XjW a0 k.toNat=(X20 n==a0.take k.toNat):=by
      have hlk:decide (k.toNat<=a0.length)=true:=by simp;omega
      unfold XjW
      rw[hlk,hv,YaT]
      by_cases hc:Xed (a0.take k.toNat)
      . rw[Yaz hc];unfold Xed at hc;rw[hc];simp
      . rw[Yaw hc];unfold Xed at hc;symm;simp[hc]
     refine⟨by omega,by omega,λhy=>?_,λhn=>⟨?_,?_⟩⟩
     . rw[hy]at hok
       rw[XbT (j:=k.toNat - 1) (by omega) (by rw[show k.toNat - 1+1=k.toNat by omega];exact hok) (λi hi=>hno i (by omega))]
       rw[show k.toNat - 1+1=k.toNat by omega,h6]
       simp only[Yaa,Ybw]
       omega
     . rw[Yau _ (by omega)]
       refine⟨by omega,by omega,λi hi=>?_⟩
       by_cases he:(i:Int)+1<k
       . exact hno i he
       . rw[show i+1=k.toNat by omega,hok];exact hn
     . rw[Yau _ (by omega)]
       show(8 - (k+1)).toNat<(8 - k).toNat
       omega
 . exact (Xav λi hi=>by
    by_cases he:(i:Int)+1<k
    . exact hno i he
    . exact Xm6 (by omega)).symm
 . exact(Xav λi hi=>hno i (by omega)).symm
def X2x.e:GE:=mE X9Z func112 [3,3] [X57.e] [] (λi x=>X2x.L x) (λi x=>X2x.F x) λi x h _ _=>X2x.p x h
def rwI(s:List UInt8)(n i:Int):Prop:=0<=i/\i<=7/\i<=(s.length:Int)/\n=((dec (s.take i.toNat):Nat):Int)/\∀j:Nat,(j:Int)<i->128<=(s.getD j 0).toNat
def rwM(s:List UInt8)(n i:Int):Nat:=(8 - i).toNat
theorem XvH(i:Nat):(2:Int) ^ (7*i)=((128 ^ i:Nat):Int):=by
 rw[Int.pow_mul];simp
theorem Xjp{s:List UInt8}{i:Nat}(hi:i<s.length)(hb:(s.getD i 0).toNat<128)(hp:∀j:Nat,j<i->128<=(s.getD j 0).toNat):XjW s (i+1)=(decide (i=0)||decide ((s.getD i 0).toNat≠0)):=by
 unfold XjW
 rw[show decide (i+1<=s.length)=true by simp;omega,YaT,Xcr hi]
 have hpre:∀b∈s.take i,128<=b.toNat:=by
  intro b hm
  obtain⟨j,hj,e⟩:=List.mem_take_iff_getElem.1 hm
  have:=hp j (by omega)
  rw[Yap,Yav (by omega)]at this
  rw[<-e];exact this
 have hnil:s.take i=[]↔i=0:=by
  constructor
  . intro e;have:=Ybo List.length e;simp at this;rcases this with h | h
    . exact h
    . rw[h]at hi;simp at hi
  . intro e;subst e;rfl
 have hiff:=Xee (s.getD i 0) (s.take i)
 by_cases hc:i=0\/(s.getD i 0).toNat≠0
 . have:Xed (s.take i++[s.getD i 0]):=hiff.2 ⟨hb,hpre,hc.imp hnil.2 id⟩
   rw[Yaz this]
   rcases hc with h | h
   . rw[Yaz h,Ydn]
   . rw[Yaz h,Ycp]
 . have:¬Xed (s.take i++[s.getD i 0]):=λh=>hc ((hiff.1 h).2.2.imp hnil.1 id)
   rw[Yaw this]
   have h1:¬i=0:=λh=>hc (.inl h)
   have h2:(s.getD i 0).toNat=0:=Ydj.1 λh=>hc (.inr h)
   rw[Yaw h1,Yaw (λh=>h h2)]
   rfl
def Xar:Con:=cQ .str [.one] T0q [(false,1),(false,1)] (λ_=>True) λa=>(X0j a)
def X2O.F(a0:U6q):Prop:=(eS [(0,.val false [.str a0])] [(0,.val false [.str a0])]/\((rwI a0 0 0)/\∀(y1:(Int×Int)),(rwI a0 y1.1 y1.2)->(X00 (decide (y1.2<(7:Int))) (X00 (decide (y1.2<(ln a0))) (0<=y1.2/\(y1.2<(ln a0)/\((128:Int)≠0/\(0<=(wI ((7:Int)*y1.2))/\(0<=y1.2/\(y1.2<(ln a0)/\(X00 (decide (((UInt8.toNat (List.getD a0 (tN y1.2) 0):Nat):Int)>=(128:Int))) (eS [(0,.val false [.str a0])] [(0,.val false [.str a0])]/\(rwI a0 (wI (y1.1+(wI ((wI (Int.tmod ((UInt8.toNat (List.getD a0 (tN y1.2) 0):Nat):Int) (128:Int)))*2 ^ (min (tN (wI ((7:Int)*y1.2))) (IntKind.bits .i64)))))) (wI (y1.2+(1:Int))))/\(rwM a0 (wI (y1.1+(wI ((wI (Int.tmod ((UInt8.toNat (List.getD a0 (tN y1.2) 0):Nat):Int) (128:Int)))*2 ^ (min (tN (wI ((7:Int)*y1.2))) (IntKind.bits .i64)))))) (wI (y1.2+(1:Int))))<(rwM a0 y1.1 y1.2)) (0<=y1.2/\(y1.2<(ln a0)/\(X00 (((UInt8.toNat (List.getD a0 (tN y1.2) 0):Nat):Int)==(0:Int)) (X00 (decide (y1.2>(0:Int))) (Eq ((0,0),((),())) ((X0j a0),((),()))) (Eq (((wI (y1.1+(wI ((wI (Int.tmod ((UInt8.toNat (List.getD a0 (tN y1.2) 0):Nat):Int) (128:Int)))*2 ^ (min (tN (wI ((7:Int)*y1.2))) (IntKind.bits .i64)))))),(wI (y1.2+(1:Int)))),((),())) ((X0j a0),((),())))) (Eq (((wI (y1.1+(wI ((wI (Int.tmod ((UInt8.toNat (List.getD a0 (tN y1.2) 0):Nat):Int) (128:Int)))*2 ^ (min (tN (wI ((7:Int)*y1.2))) (IntKind.bits .i64)))))),(wI (y1.2+(1:Int)))),((),())) ((X0j a0),((),()))))))))))))) (Eq ((0,0),((),())) ((X0j a0),((),())))) (Eq ((0,0),((),())) ((X0j a0),((),()))))))
def X2O.L(a0:U6q):Nat->Option X0e:=XLK [(58,⟨⟨[0],[4,5],[],[]⟩,T0q,λst y=>rwI a0 y.1 y.2,λst y=>rwM a0 y.1 y.2⟩)]
theorem X2O.p(a0:U6q)(h:True):X2O.F a0:=by
 delta X2O.F ln tN wI eS
 simp only[YbJ,Ybw,Ybn,X01,Yaa,Yaj,Yay,YbS,YbF]
 refine⟨⟨by omega,by omega,by omega,rfl,λj hj=>by omega⟩,λy hy=>?_⟩
 obtain⟨n,i⟩:=y
 obtain⟨h1,h2,h3,h4,h5⟩:=hy
 simp only at h1 h2 h3 h4 h5 ⊢
 have hlast:∀j:Nat,(j:Int)<i->XjW a0 (j+1)=false:=λj hj=>Xmp (by omega) (h5 j hj)
 refine⟨λh7=>⟨λhl=>?_,λhl=>?_⟩,λh7=>?_⟩
 . have hx:=(a0.getD i.toNat 0).toNat_lt
   have e2:Int.tmod (((a0.getD i.toNat 0).toNat:Nat):Int) 128=(((a0.getD i.toNat 0).toNat % 128:Nat):Int):=by
    rw[Yax (by omega)];omega
   have e7:IntKind.wrap .i64 (7*i)=7*i:=Yau _ (by omega)
   have eb:IntKind.bits .i64=64:=rfl
   have em:min (7*i).toNat 64=7*i.toNat:=by omega
   have hdl:=Xp2 (a0.take i.toNat)
   have htl:(a0.take i.toNat).length=i.toNat:=by simp;omega
   rw[htl]at hdl
   have hpw:128 ^ i.toNat<=128 ^ 6:=Ycf (by omega) (by omega)
   have hmul:(a0.getD i.toNat 0).toNat % 128*128 ^ i.toNat<=127*128 ^ 6:=Nat.mul_le_mul (by omega) hpw
   have hdec:dec (a0.take (i.toNat+1))=dec (a0.take i.toNat)+(a0.getD i.toNat 0).toNat % 128*128 ^ i.toNat:=by
    rw[Xcr (by omega),Xka,htl]
   have en:IntKind.wrap .i64 (n+IntKind.wrap .i64 (IntKind.wrap .i64 (((a0.getD i.toNat 0).toNat % 128:Nat):Int)*2 ^ (7*i.toNat)))=((dec (a0.take (i.toNat+1)):Nat):Int):=by
    rw[XvH,Yau (((a0.getD i.toNat 0).toNat % 128:Nat):Int) (by omega),<-Int.natCast_mul,Yau (((a0.getD i.toNat 0).toNat % 128*128 ^ i.toNat:Nat):Int) (by omega),Yau _ (by omega),hdec]
    omega
   have ei:IntKind.wrap .i64 (i+1)=i+1:=Yau _ (by omega)
   simp only[e2,e7,eb,em,en,ei]
   refine⟨by omega,by omega,by omega,by omega,by omega,by omega,λhb=>⟨⟨by omega,by omega,by omega,?_,λj hj=>?_⟩,?_⟩,λhb=>⟨by omega,by omega,λhz=>⟨λhp=>?_,λhp=>?_⟩,λhz=>?_⟩⟩
   . rw[show(i+1).toNat=i.toNat+1 by omega]
   . by_cases he:(j:Int)<i
     . exact h5 j he
     . rw[show j=i.toNat by omega];omega
   . show(8 - (i+1)).toNat<(8 - i).toNat
     omega
   . refine(Xav λk hk=>?_).symm
     by_cases he:(k:Int)<i
     . exact hlast k he
     . by_cases he2:k=i.toNat
       . rw[he2,Xjp (by omega) (by omega) (λj hj=>h5 j (by omega)),Yaw (by omega),Yaw (by omega)]
         rfl
       . exact Xqh (i:=i.toNat) (by omega) (by omega) (by omega)
   . have:=XbT (s:=a0) (j:=i.toNat) (by omega) (by rw[Xjp (by omega) (by omega) (λj hj=>h5 j (by omega)),Yaz (show i.toNat=0 by omega),Ydn]) (λk hk=>hlast k (by omega))
     rw[this]
     simp only[Yaa,Ybw]
     omega
   . have:=XbT (s:=a0) (j:=i.toNat) (by omega) (by rw[Xjp (by omega) (by omega) (λj hj=>h5 j (by omega)),Yaz (show(a0.getD i.toNat 0).toNat≠0 by omega),Ycp]) (λk hk=>hlast k (by omega))
     rw[this]
     simp only[Yaa,Ybw]
     omega
 . refine(Xav λk hk=>?_).symm
   by_cases he:(k:Int)<i
   . exact hlast k he
   . exact Xm6 (by omega)
 . exact(Xav λk hk=>hlast k (by omega)).symm
def X2O.e:GE:=mE Xar func70 [3,3] [] [] (λi x=>X2O.L x) (λi x=>X2O.F x) λi x h _ _=>X2O.p x h
theorem XsA:∀(k n:Nat),n<128 ^ (k+1)->dec (X3q (vb n))=n
 | 0,n,h=>by
   rw[Xcc (by simpa using h)]
   have h':n<128:=by simpa using h
   simp only[X3q,Yaq,YaG,dec]
   simp;omega
 | k+1,n,h=>by
   by_cases hn:n<128
   . exact XsA 0 n (by simpa using hn)
   . rw[Xke hn,Xel]
     have h2:=XsA k (n / 128) (by rw[Nat.div_lt_iff_lt_mul (by omega)];rw[Yc8]at h;exact h)
     simp only[dec]
     rw[h2]
     have:(UInt8.ofNat (((128+n % 128:Nat):Int)).toNat).toNat=128+n % 128:=by
      simp only[YaE,UInt8.toNat_ofNat'];omega
     rw[this];omega
def X63(v:Int):Prop:=0<=v/\v<=562949953421311
theorem Xog{v:Int}(h:X63 v):X20 v=X3q (vb v.toNat):=by
 unfold X20;rw[Yah]
 simp[fIn];exact h
theorem XmR{v:Int}(h:X63 v):dec (X20 v)=v.toNat:=by
 rw[Xog h];exact XsA 6 _ (by have:=h.2;omega)
theorem vb_ne(n:Nat):vb n≠[]:=by
 by_cases h:n<128
 . rw[Xcc h];simp
 . rw[Xke h];simp
theorem Xb1{v:Int}(h:X63 v):0<(X20 v).length:=by
 rw[Xog h];unfold X3q;rw[Ycz]
 exact Ybh.2 (vb_ne _)
theorem Xkk{v:Int}(h:X63 v):Xed (X20 v):=by
 unfold Xed
 rw[XmR h,<-Xog h]
theorem Xpe{v:Int}(h:X63 v)(t:List UInt8):X0j (X20 v++t)=(v,((X20 v).length:Int)):=by
 have hp:=Xb1 h
 have hl:=X0w v
 have hc:=Xkk h
 obtain⟨pre,x,he⟩:∃pre x,X20 v=pre++[x]:=⟨_,_,(List.dropLast_concat_getLast (Ybh.1 hp)).symm⟩
 rw[he]at hc
 have hci:=(Xee x pre).1 hc
 have hlen:(X20 v).length=pre.length+1:=by rw[he];simp
 have htake:(X20 v++t).take (pre.length+1)=X20 v:=by rw[<-hlen];simp
 have hv:=XbT (s:=X20 v++t) (j:=pre.length) (by omega) (by
  unfold XjW
  rw[htake]
  simp only[Yac,Yaj]
  exact⟨by simp;omega,Xkk h⟩) (λi hi=>Xmp (by simp;omega) (by
   have:(X20 v++t).getD i 0=pre[i]:=by
    rw[he,Yap,Yam,YbL (by omega),Yav (by omega)];rfl
   rw[this]
   exact hci.2.1 _ (YcX _)))
 rw[hv,htake,XmR h,hlen]
 have:=h.1
 simp only[Yaa]
 omega
theorem Xrv{s:List UInt8}(h:(X0j s).2≠0):s.take (X0j s).2.toNat=X20 (X0j s).1/\X63 (X0j s).1:=by
 have hb:=X4h s
 refine⟨?_,hb.1,hb.2.1⟩
 unfold X0j at h ⊢
 cases hf:(List.range 7).find? (λj=>XjW s (j+1)) with
 | none=>rw[hf]at h;exact absurd rfl h
 | some j=>
   have h1:=List.find?_some hf
   have h2:=YbQ.1 (List.mem_of_find?_eq_some hf)
   simp only[XjW,Yac,Yaj]at h1
   have e:((j:Int)+1).toNat=j+1:=by omega
   simp only[e]
   rw[Xp5 (by rw[Yal];omega)]
   exact h1.2.symm
def enc(vs:List Int):List UInt8:=vs.flatMap X20
theorem Xlw(v:Int)(vs:List Int):enc (v::vs)=X20 v++enc vs:=rfl
abbrev Rd:=List UInt8×Bool
def X6v(i:Rd):Int×Rd:=if i.2=true/\(X0j i.1).2>0 then((X0j i.1).1,(i.1.drop (X0j i.1).2.toNat,true)) else(0,(i.1,false))
def X8N:Con:={io:=true,I:=(.pair .str .bool),A:=.unit,shA:=[],R:=(.int .i64),shR:=[(false,1)],pre:=λi _=>True,f:=some λi a=>((X6v i).1,((X6v i).2,()))}
def X3W.F(i0:(U6q×Bool)):Prop:=(True/\∀r1,(Eq r1 ((X0j i0.1),((),())))->(X00 i0.2 (X00 (!(decide (r1.1.2>(0:Int)))) (Eq (0,((i0.1,(decide (r1.1.2>(0:Int)))),())) ((X6v i0).1,((X6v i0).2,()))) (0<=r1.1.2/\(r1.1.2<=(ln i0.1)/\(Eq (r1.1.1,(((List.drop (tN r1.1.2) i0.1),(decide (r1.1.2>(0:Int)))),())) ((X6v i0).1,((X6v i0).2,())))))) (Eq (0,((i0.1,false),())) ((X6v i0).1,((X6v i0).2,())))))
theorem X3W.p(i0:(U6q×Bool))(h:True):X3W.F i0:=by
 delta X3W.F ln tN
 simp only[YbJ,Ybw,Ybn,X01,Yaa,Yaj,Yay,YaP,Ybl]
 have hb:=X4h i0.1
 refine⟨λh1=>⟨λh2=>?_,λh2=>⟨by omega,by omega,?_⟩⟩,λh1=>?_⟩
 . have:¬(i0.2=true/\(X0j i0.1).2>0):=λh=>h2 h.2
   simp only[X6v,Yae this,Yaw h2,and_self]
 . have h3:(X0j i0.1).2>0:=by
    by_cases h4:(X0j i0.1).2>0
    . exact h4
    . simp[h4]at h2
   simp only[X6v,Yah (And.intro h1 h3),Yaz h3,and_self]
 . have:¬(i0.2=true/\(X0j i0.1).2>0):=λh=>by rw[h1]at h;cases h.1
   simp only[X6v,Yae this,and_self]
def X3W.e:GE:=mE X8N func30 [3] [X2O.e] [] noL (λi x=>X3W.F i) λi x h _ _=>X3W.p i h
def Xpv(s:List UInt8):Nat->Int->List Int->List Int×Int
 | 0,p,out=>(out,p)
 | n+1,p,out=>if (X0j (s.drop p.toNat)).2=0 then(out,-1) else Xpv s n (p+(X0j (s.drop p.toNat)).2) (out++[(X0j (s.drop p.toNat)).1])
def X0R(s:List UInt8)(n:Int):List Int×Int:=Xpv s n.toNat 0 []
def p7(s:List UInt8)(n:Int):Prop:=s.length<=9223372036854775807/\0<=n/\n<=1000
def v7I(s:List UInt8)(n p i:Int)(out:List Int):Prop:=0<=i/\i<=n/\0<=p/\p<=s.length/\(out.length:Int)=i/\Xpv s (n - i).toNat p out=X0R s n
def v7M(s:List UInt8)(n p i:Int)(out:List Int):Nat:=(n - i).toNat
def Xb4:Con:=cW XqA [.one,.one] (.pair Xfc (.int .i64)) [(false,1),(false,1)] [(0,3)] (λa=>(p7 a.1 a.2)) λa=>(X0R a.1 a.2)
def X3d.F(a0:U6q)(a1:Int):Prop:=(eS [(0,.val false [.str a0]),(1,.val false [.int .i64 a1])] [(0,.val false [.str a0]),(1,.val false [.int .i64 a1])]/\((v7I a0 a1 0 0 ([]:List Int))/\∀(y1:(Int×(Int×(List Int)))),(v7I a0 a1 y1.1 y1.2.1 y1.2.2)->(X00 (decide (y1.2.1<a1)) (0<=y1.1/\(y1.1<=(ln a0)/\(True/\∀r2,(Eq r2 ((X0j (List.drop (tN y1.1) a0)),((),())))->(X00 (r2.1.2==(0:Int)) (Eq ((y1.2.2,(-1)),((),())) ((X0R a0 a1),((),()))) (List.length y1.2.2+List.length [r2.1.1]<=9223372036854775807/\((List.length y1.2.2+List.length [r2.1.1])*8<=140737488355328/\(eS [(0,.val false [.str a0]),(1,.val false [.int .i64 a1])] [(0,.val false [.str a0]),(1,.val false [.int .i64 a1])]/\(v7I a0 a1 (wI (y1.1+r2.1.2)) (wI (y1.2.1+(1:Int))) (y1.2.2++[r2.1.1]))/\(v7M a0 a1 (wI (y1.1+r2.1.2)) (wI (y1.2.1+(1:Int))) (y1.2.2++[r2.1.1]))<(v7M a0 a1 y1.1 y1.2.1 y1.2.2)))))))) (Eq ((y1.2.2,y1.1),((),())) ((X0R a0 a1),((),()))))))
def X3d.L(a0:U6q)(a1:Int):Nat->Option X0e:=XLK [(122,⟨⟨[0,1],[6,7,8],[],[kC 6 0 1000771 3]⟩,(.pair (.int .i64) (.pair (.int .i64) Xfc)),λst y=>v7I a0 a1 y.1 y.2.1 y.2.2,λst y=>v7M a0 a1 y.1 y.2.1 y.2.2⟩)]
theorem X3d.p(a0:U6q)(a1:Int)(h:(p7 a0 a1)):X3d.F a0 a1:=by
 delta X3d.F ln tN wI eS
 obtain⟨q1,q2,q3⟩:=h
 simp only[YbJ,Ybw,Ybn,X01,Yaa,Yaj,Yay,YaP,Ybl]
 refine⟨⟨by omega,by omega,by omega,by omega,rfl,by simp[X0R]⟩,?_⟩
 rintro⟨p,i,out⟩ ⟨h1,h2,h3,h4,h5,h6⟩
 simp only at h1 h2 h3 h4 h5 h6 ⊢
 have hb:=X4h (a0.drop p.toNat)
 rw[Yar]at hb
 refine⟨λhi=>⟨h3,h4,λhz=>?_,λhz=>?_⟩,λhi=>?_⟩
 . have e:(a1 - i).toNat=(a1 - i - 1).toNat+1:=by omega
   rw[e]at h6
   have hz':(X0j (a0.drop p.toNat)).2=0:=by simpa using hz
   rw[Xpv,Yah hz']at h6
   exact h6
 . have hz':¬(X0j (a0.drop p.toNat)).2=0:=by simpa using hz
   have e:(a1 - i).toNat=(a1 - (i+1)).toNat+1:=by omega
   rw[e,Xpv,Yae hz']at h6
   have e1:IntKind.wrap .i64 (i+1)=i+1:=Yau _ (by omega)
   have e2:IntKind.wrap .i64 (p+(X0j (a0.drop p.toNat)).2)=p+(X0j (a0.drop p.toNat)).2:=Yau _ (by omega)
   rw[e1,e2]
   exact⟨by simp;omega,by simp;omega,⟨by omega,by omega,by omega,by omega,by simp;omega,h6⟩,by unfold v7M;omega⟩
 . have e:(a1 - i).toNat=0:=by omega
   rw[e,Xpv]at h6
   exact h6
def X3d.e:GE:=mE Xb4 func161 [139,3] [X2x.e] [] (λi x=>X3d.L x.1 x.2) (λi x=>X3d.F x.1 x.2) λi x h _ _=>X3d.p x.1 x.2 h
def cat(W:Nat->Int):Nat->List UInt8
 | 0=>[]
 | i+1=>cat W i++X20 (W i)
theorem Xmq(W:Nat->Int){i:Nat}:∀{n:Nat},i<n->∃r,cat W n=cat W i++(X20 (W i)++r)
 | 0,h=>by omega
 | n+1,h=>by
   by_cases e:i=n
   . subst e;exact⟨[],by simp[cat]⟩
   . obtain⟨r,hr⟩:=Xmq W (i:=i) (n:=n) (by omega)
     exact⟨r++X20 (W n),by simp only[cat];rw[hr];simp[Yam]⟩
theorem Xfj{W:Nat->Int}(h:X63 (W 0)):∀n,0<n->0<(cat W n).length
 | 1,_=>by simp only[cat,YaW];exact Xb1 h
 | n+2,_=>by have:=Xfj h (n+1) (by omega);simp only[cat,Yab]at this ⊢;omega
theorem Xpj{W:Nat->Int}{n i:Nat}{s:List UInt8}(hw:∀j,j<n->X63 (W j))(hs:s.take (cat W n).length=cat W n)(hi:i<n):
 X0j (s.drop (cat W i).length)=(W i,((X20 (W i)).length:Int))/\(s.drop (cat W i).length).drop (X20 (W i)).length=s.drop (cat W (i+1)).length:=by
 obtain⟨r,hr⟩:=Xmq W hi
 have e:s=cat W i++(X20 (W i)++(r++s.drop (cat W n).length)):=by
  have:=YaJ (cat W n).length s
  rw[hs]at this
  rw[hr]at this
  rw[hr]
  conv=>lhs;rw[<-this]
  simp[Yam]
 refine⟨?_,?_⟩
 . have e2:s.drop (cat W i).length=X20 (W i)++(r++s.drop (cat W n).length):=by
    conv=>lhs;rw[e]
    rw[Ya1]
   rw[e2,Xpe (hw i hi)]
 . rw[YaI]
   congr 1
   simp[cat]
def vals(W:Nat->Int)(n:Nat):List Int:=(List.range n).map W
theorem Xr3(W:Nat->Int)(n:Nat):vals W (n+1)=vals W n++[W n]:=by simp[vals,List.range_succ]
theorem Xoe(W:Nat->Int)(n:Nat):(vals W n).length=n:=by simp[vals]
theorem Xtr(W:Nat->Int){n i:Nat}(h:i<n):(vals W n).getD i 0=W i:=by
 rw[X0O (by rw[Xoe];exact h)];simp[vals]
theorem XuX{W:Nat->Int}{n:Nat}{s:List UInt8}(hw:∀j,j<n->X63 (W j))(hs:s.take (cat W n).length=cat W n):∀(k i:Nat),i+k=n->Xpv s k ((cat W i).length:Int) (vals W i)=(vals W n,((cat W n).length:Int))
 | 0,i,h=>by
   have:i=n:=by omega
   subst this;rfl
 | k+1,i,h=>by
   obtain⟨h1,h2⟩:=Xpj hw hs (i:=i) (by omega)
   have hp:=Xb1 (hw i (by omega))
   rw[Xpv,YaE,h1]
   simp only
   rw[Yae (by omega),<-Xr3,show((cat W i).length:Int)+((X20 (W i)).length:Int)=((cat W (i+1)).length:Int) by simp[cat]]
   exact XuX hw hs k (i+1) (by omega)
theorem Xmm{W:Nat->Int}{n:Nat}{s:List UInt8}(hw:∀j,j<n->X63 (W j))(hs:s.take (cat W n).length=cat W n):X0R s n=(vals W n,((cat W n).length:Int)):=by
 unfold X0R
 rw[YaE]
 exact XuX hw hs n 0 (by omega)
theorem Xrg{s:List UInt8}:∀(k:Nat) (p:Int) (out:List Int),0<=p->p<=s.length->(Xpv s k p out).2<0\/∃vs:List Int,(Xpv s k p out).1=out++vs/\vs.length=k/\(∀v∈vs,X63 v)/\(Xpv s k p out).2=p+((enc vs).length:Int)/\(s.drop p.toNat).take (enc vs).length=enc vs
 | 0,p,out,h,h'=>.inr ⟨[],by simp[Xpv],rfl,by simp,by simp[Xpv,enc],by simp[enc]⟩
 | k+1,p,out,h,h'=>by
   rw[Xpv]
   split
   . left;exact(by decide:(-1:Int)<0)
   . rename_i h0
     obtain⟨q1,q2⟩:=Xrv h0
     have hb:=X4h (s.drop p.toNat)
     rw[Yar]at hb
     rcases Xrg (s:=s) k (p+(X0j (s.drop p.toNat)).2) (out++[(X0j (s.drop p.toNat)).1]) (by omega) (by omega) with h1 | ⟨vs,k1,k2,k3,k4,k5⟩
     . exact .inl h1
     . right
       have hl:(X20 (X0j (s.drop p.toNat)).1).length=(X0j (s.drop p.toNat)).2.toNat:=by
        have q1':=Ybo List.length q1
        rw[Yal,Yar]at q1'
        omega
       refine⟨(X0j (s.drop p.toNat)).1::vs,by rw[k1];simp,by simp[k2],λv hv=>?_,?_,?_⟩
       . rcases Yak.1 hv with e | hv
         . rw[e];exact q2
         . exact k3 v hv
       . rw[k4,Xlw,Yab,hl];omega
       . rw[Xlw,Yab,Ydh,hl,q1,YaI]
         congr 1
         rw[show p.toNat+(X0j (s.drop p.toNat)).2.toNat=(p+(X0j (s.drop p.toNat)).2).toNat by omega]
         exact k5
theorem XpZ{s:List UInt8}{n:Nat}(h:¬(X0R s n).2<0):(X0R s n).1.length=n/\(∀v∈(X0R s n).1,X63 v)/\(X0R s n).2=((enc (X0R s n).1).length:Int)/\s.take (enc (X0R s n).1).length=enc (X0R s n).1:=by
 unfold X0R at h ⊢
 rw[YaE]at h ⊢
 rcases Xrg (s:=s) n 0 [] (by omega) (by omega) with h1 | ⟨vs,k1,k2,k3,k4,k5⟩
 . exact absurd h1 h
 . rw[YaW]at k1
   rw[k1]
   refine⟨k2,k3,by rw[k4];omega,?_⟩
   simpa using k5
def X5o(z:Int):Int×Bool:=if fIn z 0 281474976710656 then((if z % 2=1 then -(z+1) / 2 else z / 2),true) else(0,false)
theorem Xia{d:Int}(h:fIn d (-140737488355328) 140737488355328=true):X5o (Xgw d)=(d,true):=by
 rw[X0N]at h
 unfold Xgw
 rw[Yah (X0N.2 h)]
 unfold X5o
 split
 . rw[Yah (X0N.2 (by omega)),Yah (by omega)]
   simp only[Yaa,Ybn];omega
 . rw[Yah (X0N.2 (by omega)),Yae (by omega)]
   simp only[Yaa,Ybn];omega
theorem XqX{d:Int}(h:fIn d (-140737488355328) 140737488355328=true):X63 (Xgw d):=by
 rw[X0N]at h
 unfold Xgw X63
 rw[Yah (X0N.2 h)]
 split<;>omega
theorem Xn8(z:Int):-140737488355329<=(X5o z).1/\(X5o z).1<=140737488355328:=by
 unfold X5o
 split
 . rename_i h;rw[X0N]at h;simp only;split<;>omega
 . simp
def XhI(i:Rd):Int×Rd:=((X5o (X6v i).1).1,((X6v i).2.1,(X6v i).2.2&&(X5o (X6v i).1).2))
theorem XoE(i:Rd):0<=(X6v i).1/\(X6v i).1<=562949953421311:=by
 have:=X4h i.1
 unfold X6v;split<;>simp<;>omega
def X9U(s t:List UInt8):Bool:=s.take t.length==t
def X9D(s t:List UInt8):Int×Bool:=((t.length:Int),decide (t≠[])&&X9U s t)
def XqD(z:Int):Int:=(X5o z).1
theorem XrW(i:Rd):-140737488355329<=(XhI i).1/\(XhI i).1<=140737488355328:=Xn8 _
theorem Xvn{a:Int}(h:0<=a):Int.tdiv a 2=a / 2:=Ya9 h
theorem Xxc{a:Int}(h:0<=a)(h2:a % 2=0):Int.tdiv (0 - a) 2= -a / 2:=by
 rw[Int.zero_sub,Int.neg_tdiv,Xvn h];omega
theorem XwY{a:Int}(h:0<=a):Int.tmod a 2=a % 2:=Yax h
def XbU:Con:=cQ (.int .i64) [.one] XrD [(false,1),(false,1)] (λ_=>True) λa=>(X5o a)
def X5C.F(a0:Int):Prop:=(X00 (decide (a0<(0:Int))) (Eq ((0,false),((),())) ((X5o a0),((),()))) (X00 (decide (a0>(281474976710656:Int))) (Eq ((0,false),((),())) ((X5o a0),((),()))) ((2:Int)≠0/\((2:Int)≠0/\(X00 ((Int.tmod a0 (2:Int))==(1:Int)) (True/\∀r1,(Eq r1 ((Xgw (wI ((wI (0 - (wI (Int.tdiv a0 (2:Int))))) - (1:Int)))),((),())))->(Eq (((wI ((wI (0 - (wI (Int.tdiv a0 (2:Int))))) - (1:Int))),(r1.1==a0)),((),())) ((X5o a0),((),())))) (True/\∀r2,(Eq r2 ((Xgw (wI (Int.tdiv a0 (2:Int)))),((),())))->(Eq (((wI (Int.tdiv a0 (2:Int))),(r2.1==a0)),((),())) ((X5o a0),((),())))))))))
theorem X5C.p(a0:Int)(h:True):X5C.F a0:=by
 delta X5C.F wI
 simp only[Bs,B0,B1,Yaa,X01]
 refine⟨λh1=>?_,λh1=>⟨λh2=>?_,λh2=>?_⟩⟩
 . unfold X5o;rw[Yae (by rw[X0N];omega)]
 . unfold X5o;rw[Yae (by rw[X0N];omega)]
 rw[XwY (by omega),Xvn (by omega),w64 (x:=a0 / 2) (by omega) (by omega),w64 (x:=0 - a0 / 2) (by omega) (by omega),w64 (x:=0 - a0 / 2 - 1) (by omega) (by omega)]
 have hp:fIn a0 0 281474976710656=true:=X0N.2 (by omega)
 refine⟨by omega,by omega,λh3=>?_,λh3=>?_⟩
 . unfold X5o Xgw
   rw[Yah hp,Yah h3,Yah (X0N.2 (by omega)),Yah (by omega)]
   simp;omega
 . unfold X5o Xgw
   rw[Yah hp,Yae h3,Yah (X0N.2 (by omega)),Yae (by omega)]
   simp;omega
def X5C.e:GE:=mE XbU func198 [3,4] [X4e.e] [] noL (λi x=>X5C.F x) λi x h _ _=>X5C.p x h
def XbI:Con:=cQ (.int .i64) [.one] XrD [(false,1),(false,1)] (λ_=>True) λa=>(X5o a)
def X5w.F(a0:Int):Prop:=(True/\∀r1,(Eq r1 ((fIn a0 0 281474976710656),((),())))->(X00 (!r1.1) (Eq ((0,false),((),())) ((X5o a0),((),()))) ((2:Int)≠0/\(X00 ((Int.tmod a0 (2:Int))==(1:Int)) ((2:Int)≠0/\(Eq (((wI (Int.tdiv (wI (0 - (wI (a0+(1:Int))))) (2:Int))),true),((),())) ((X5o a0),((),())))) ((2:Int)≠0/\(Eq (((wI (Int.tdiv a0 (2:Int))),true),((),())) ((X5o a0),((),()))))))))
theorem X5w.p(a0:Int)(h:True):X5w.F a0:=by
 delta X5w.F wI
 simp only[Bs,B0,B1,Yaa,X01]
 refine⟨λh1=>by simp[X5o,h1],λh1=>?_⟩
 have hp:=X0N.1 h1
 rw[XwY hp.1,Xvn hp.1,w64 (x:=a0 / 2) (by omega) (by omega),w64 (x:=a0+1) (by omega) (by omega),w64 (x:=0 - (a0+1)) (by omega) (by omega)]
 refine⟨by omega,λh3=>⟨by omega,?_⟩,λh3=>⟨by omega,?_⟩⟩
 . rw[Xxc (by omega) (by omega),w64 (by omega) (by omega)]
   simp[X5o,h1,h3]
 . simp[X5o,h1,h3]
def X5w.e:GE:=mE XbI func204 [3,4] [X0V.e] [] noL (λi x=>X5w.F x) λi x h _ _=>X5w.p x h
def X93:Con:={io:=true,I:=(.pair .str .bool),A:=.unit,shA:=[],R:=(.int .i64),shR:=[(false,1)],pre:=λi _=>True,f:=some λi a=>((XhI i).1,((XhI i).2,()))}
def X4K.F(i0:(U6q×Bool)):Prop:=(True/\∀r1,(Eq r1 ((X6v (i0.1,i0.2)).1,((X6v (i0.1,i0.2)).2,())))->(True/\∀r2,(Eq r2 ((X5o r1.1),((),())))->(X00 r1.2.1.2 (Eq (r2.1.1,((r1.2.1.1,r2.1.2),())) ((XhI i0).1,((XhI i0).2,()))) (Eq (r2.1.1,((r1.2.1.1,false),())) ((XhI i0).1,((XhI i0).2,()))))))
theorem X4K.p(i0:(U6q×Bool))(h:True):X4K.F i0:=by
 unfold X4K.F
 simp only[Bs,B0,B1,Yaa,X01]
 exact⟨λh1=>by simp[XhI,h1],λh1=>by simp[XhI,h1]⟩
def X4K.e:GE:=mE X93 func179 [3] [X3W.e,X5w.e] [] noL (λi x=>X4K.F i) λi x h _ _=>X4K.p i h
def XdD:Con:=cQ (.int .i64) [.one] (.int .i64) [(false,1)] (λ_=>True) λa=>(XqD a)
def X65.F(a0:Int):Prop:=(True/\∀r1,(Eq r1 ((X5o a0),((),())))->(Eq (r1.1.1,((),())) ((XqD a0),((),()))))
theorem X65.p(a0:Int)(h:True)(hw:Wf XdD.A a0):X65.F a0:=by
 unfold X65.F
 simp only[Bs,B0,B1,Yaa,X01]
 repeat' (with_reducible (first | (refine And.intro ?_ ?_) | intro _))
 all_goals (try simp (disch:=omega) only[w64,wu8,tn0,tn1,tm1,tm2,Yab,Yad,Yai]at*)
 all_goals (try simp (disch:=omega) only[w64,wu8,tn0,tn1,tm1,tm2,Yab,Yad,Yai]at*)
 all_goals (try omega)
 all_goals (try grind[XqD])
def X65.e:GE:=mE XdD func162 [3] [X5C.e] [] noL (λi x=>X65.F x) λi x h _ hw=>X65.p x h hw
def X2w:Con:=cQ (.pair .str .str) [.one,.one] .bool [(false,1)] (λ_=>True) λa=>(X9U a.1 a.2)
def X0n.F(a0:U6q)(a1:U6q):Prop:=(X00 (decide ((ln a0)>=(ln a1))) (0<=(ln a1)/\((ln a1)<=(ln a0)/\(Eq (((List.take (tN (ln a1)) a0)==a1),((),())) ((X9U a0 a1),((),()))))) (Eq (false,((),())) ((X9U a0 a1),((),()))))
theorem X0n.p(a0:U6q)(a1:U6q)(h:True):X0n.F a0 a1:=by
 delta X0n.F ln tN
 simp only[Bs,B0,B1,Yaa,X01]
 refine⟨λh1=>⟨by omega,by omega,by rw[show((a1.length:Nat):Int).toNat=a1.length by omega];rfl⟩,λh1=>?_⟩
 symm;unfold X9U;rw[YbF];intro e
 have:=Ybo List.length e;simp at this;omega
def X0n.e:GE:=mE X2w func216 [4] [] [] noL (λi x=>X0n.F x.1 x.2) λi x h _ _=>X0n.p x.1 x.2 h
def X5M:Con:=cQ (.pair .str .str) [.one,.one] .bool [(false,1)] (λ_=>True) λa=>(X9U a.1 a.2)
def X1K.F(a0:U6q)(a1:U6q):Prop:=(True/\∀r1,(Eq r1 ((X9U a0 a1),((),())))->(Eq (r1.1,((),())) ((X9U a0 a1),((),()))))
theorem X1K.p(a0:U6q)(a1:U6q)(h:True)(hw:Wf X5M.A (a0,a1)):X1K.F a0 a1:=by
 unfold X1K.F
 simp only[Bs,B0,B1,Yaa,X01]
 repeat' (with_reducible (first | (refine And.intro ?_ ?_) | intro _))
 all_goals (try simp (disch:=omega) only[w64,wu8,tn0,tn1,tm1,tm2,Yab,Yad,Yai]at*)
 all_goals (try simp (disch:=omega) only[w64,wu8,tn0,tn1,tm1,tm2,Yab,Yad,Yai]at*)
 all_goals (try omega)
 all_goals (try grind[])
def X1K.e:GE:=mE X5M func205 [4] [X0n.e] [] noL (λi x=>X1K.F x.1 x.2) λi x h _ hw=>X1K.p x.1 x.2 h hw
def Xc7:Con:=cQ (.pair .str .str) [.one,.one] XrD [(false,1),(false,1)] (λ_=>True) λa=>(X9D a.1 a.2)
def X5b.F(a0:U6q)(a1:U6q):Prop:=(X00 (!(a1==[])) (True/\∀r1,(Eq r1 ((X9U a0 a1),((),())))->(Eq (((ln a1),r1.1),((),())) ((X9D a0 a1),((),())))) (Eq (((ln a1),false),((),())) ((X9D a0 a1),((),()))))
theorem X5b.p(a0:U6q)(a1:U6q)(h:True)(hw:Wf Xc7.A (a0,a1)):X5b.F a0 a1:=by
 delta X5b.F ln
 simp only[Bs,B0,B1,Yaa,X01]
 repeat' (with_reducible (first | (refine And.intro ?_ ?_) | intro _))
 all_goals (try simp (disch:=omega) only[w64,wu8,tn0,tn1,tm1,tm2,Yab,Yad,Yai]at*)
 all_goals (try simp (disch:=omega) only[w64,wu8,tn0,tn1,tm1,tm2,Yab,Yad,Yai]at*)
 all_goals (try omega)
 all_goals (try grind[X9D])
def X5b.e:GE:=mE Xc7 func180 [3,4] [X1K.e] [] noL (λi x=>X5b.F x.1 x.2) λi x h _ hw=>X5b.p x.1 x.2 h hw
theorem XcM{l:List Int}{i:Nat}(hi:i<l.length):l.take (i+1)=l.take i++[l.getD i 0]:=by
 rw[Ydm,Yap,Yav hi];rfl
theorem Xe5{l:List Int}{i j:Nat}(h:j<i):(l.take i).getD j 0=l.getD j 0:=by
 simp[Yap,YaH,h]
theorem Xn5{l:List Int}{i:Nat}{x:Int}(h:i=l.length):(l++[x]).getD i 0=x:=by subst h;simp[Yap]
theorem XpT{l:List Int}{i:Nat}{x:Int}(h:i<l.length):(l++[x]).getD i 0=l.getD i 0:=by simp[Yap,YbL h]
section
variable (ok:List Int->Bool) (W:List Int->Nat->Int) (nx:List Int->List Int->Nat->Int)
def RW(s:List UInt8)(n:Int)(l:List Int):Prop:=(l.length:Int)=n/\ok l=true/\s.take (cat (W l) l.length).length=cat (W l) l.length
def XsX(v:List Int):Nat->List Int
 | 0=>[]
 | i+1=>XsX v i++[nx (XsX v i) v i]
instance (s:List UInt8) (n:Int) (l:List Int):Decidable (RW ok W s n l):=by unfold RW;infer_instance
def Xjy(s:List UInt8)(n:Int):List Int×Int:=
 if RW ok W s n (XsX nx (X0R s n).1 n.toNat) then(XsX nx (X0R s n).1 n.toNat,((cat (W (XsX nx (X0R s n).1 n.toNat)) (XsX nx (X0R s n).1 n.toNat).length).length:Int)) else([],0)
variable {ok W nx} (hW:∀l,ok l=true->∀i,i<l.length->X63 (W l i))
include hW
theorem RW.vars{s:List UInt8}{n:Int}{l:List Int}(h:RW ok W s n l):X0R s n=(vals (W l) l.length,((cat (W l) l.length).length:Int)):=by
 have e:=Xmm (W:=W l) (n:=l.length) (s:=s) (hW l h.2.1) h.2.2
 rw[h.1]at e
 exact e
theorem RW.at{s:List UInt8}{n:Int}{l:List Int}(h:RW ok W s n l){i:Nat}(hi:i<l.length):(X0R s n).1.getD i 0=W l i:=by
 rw[RW.vars hW h];exact Xtr _ hi
variable (hn:∀l,ok l=true->∀(v:List Int) i,i<l.length->v.getD i 0=W l i->nx (l.take i) v i=l.getD i 0)
include hn
theorem RW.dec{s:List UInt8}{n:Int}{l:List Int}(h:RW ok W s n l):∀i,i<=l.length->XsX nx (X0R s n).1 i=l.take i
 | 0,_=>by simp[XsX]
 | i+1,hi=>by
   rw[XsX,RW.dec h i (by omega),XcM (by omega),hn l h.2.1 _ i (by omega) (RW.at hW h (by omega))]
theorem RW.yes{s:List UInt8}{n:Int}{l:List Int}(h:RW ok W s n l):Xjy ok W nx s n=(l,((cat (W l) l.length).length:Int)):=by
 have e:XsX nx (X0R s n).1 n.toNat=l:=by rw[RW.dec hW hn h _ (by have:=h.1;omega),show n.toNat=l.length by have:=h.1;omega,Yat]
 unfold Xjy
 rw[e,Yah h]
theorem RW.get{s:List UInt8}{n:Int}(h0:ok []=false):Xjy ok W nx s n=([],0)/\(∀l,¬RW ok W s n l)\/∃l,RW ok W s n l/\Xjy ok W nx s n=(l,((cat (W l) l.length).length:Int)):=by
 by_cases h:∃l,RW ok W s n l
 . obtain⟨l,h⟩:=h
   exact .inr ⟨l,h,RW.yes hW hn h⟩
 . refine .inl ⟨?_,λl hl=>h ⟨l,hl⟩⟩
   unfold Xjy
   rw[Yae λhl=>h ⟨_,hl⟩]
end
def tmW(l:List Int)(i:Nat):Int:=if i=0 then l.getD 0 0 else if i=1 then l.getD 1 0 - l.getD 0 0 else Xgw (l.getD i 0 - l.getD (i - 1) 0 - (l.getD (i - 1) 0 - l.getD (i - 2) 0))
def vlW(l:List Int)(i:Nat):Int:=Xgw (l.getD i 0 - (if i=0 then 0 else l.getD (i - 1) 0))
theorem XuB(l:List Int):∀i,tmS l i=cat (tmW l) i
 | 0=>rfl
 | i+1=>by
   rw[Xp8,XuB l i,cat]
   congr 1
   unfold Xfl tmW
   split
   . rfl
   . split<;>rfl
theorem XuH(l:List Int):∀i,vlS l i=cat (vlW l) i
 | 0=>rfl
 | i+1=>by rw[Xpo,XuH l i,cat];rfl
theorem Xs9{l:List Int}(h:Xcl l=true){i:Nat}(hi:i<l.length)(h2:2<=i):fIn (l.getD i 0 - l.getD (i - 1) 0 - (l.getD (i - 1) 0 - l.getD (i - 2) 0)) (-140737488355328) 140737488355328=true:=by
 have h1:=XfP h hi
 have h2:=XfP h (i:=i - 1) (by omega)
 have h3:=XfP h (i:=i - 2) (by omega)
 rw[X0N];omega
theorem Xfb(l:List Int)(h:Xcl l=true)(i:Nat)(hi:i<l.length):X63 (tmW l i):=by
 have h0:=XfP h (i:=0) (by omega)
 unfold tmW
 split
 . unfold X63;omega
 . split
   . have h1:=Xbb.1 ((X69.1 h).2 1 (by omega))
     simp only[show(1:Nat) - 1=0 from rfl]at h1
     unfold X63;omega
   . exact XqX (Xs9 h hi (by omega))
theorem Xrz{l:List Int}(h:XcJ l=true){i:Nat}(hi:i<l.length):fIn (l.getD i 0 - (if i=0 then 0 else l.getD (i - 1) 0)) (-140737488355328) 140737488355328=true:=by
 have h1:=XnG h hi
 rw[X0N]
 split
 . omega
 . have h2:=XnG h (i:=i - 1) (by omega)
   omega
theorem Xge(l:List Int)(h:XcJ l=true)(i:Nat)(hi:i<l.length):X63 (vlW l i):=XqX (Xrz h hi)
def nxT(o v:List Int)(i:Nat):Int:=if i=0 then v.getD 0 0 else if i=1 then o.getD 0 0+v.getD 1 0 else o.getD (i - 1) 0+(o.getD (i - 1) 0 - o.getD (i - 2) 0+(X5o (v.getD i 0)).1)
def nxV(o v:List Int)(i:Nat):Int:=(if i=0 then 0 else o.getD (i - 1) 0)+(X5o (v.getD i 0)).1
theorem Xsu(l:List Int)(h:Xcl l=true)(v:List Int)(i:Nat)(hi:i<l.length)(hv:v.getD i 0=tmW l i):nxT (l.take i) v i=l.getD i 0:=by
 unfold nxT
 unfold tmW at hv
 by_cases h0:i=0
 . subst h0;simpa using hv
 rw[Yae h0]at hv ⊢
 by_cases h1:i=1
 . subst h1
   rw[Yah rfl]at hv
   rw[Yah rfl,Xe5 (by omega),hv];omega
 rw[Yae h1]at hv ⊢
 rw[hv,Xia (Xs9 h hi (by omega)),Xe5 (by omega),Xe5 (by omega)]
 simp only;omega
theorem XsP(l:List Int)(h:XcJ l=true)(v:List Int)(i:Nat)(hi:i<l.length)(hv:v.getD i 0=vlW l i):nxV (l.take i) v i=l.getD i 0:=by
 unfold nxV
 rw[hv,vlW,Xia (Xrz h hi)]
 split
 . simp
 . rw[Xe5 (by omega)];simp only;omega
def X4G(s:List UInt8)(n:Int):List Int×Int:=Xjy Xcl tmW nxT s n
def X4P(s:List UInt8)(n:Int):List Int×Int:=Xjy XcJ vlW nxV s n
abbrev RT:=RW Xcl tmW
abbrev RV:=RW XcJ vlW
theorem Xac{l:List Int}(h:Xcl l=true):X0t l=cat (tmW l) l.length:=by unfold X0t;rw[Yah h,XuB]
theorem Xah{l:List Int}(h:XcJ l=true):X0o l=cat (vlW l) l.length:=by unfold X0o;rw[Yah h,XuH]
theorem XiW(s:List UInt8)(n:Int):X4G s n=([],0)/\(∀l,¬RT s n l)\/∃l,RT s n l/\X4G s n=(l,((cat (tmW l) l.length).length:Int)):=RW.get Xfb Xsu rfl
theorem Xi3(s:List UInt8)(n:Int):X4P s n=([],0)/\(∀l,¬RV s n l)\/∃l,RV s n l/\X4P s n=(l,((cat (vlW l) l.length).length:Int)):=RW.get Xge XsP rfl
theorem XfU{s:List UInt8}{n:Int}{l:List Int}(h:RT s n l):X4G s n=(l,((cat (tmW l) l.length).length:Int)):=RW.yes Xfb Xsu h
theorem Xgi{s:List UInt8}{n:Int}{l:List Int}(h:RV s n l):X4P s n=(l,((cat (vlW l) l.length).length:Int)):=RW.yes Xge XsP h
def pRd(s:List UInt8)(n:Int):Prop:=s.length<=9223372036854775807
theorem Xsh{s:List UInt8}{n:Int}(hn:1<=n)(h:¬(X0R s n).2<0):((X0R s n).1.length:Int)=n/\(∀j:Nat,0<=(X0R s n).1.getD j 0/\(X0R s n).1.getD j 0<=562949953421311)/\0<(X0R s n).2/\(X0R s n).2<=s.length:=by
 obtain⟨k,rfl⟩:∃k:Nat,n=k:=⟨n.toNat,by omega⟩
 obtain⟨h1,h2,h3,h4⟩:=XpZ h
 have h5:=Ybo List.length h4
 rw[Yal]at h5
 refine⟨by omega,λj=>?_,?_,by omega⟩
 . by_cases hj:j<(X0R s k).1.length
   . have:=h2 _ (X1a (l:=(X0R s k).1) (d:=0) hj)
     exact this
   . rw[Yap,Yca (by omega)];simp
 . rw[h3]
   cases e:(X0R s k).1 with
   | nil=>rw[e]at h1;simp at h1;omega
   | cons v r=>
     have:=Xb1 (h2 v (by rw[e];simp))
     rw[Xlw,Yab];omega
def rsI(s:List UInt8)(n i:Int)(out:List Int):Prop:=1<=i/\i<=n/\(out.length:Int)=i/\((0<=out.getD (i.toNat - 1) 0/\out.getD (i.toNat - 1) 0<=562949953421311)/\(2<=i->0<=out.getD (i.toNat - 2) 0/\out.getD (i.toNat - 2) 0<=562949953421311))/\∀l,RT s n l->out=l.take i.toNat
def rsM(s:List UInt8)(n i:Int)(out:List Int):Nat:=(n - i).toNat
def vsI(s:List UInt8)(n last i:Int)(out:List Int):Prop:=0<=i/\i<=n/\(out.length:Int)=i/\(-1099511627776<=last/\last<=1099511627776)/\last=(if i=0 then 0 else out.getD (i.toNat - 1) 0)/\∀l,RV s n l->out=l.take i.toNat
def vsM(s:List UInt8)(n last i:Int)(out:List Int):Nat:=(n - i).toNat
theorem XrM(z:Int):-140737488355329<=XqD z/\XqD z<=140737488355328:=Xn8 z
theorem RT.val{s:List UInt8}{n:Int}{l:List Int}(h:RT s n l){i:Nat}(hi:i<l.length):(X0R s n).1.getD i 0=tmW l i:=RW.at Xfb h hi
theorem RV.val{s:List UInt8}{n:Int}{l:List Int}(h:RV s n l){i:Nat}(hi:i<l.length):(X0R s n).1.getD i 0=vlW l i:=RW.at Xge h hi
theorem rt_of{s:List UInt8}{n k:Int}{out:List Int}(h1:(out.length:Int)=n)(hk:0<k)(hk2:k<=s.length)(h:X0t out=s.take k.toNat):RT s n out/\k=((cat (tmW out) out.length).length:Int):=by
 by_cases hr:Xcl out=true
 . rw[Xac hr]at h
   have h2:=Ybo List.length h
   rw[Yal]at h2
   refine⟨⟨h1,hr,?_⟩,by omega⟩
   rw[show(cat (tmW out) out.length).length=k.toNat by omega,<-h]
 . unfold X0t at h
   rw[Yae hr]at h
   have h2:=Ybo List.length h
   rw[Yal]at h2
   simp at h2;omega
theorem rv_of{s:List UInt8}{n k:Int}{out:List Int}(h1:(out.length:Int)=n)(hk:0<k)(hk2:k<=s.length)(h:X0o out=s.take k.toNat):RV s n out/\k=((cat (vlW out) out.length).length:Int):=by
 by_cases hr:XcJ out=true
 . rw[Xah hr]at h
   have h2:=Ybo List.length h
   rw[Yal]at h2
   refine⟨⟨h1,hr,?_⟩,by omega⟩
   rw[show(cat (vlW out) out.length).length=k.toNat by omega,<-h]
 . unfold X0o at h
   rw[Yae hr]at h
   have h2:=Ybo List.length h
   rw[Yal]at h2
   simp at h2;omega
theorem Xdl{s:List UInt8}{n:Int}(h:∀l,¬RT s n l):([],0)=X4G s n:=by
 rcases XiW s n with⟨e,_⟩ | ⟨l,hl,_⟩
 . exact e.symm
 . exact absurd hl (h l)
theorem Xdg{s:List UInt8}{n:Int}(h:∀l,¬RV s n l):([],0)=X4P s n:=by
 rcases Xi3 s n with⟨e,_⟩ | ⟨l,hl,_⟩
 . exact e.symm
 . exact absurd hl (h l)
theorem RT.len{s:List UInt8}{n:Int}{l:List Int}(h:RT s n l):fIn n 1 60=true:=by
 rw[X0N];have h1:=(X69.1 h.2.1).1;have:=h.1;omega
theorem RV.len{s:List UInt8}{n:Int}{l:List Int}(h:RV s n l):fIn n 1 60=true:=by
 rw[X0N];have h1:=(X6U.1 h.2.1).1;have:=h.1;omega
theorem RT.pos{s:List UInt8}{n:Int}{l:List Int}(h:RT s n l):¬(X0R s n).2<0:=by
 rw[RW.vars Xfb h];simp only;omega
theorem RV.pos{s:List UInt8}{n:Int}{l:List Int}(h:RV s n l):¬(X0R s n).2<0:=by
 rw[RW.vars Xge h];simp only;omega
theorem XtM{s:List UInt8}{n:Int}(hn:1<=n)(hv:∀j:Nat,0<=(X0R s n).1.getD j 0/\(X0R s n).1.getD j 0<=562949953421311):rsI s n 1 [(X0R s n).1.getD (Int.toNat 0) 0]:=by
 refine⟨by omega,hn,rfl,⟨hv 0,λh=>by omega⟩,λl hl=>?_⟩
 have h1:=hl.1
 rw[show(1:Int).toNat=0+1 from rfl,XcM (by omega),show Int.toNat 0=0 from rfl,RT.val hl (by omega)]
 rfl
theorem Xuo{s:List UInt8}{n x i:Int}{out:List Int}(hI:rsI s n i out)(hi:i<n)(hx:∀l,RT s n l->x=l.getD i.toNat 0)(h:fIn x 0 1099511627776=false):([],0)=X4G s n:=by
 refine Xdl λl hl=>?_
 have h1:=hl.1
 have h2:=hI.1
 have:=XfP hl.2.1 (i:=i.toNat) (by omega)
 rw[hx l hl,X0N.2 this]at h;cases h
theorem Xro{s:List UInt8}{n x i:Int}{out:List Int}(hI:rsI s n i out)(hi:i<n)(hx:∀l,RT s n l->x=l.getD i.toNat 0)(h:fIn x 0 1099511627776=true):rsI s n (i+1) (out++[x]):=by
 obtain⟨h1,h2,h3,h4,h5⟩:=hI
 rw[X0N]at h
 refine⟨by omega,by omega,by simp;omega,⟨?_,λ_=>?_⟩,λl hl=>?_⟩
 . rw[Xn5 (by omega)];omega
 . rw[XpT (by omega),show(i+1).toNat - 2=i.toNat - 1 by omega];exact h4.1
 . have:=hl.1
   rw[show(i+1).toNat=i.toNat+1 by omega,XcM (by omega),<-h5 l hl,hx l hl]
theorem XxJ{s:List UInt8}{n i:Int}{out:List Int}(hI:rsI s n i out)(hi:i<n)(h0:¬i>1):∀l,RT s n l->out.getD (i.toNat - 1) 0+(X0R s n).1.getD i.toNat 0=l.getD i.toNat 0:=λl hl=>by
 have h1:=hl.1
 have h2:=hI.1
 rw[RT.val hl (by omega),hI.2.2.2.2 l hl,show i=1 by omega,show(1:Int).toNat - 1=0 from rfl,show(1:Int).toNat=1 from rfl,Xe5 (by omega)]
 unfold tmW;simp;omega
theorem XwL{s:List UInt8}{n i:Int}{out:List Int}(hI:rsI s n i out)(hi:i<n)(h0:i>1):∀l,RT s n l->out.getD (i.toNat - 1) 0+(out.getD (i.toNat - 1) 0 - out.getD (i.toNat - 2) 0+XqD ((X0R s n).1.getD i.toNat 0))=l.getD i.toNat 0:=λl hl=>by
 have h1:=hl.1
 have h2:=hI.1
 have:=Xsu l hl.2.1 (X0R s n).1 i.toNat (by omega) (RT.val hl (by omega))
 rw[nxT,Yae (by omega),Yae (by omega),<-hI.2.2.2.2 l hl]at this
 exact this
theorem XxB{s:List UInt8}{n i:Int}{out:List Int}(hI:rsI s n i out)(hi:¬i<n)(hk:0<(X0R s n).2)(hk2:(X0R s n).2<=s.length):(¬X0t out=s.take (X0R s n).2.toNat->([],0)=X4G s n)/\(X0t out=s.take (X0R s n).2.toNat->(out,(X0R s n).2)=X4G s n):=by
 obtain⟨h1,h2,h3,_,h5⟩:=hI
 refine⟨λh=>Xdl λl hl=>h ?_,λh=>?_⟩
 . have:=hl.1
   rw[h5 l hl,show i.toNat=l.length by omega,Yat,RW.vars Xfb hl,Xac hl.2.1]
   simp only[YaE]
   exact hl.2.2.symm
 . obtain⟨q1,q2⟩:=rt_of (n:=n) (by omega) hk hk2 h
   rw[XfU q1,<-q2]
theorem XwX{s:List UInt8}{n x i last:Int}{out:List Int}(hI:vsI s n last i out)(hi:i<n)(hx:∀l,RV s n l->x=l.getD i.toNat 0)(h:fIn x (-1099511627776) 1099511627776=false):([],0)=X4P s n:=by
 refine Xdg λl hl=>?_
 have h1:=hl.1
 have h2:=hI.1
 have:=XnG hl.2.1 (i:=i.toNat) (by omega)
 rw[hx l hl,X0N.2 this]at h;cases h
theorem Xvw{s:List UInt8}{n x i last:Int}{out:List Int}(hI:vsI s n last i out)(hi:i<n)(hx:∀l,RV s n l->x=l.getD i.toNat 0)(h:fIn x (-1099511627776) 1099511627776=true):vsI s n x (i+1) (out++[x]):=by
 obtain⟨h1,h2,h3,h4,h5,h6⟩:=hI
 rw[X0N]at h
 refine⟨by omega,by omega,by simp;omega,h,?_,λl hl=>?_⟩
 . rw[Yae (by omega),Xn5 (by omega)]
 . have:=hl.1
   rw[show(i+1).toNat=i.toNat+1 by omega,XcM (by omega),<-h6 l hl,hx l hl]
theorem XxM{s:List UInt8}{n i last:Int}{out:List Int}(hI:vsI s n last i out)(hi:i<n):∀l,RV s n l->last+XqD ((X0R s n).1.getD i.toNat 0)=l.getD i.toNat 0:=λl hl=>by
 obtain⟨h1,h2,h3,h4,h5,h6⟩:=hI
 have h1:=hl.1
 have:=XsP l hl.2.1 (X0R s n).1 i.toNat (by omega) (RV.val hl (by omega))
 rw[nxV,<-h6 l hl]at this
 rw[h5,<-this]
 by_cases h0:i=0
 . rw[Yah h0,Yah (by omega)];rfl
 . rw[Yae h0,Yae (by omega)];rfl
theorem XxY{s:List UInt8}{n i last:Int}{out:List Int}(hI:vsI s n last i out)(hi:¬i<n)(hk:0<(X0R s n).2)(hk2:(X0R s n).2<=s.length):(¬X0o out=s.take (X0R s n).2.toNat->([],0)=X4P s n)/\(X0o out=s.take (X0R s n).2.toNat->(out,(X0R s n).2)=X4P s n):=by
 obtain⟨h1,h2,h3,_,_,h5⟩:=hI
 refine⟨λh=>Xdg λl hl=>h ?_,λh=>?_⟩
 . have:=hl.1
   rw[h5 l hl,show i.toNat=l.length by omega,Yat,RW.vars Xge hl,Xah hl.2.1]
   simp only[YaE]
   exact hl.2.2.symm
 . obtain⟨q1,q2⟩:=rv_of (n:=n) (by omega) hk hk2 h
   rw[Xgi q1,<-q2]
def X7R:Con:=cQ XqA [.one,.one] (.pair Xfc (.int .i64)) [(false,1),(false,1)] (λa=>(pRd a.1 a.2)) λa=>(X4G a.1 a.2)
def X2m.F(a0:U6q)(a1:Int):Prop:=(True/\∀r1,(Eq r1 ((fIn a1 1 60),((),())))->(X00 (!r1.1) (Eq ((([]:(List Int)),0),((),())) ((X4G a0 a1),((),()))) ((p7 a0 a1)/\∀r2,(Eq r2 ((X0R a0 a1),((),())))->(X00 (decide (r2.1.2<(0:Int))) (Eq ((([]:(List Int)),0),((),())) ((X4G a0 a1),((),()))) (0<=(0:Int)/\((0:Int)<(ln r2.1.1)/\(eS [(0,.val false [.str a0]),(1,.val false [.int .i64 a1]),(6,.val false [.lst (.int .i64) [] none]),(7,.val false [.lst (.int .i64) r2.1.1 none]),(8,.val false [.int .i64 r2.1.2])] [(0,.val false [.str a0]),(1,.val false [.int .i64 a1]),(6,.val false [.lst (.int .i64) [] none]),(7,.val false [.lst (.int .i64) r2.1.1 none]),(8,.val false [.int .i64 r2.1.2])]/\((rsI a0 a1 1 [(List.getD r2.1.1 (tN (0:Int)) 0)])/\∀(y3:(Int×(List Int))),(rsI a0 a1 y3.1 y3.2)->(X00 (decide (y3.1<a1)) (0<=y3.1/\(y3.1<(ln r2.1.1)/\(X00 (decide (y3.1>(1:Int))) (0<=(wI (y3.1 - (1:Int)))/\((wI (y3.1 - (1:Int)))<(ln y3.2)/\(0<=(wI (y3.1 - (2:Int)))/\((wI (y3.1 - (2:Int)))<(ln y3.2)/\(0<=y3.1/\(y3.1<(ln r2.1.1)/\(True/\∀r4,(Eq r4 ((XqD (List.getD r2.1.1 (tN y3.1) 0)),((),())))->(0<=(wI (y3.1 - (1:Int)))/\((wI (y3.1 - (1:Int)))<(ln y3.2)/\(True/\∀r5,(Eq r5 ((fIn (wI ((List.getD y3.2 (tN (wI (y3.1 - (1:Int)))) 0)+(wI ((wI ((List.getD y3.2 (tN (wI (y3.1 - (1:Int)))) 0) - (List.getD y3.2 (tN (wI (y3.1 - (2:Int)))) 0)))+r4.1)))) 0 1099511627776),((),())))->(X00 (!r5.1) (Eq ((([]:(List Int)),0),((),())) ((X4G a0 a1),((),()))) (List.length y3.2+List.length [(wI ((List.getD y3.2 (tN (wI (y3.1 - (1:Int)))) 0)+(wI ((wI ((List.getD y3.2 (tN (wI (y3.1 - (1:Int)))) 0) - (List.getD y3.2 (tN (wI (y3.1 - (2:Int)))) 0)))+r4.1))))]<=9223372036854775807/\((List.length y3.2+List.length [(wI ((List.getD y3.2 (tN (wI (y3.1 - (1:Int)))) 0)+(wI ((wI ((List.getD y3.2 (tN (wI (y3.1 - (1:Int)))) 0) - (List.getD y3.2 (tN (wI (y3.1 - (2:Int)))) 0)))+r4.1))))])*8<=140737488355328/\(eS [(0,.val false [.str a0]),(1,.val false [.int .i64 a1]),(6,.val false [.lst (.int .i64) [] none]),(7,.val false [.lst (.int .i64) r2.1.1 none]),(8,.val false [.int .i64 r2.1.2])] [(0,.val false [.str a0]),(1,.val false [.int .i64 a1]),(6,.val false [.lst (.int .i64) [] none]),(7,.val false [.lst (.int .i64) r2.1.1 none]),(8,.val false [.int .i64 r2.1.2])]/\(rsI a0 a1 (wI (y3.1+(1:Int))) (y3.2++[(wI ((List.getD y3.2 (tN (wI (y3.1 - (1:Int)))) 0)+(wI ((wI ((List.getD y3.2 (tN (wI (y3.1 - (1:Int)))) 0) - (List.getD y3.2 (tN (wI (y3.1 - (2:Int)))) 0)))+r4.1))))]))/\(rsM a0 a1 (wI (y3.1+(1:Int))) (y3.2++[(wI ((List.getD y3.2 (tN (wI (y3.1 - (1:Int)))) 0)+(wI ((wI ((List.getD y3.2 (tN (wI (y3.1 - (1:Int)))) 0) - (List.getD y3.2 (tN (wI (y3.1 - (2:Int)))) 0)))+r4.1))))]))<(rsM a0 a1 y3.1 y3.2))))))))))))))) (0<=(wI (y3.1 - (1:Int)))/\((wI (y3.1 - (1:Int)))<(ln y3.2)/\(True/\∀r6,(Eq r6 ((fIn (wI ((List.getD y3.2 (tN (wI (y3.1 - (1:Int)))) 0)+(List.getD r2.1.1 (tN y3.1) 0))) 0 1099511627776),((),())))->(X00 (!r6.1) (Eq ((([]:(List Int)),0),((),())) ((X4G a0 a1),((),()))) (List.length y3.2+List.length [(wI ((List.getD y3.2 (tN (wI (y3.1 - (1:Int)))) 0)+(List.getD r2.1.1 (tN y3.1) 0)))]<=9223372036854775807/\((List.length y3.2+List.length [(wI ((List.getD y3.2 (tN (wI (y3.1 - (1:Int)))) 0)+(List.getD r2.1.1 (tN y3.1) 0)))])*8<=140737488355328/\(eS [(0,.val false [.str a0]),(1,.val false [.int .i64 a1]),(6,.val false [.lst (.int .i64) [] none]),(7,.val false [.lst (.int .i64) r2.1.1 none]),(8,.val false [.int .i64 r2.1.2])] [(0,.val false [.str a0]),(1,.val false [.int .i64 a1]),(6,.val false [.lst (.int .i64) [] none]),(7,.val false [.lst (.int .i64) r2.1.1 none]),(8,.val false [.int .i64 r2.1.2])]/\(rsI a0 a1 (wI (y3.1+(1:Int))) (y3.2++[(wI ((List.getD y3.2 (tN (wI (y3.1 - (1:Int)))) 0)+(List.getD r2.1.1 (tN y3.1) 0)))]))/\(rsM a0 a1 (wI (y3.1+(1:Int))) (y3.2++[(wI ((List.getD y3.2 (tN (wI (y3.1 - (1:Int)))) 0)+(List.getD r2.1.1 (tN y3.1) 0)))]))<(rsM a0 a1 y3.1 y3.2))))))))))) (True/\∀r7,(Eq r7 ((X0t y3.2),((),())))->(0<=r2.1.2/\(r2.1.2<=(ln a0)/\(X00 (!(r7.1==(List.take (tN r2.1.2) a0))) (Eq ((([]:(List Int)),0),((),())) ((X4G a0 a1),((),()))) (Eq ((y3.2,r2.1.2),((),())) ((X4G a0 a1),((),()))))))))))))))))
def X2m.L(a0:U6q)(a1:Int):Nat->Option X0e:=XLK [(1018,⟨⟨[0,1,6,7,8],[9,10],[],[kC 9 0 1001155 3]⟩,(.pair (.int .i64) Xfc),λst y=>rsI a0 a1 y.1 y.2,λst y=>rsM a0 a1 y.1 y.2⟩)]
theorem X2m.p(a0:U6q)(a1:Int)(h:(pRd a0 a1)):X2m.F a0 a1:=by
 delta X2m.F ln tN wI eS
 simp only[Bs,B0,B1,Yaa,X01]
 have hp:a0.length<=9223372036854775807:=h
 refine⟨λh1=>Xdl λl hl=>(by rw[RT.len hl]at h1;cases h1),λh1=>?_⟩
 rw[X0N]at h1
 refine⟨⟨hp,by omega,by omega⟩,λh2=>Xdl λl hl=>RT.pos hl h2,λh2=>?_⟩
 obtain⟨k1,k2,k3,k4⟩:=Xsh (by omega) h2
 refine⟨by omega,by omega,XtM (by omega) k2,λy hI=>?_⟩
 obtain⟨i,out⟩:=y
 simp only at hI ⊢
 have g1:=hI.1
 have g2:=hI.2.2.1
 have g3:=hI.2.2.2.1.1
 have g4:=hI.2.2.2.1.2
 have g5:=hI.2.1
 have e1:IntKind.wrap .i64 (i+1)=i+1:=w64 (by omega) (by omega)
 have e2:IntKind.wrap .i64 (i - 1)=i - 1:=w64 (by omega) (by omega)
 have e3:IntKind.wrap .i64 (i - 2)=i - 2:=w64 (by omega) (by omega)
 have kv:=k2 i.toNat
 refine⟨λhi=>⟨by omega,by omega,λh3=>?_,λh3=>?_⟩,λhi=>⟨by omega,k4,XxB hI hi k3 k4⟩⟩
 . have ku:=XrM ((X0R a0 a1).1.getD i.toNat 0)
   have g4:=g4 (by omega)
   have hx:=XwL hI hi h3
   rw[e1,e2,e3,show(i - 1).toNat=i.toNat - 1 by omega,show(i - 2).toNat=i.toNat - 2 by omega,w64 (x:=out.getD (i.toNat - 1) 0 - out.getD (i.toNat - 2) 0) (by omega) (by omega),w64 (x:=out.getD (i.toNat - 1) 0 - out.getD (i.toNat - 2) 0+XqD ((X0R a0 a1).1.getD i.toNat 0)) (by omega) (by omega),w64 (x:=out.getD (i.toNat - 1) 0+(out.getD (i.toNat - 1) 0 - out.getD (i.toNat - 2) 0+XqD ((X0R a0 a1).1.getD i.toNat 0))) (by omega) (by omega)]
   exact⟨by omega,by omega,by omega,by omega,by omega,by omega,by omega,by omega,Xuo hI hi hx,λh4=>⟨by omega,by omega,Xro hI hi hx h4,by unfold rsM;omega⟩⟩
 . have hx:=XxJ hI hi h3
   rw[e1,e2,show(i - 1).toNat=i.toNat - 1 by omega,w64 (x:=out.getD (i.toNat - 1) 0+(X0R a0 a1).1.getD i.toNat 0) (by omega) (by omega)]
   exact⟨by omega,by omega,Xuo hI hi hx,λh4=>⟨by omega,by omega,Xro hI hi hx h4,by unfold rsM;omega⟩⟩
def X2m.e:GE:=mE X7R func113 [139,3] [X29.e,X1W.e,X3d.e,X65.e] [] (λi x=>X2m.L x.1 x.2) (λi x=>X2m.F x.1 x.2) λi x h _ _=>X2m.p x.1 x.2 h
def X77:Con:=cQ XqA [.one,.one] (.pair Xfc (.int .i64)) [(false,1),(false,1)] (λa=>(pRd a.1 a.2)) λa=>(X4P a.1 a.2)
def X1R.F(a0:U6q)(a1:Int):Prop:=(True/\∀r1,(Eq r1 ((fIn a1 1 60),((),())))->(X00 (!r1.1) (Eq ((([]:(List Int)),0),((),())) ((X4P a0 a1),((),()))) ((p7 a0 a1)/\∀r2,(Eq r2 ((X0R a0 a1),((),())))->(X00 (decide (r2.1.2<(0:Int))) (Eq ((([]:(List Int)),0),((),())) ((X4P a0 a1),((),()))) (eS [(0,.val false [.str a0]),(1,.val false [.int .i64 a1]),(6,.val false [.lst (.int .i64) [] none]),(7,.val false [.lst (.int .i64) r2.1.1 none]),(8,.val false [.int .i64 r2.1.2])] [(0,.val false [.str a0]),(1,.val false [.int .i64 a1]),(6,.val false [.lst (.int .i64) [] none]),(7,.val false [.lst (.int .i64) r2.1.1 none]),(8,.val false [.int .i64 r2.1.2])]/\((vsI a0 a1 0 0 ([]:List Int))/\∀(y3:(Int×(Int×(List Int)))),(vsI a0 a1 y3.1 y3.2.1 y3.2.2)->(X00 (decide (y3.2.1<a1)) (0<=y3.2.1/\(y3.2.1<(ln r2.1.1)/\(True/\∀r4,(Eq r4 ((XqD (List.getD r2.1.1 (tN y3.2.1) 0)),((),())))->(True/\∀r5,(Eq r5 ((fIn (wI (y3.1+r4.1)) (-1099511627776) 1099511627776),((),())))->(X00 (!r5.1) (Eq ((([]:(List Int)),0),((),())) ((X4P a0 a1),((),()))) (List.length y3.2.2+List.length [(wI (y3.1+r4.1))]<=9223372036854775807/\((List.length y3.2.2+List.length [(wI (y3.1+r4.1))])*8<=140737488355328/\(eS [(0,.val false [.str a0]),(1,.val false [.int .i64 a1]),(6,.val false [.lst (.int .i64) [] none]),(7,.val false [.lst (.int .i64) r2.1.1 none]),(8,.val false [.int .i64 r2.1.2])] [(0,.val false [.str a0]),(1,.val false [.int .i64 a1]),(6,.val false [.lst (.int .i64) [] none]),(7,.val false [.lst (.int .i64) r2.1.1 none]),(8,.val false [.int .i64 r2.1.2])]/\(vsI a0 a1 (wI (y3.1+r4.1)) (wI (y3.2.1+(1:Int))) (y3.2.2++[(wI (y3.1+r4.1))]))/\(vsM a0 a1 (wI (y3.1+r4.1)) (wI (y3.2.1+(1:Int))) (y3.2.2++[(wI (y3.1+r4.1))]))<(vsM a0 a1 y3.1 y3.2.1 y3.2.2))))))))) (True/\∀r6,(Eq r6 ((X0o y3.2.2),((),())))->(0<=r2.1.2/\(r2.1.2<=(ln a0)/\(X00 (!(r6.1==(List.take (tN r2.1.2) a0))) (Eq ((([]:(List Int)),0),((),())) ((X4P a0 a1),((),()))) (Eq ((y3.2.2,r2.1.2),((),())) ((X4P a0 a1),((),()))))))))))))))
def X1R.L(a0:U6q)(a1:Int):Nat->Option X0e:=XLK [(2042,⟨⟨[0,1,6,7,8],[9,10,11],[],[kC 9 0 1001155 3]⟩,(.pair (.int .i64) (.pair (.int .i64) Xfc)),λst y=>vsI a0 a1 y.1 y.2.1 y.2.2,λst y=>vsM a0 a1 y.1 y.2.1 y.2.2⟩)]
theorem X1R.p(a0:U6q)(a1:Int)(h:(pRd a0 a1)):X1R.F a0 a1:=by
 delta X1R.F ln tN wI eS
 simp only[Bs,B0,B1,Yaa,X01]
 have hp:a0.length<=9223372036854775807:=h
 refine⟨λh1=>Xdg λl hl=>(by rw[RV.len hl]at h1;cases h1),λh1=>?_⟩
 rw[X0N]at h1
 refine⟨⟨hp,by omega,by omega⟩,λh2=>Xdg λl hl=>RV.pos hl h2,λh2=>?_⟩
 obtain⟨k1,k2,k3,k4⟩:=Xsh (by omega) h2
 refine⟨⟨by omega,by omega,rfl,by omega,rfl,λl hl=>by simp⟩,λy hI=>?_⟩
 obtain⟨last,i,out⟩:=y
 simp only at hI ⊢
 have g1:=hI.1
 have g2:=hI.2.2.1
 have g3:=hI.2.2.2.1
 have g5:=hI.2.1
 have e1:IntKind.wrap .i64 (i+1)=i+1:=w64 (by omega) (by omega)
 refine⟨λhi=>⟨by omega,by omega,?_⟩,λhi=>⟨by omega,k4,XxY hI hi k3 k4⟩⟩
 have ku:=XrM ((X0R a0 a1).1.getD i.toNat 0)
 have hx:=XxM hI hi
 rw[e1,w64 (x:=last+XqD ((X0R a0 a1).1.getD i.toNat 0)) (by omega) (by omega)]
 exact⟨XwX hI hi hx,λh4=>⟨by omega,by omega,Xvw hI hi hx h4,by unfold vsM;omega⟩⟩
def X1R.e:GE:=mE X77 func114 [139,3] [X29.e,X1n.e,X3d.e,X65.e] [] (λi x=>X1R.L x.1 x.2) (λi x=>X1R.F x.1 x.2) λi x h _ _=>X1R.p x.1 x.2 h
def dT(l:List Int)(j:Nat):Int:=if j=0 then l.getD 0 0 else l.getD j 0 - l.getD (j - 1) 0
def laT(l:List Int)(j:Nat):Int:=if j=0 then 0 else l.getD (j - 1) 0
def riI(s:List UInt8)(n step last i:Int)(rest:List UInt8)(ok:Bool)(out:List Int):Prop:=(0<=i/\i<=n/\n<=60/\(out.length:Int)=i)/\(-(1125899906842624*i)<=step/\step<=1125899906842624*i/\-(70000000000000000*i)<=last/\last<=70000000000000000*i)/\∀l,RT s n l->ok=true/\rest=s.drop (cat (tmW l) i.toNat).length/\out=l.take i.toNat/\last=laT l i.toNat/\(1<=i->step=dT l (i.toNat - 1))
def riM(s:List UInt8)(n step last i:Int)(rest:List UInt8)(ok:Bool)(out:List Int):Nat:=(n - i).toNat
def viI(s:List UInt8)(n last i:Int)(rest:List UInt8)(ok:Bool)(out:List Int):Prop:=(0<=i/\i<=n/\n<=60/\(out.length:Int)=i)/\(-(70000000000000000*i)<=last/\last<=70000000000000000*i)/\∀l,RV s n l->ok=true/\rest=s.drop (cat (vlW l) i.toNat).length/\out=l.take i.toNat/\last=laT l i.toNat
def viM(s:List UInt8)(n last i:Int)(rest:List UInt8)(ok:Bool)(out:List Int):Nat:=(n - i).toNat
theorem Xuk{W:Nat->Int}{n i:Nat}{s:List UInt8}(hw:∀j,j<n->X63 (W j))(hs:s.take (cat W n).length=cat W n)(hi:i<n):X6v (s.drop (cat W i).length,true)=(W i,(s.drop (cat W (i+1)).length,true)):=by
 obtain⟨h1,h2⟩:=Xpj hw hs hi
 have hp:=Xb1 (hw i hi)
 unfold X6v
 simp only
 rw[h1]
 simp only
 rw[Yah ⟨trivial,by omega⟩,YaE,h2]
theorem Xuy{W:Nat->Int}{n i:Nat}{s:List UInt8}{d:Int}(hw:∀j,j<n->X63 (W j))(hs:s.take (cat W n).length=cat W n)(hi:i<n)(hd:fIn d (-140737488355328) 140737488355328=true)(he:W i=Xgw d):XhI (s.drop (cat W i).length,true)=(d,(s.drop (cat W (i+1)).length,true)):=by
 unfold XhI
 rw[Xuk hw hs hi]
 simp only
 rw[he,Xia hd]
 rfl
theorem XqG{s:List UInt8}{n step last i step':Int}{rest:List UInt8}{ok:Bool}{out:List Int}{r:Rd}(hI:riI s n step last i rest ok out)(hi:i<n)(hb:-(1125899906842624*(i+1))<=step'/\step'<=1125899906842624*(i+1))(hs:∀l,RT s n l->ok=true->rest=s.drop (cat (tmW l) i.toNat).length->(1<=i->step=dT l (i.toNat - 1))->step'=dT l i.toNat/\r=(s.drop (cat (tmW l) (i.toNat+1)).length,true)):riI s n step' (last+step') (i+1) r.1 r.2 (out++[last+step']):=by
 obtain⟨⟨h1,h2,h3,h4⟩,⟨h5,h6,h7,h8⟩,h9⟩:=hI
 refine⟨⟨by omega,by omega,h3,by simp;omega⟩,⟨by omega,by omega,by omega,by omega⟩,λl hl=>?_⟩
 obtain⟨k1,k2,k3,k4,k5⟩:=h9 l hl
 obtain⟨j1,j2⟩:=hs l hl k1 k2 k5
 have hll:=hl.1
 have e:(i+1).toNat=i.toNat+1:=by omega
 have hx:last+step'=l.getD i.toNat 0:=by
  rw[k4,j1];unfold laT dT
  split
  . rename_i h0;rw[h0];omega
  . omega
 rw[e,j2]
 refine⟨rfl,rfl,by rw[k3,hx,XcM (by omega)],by rw[hx];rfl,λ_=>j1⟩
theorem Xxw{s:List UInt8}{n step i:Int}{rest:List UInt8}{ok:Bool}(h0:0<=i)(hi:i<n)(h2:i<2):∀l,RT s n l->ok=true->rest=s.drop (cat (tmW l) i.toNat).length->(1<=i->step=dT l (i.toNat - 1))->(X6v (rest,ok)).1=dT l i.toNat/\(X6v (rest,ok)).2=(s.drop (cat (tmW l) (i.toNat+1)).length,true):=λl hl k1 k2 _=>by
 have hll:=hl.1
 rw[k1,k2,Xuk (Xfb l hl.2.1) hl.2.2 (by omega)]
 refine⟨?_,rfl⟩
 show tmW l i.toNat=dT l i.toNat
 unfold tmW dT
 split
 . rfl
 . rw[Yah (by omega),show i.toNat=1 by omega]
theorem XxL{s:List UInt8}{n step i:Int}{rest:List UInt8}{ok:Bool}(hi:i<n)(h2:¬i<2):∀l,RT s n l->ok=true->rest=s.drop (cat (tmW l) i.toNat).length->(1<=i->step=dT l (i.toNat - 1))->step+(XhI (rest,ok)).1=dT l i.toNat/\(XhI (rest,ok)).2=(s.drop (cat (tmW l) (i.toNat+1)).length,true):=λl hl k1 k2 k3=>by
 have hll:=hl.1
 rw[k1,k2,Xuy (Xfb l hl.2.1) hl.2.2 (by omega) (Xs9 hl.2.1 (i:=i.toNat) (by omega) (by omega)) (by unfold tmW;rw[Yae (by omega),Yae (by omega)])]
 refine⟨?_,rfl⟩
 rw[k3 (by omega)]
 unfold dT
 rw[Yae (by omega),Yae (by omega),show i.toNat - 1 - 1=i.toNat - 2 by omega]
 simp only;omega
theorem Xvb{s:List UInt8}{n last i:Int}{rest:List UInt8}{ok:Bool}{out:List Int}(hI:viI s n last i rest ok out)(hi:i<n):viI s n (last+(XhI (rest,ok)).1) (i+1) (XhI (rest,ok)).2.1 (XhI (rest,ok)).2.2 (out++[last+(XhI (rest,ok)).1]):=by
 obtain⟨⟨h1,h2,h3,h4⟩,⟨h7,h8⟩,h9⟩:=hI
 have hz:=XrW (rest,ok)
 refine⟨⟨by omega,by omega,h3,by simp;omega⟩,⟨by omega,by omega⟩,λl hl=>?_⟩
 obtain⟨k1,k2,k3,k4⟩:=h9 l hl
 have hll:=hl.1
 have e:(i+1).toNat=i.toNat+1:=by omega
 rw[k1,k2,Xuy (Xge l hl.2.1) hl.2.2 (by omega) (Xrz hl.2.1 (i:=i.toNat) (by omega)) rfl]
 have hx:last+(l.getD i.toNat 0 - (if i.toNat=0 then 0 else l.getD (i.toNat - 1) 0))=l.getD i.toNat 0:=by
  rw[k4];unfold laT
  split<;>omega
 simp only
 rw[hx,e]
 exact⟨trivial,rfl,by rw[k3,XcM (by omega)],rfl⟩
theorem Xpk{s t:List UInt8}(h:X9U s t=true):s.take t.length=t:=by simpa [X9U] using h
theorem XxQ{s:List UInt8}{n step last i:Int}{rest:List UInt8}{ok:Bool}{out:List Int}(hI:riI s n step last i rest ok out)(hi:¬i<n):(ok=false->([],0)=X4G s n)/\(ok=true->((X9D s (X0t out)).2=false->([],0)=X4G s n)/\((X9D s (X0t out)).2=true->(out,(X9D s (X0t out)).1)=X4G s n)):=by
 obtain⟨⟨h1,h2,h3,h4⟩,_,h9⟩:=hI
 refine⟨λh=>Xdl λl hl=>?_,λh=>⟨λh5=>Xdl λl hl=>?_,λh5=>?_⟩⟩
 . rw[(h9 l hl).1]at h;cases h
 . have hll:=hl.1
   have e:out=l:=by rw[(h9 l hl).2.2.1,show i.toNat=l.length by omega,Yat]
   have hp:0<(cat (tmW l) l.length).length:=Xfj (Xfb l hl.2.1 0 (by have:=(X69.1 hl.2.1).1;omega)) _ (by have:=(X69.1 hl.2.1).1;omega)
   rw[e]at h5
   simp only[X9D,Yc0,Yay,X9U,YbF,ne_eq,Ydj,Xac hl.2.1]at h5
   rcases h5 with h5 | h5
   . rw[h5]at hp;simp at hp
   . exact h5 hl.2.2
 . simp only[X9D,Yac,Yaj,ne_eq]at h5
   have hr:Xcl out=true:=by
    by_cases hr:Xcl out=true
    . exact hr
    . exact absurd (by unfold X0t;rw[Yae hr]) h5.1
   have hR:RT s n out:=⟨by omega,hr,by have:=Xpk h5.2;rw[Xac hr]at this;exact this⟩
   rw[XfU hR]
   simp only[X9D,Xac hr]
theorem Xx1{s:List UInt8}{n last i:Int}{rest:List UInt8}{ok:Bool}{out:List Int}(hI:viI s n last i rest ok out)(hi:¬i<n):(ok=false->([],0)=X4P s n)/\(ok=true->((X9D s (X0o out)).2=false->([],0)=X4P s n)/\((X9D s (X0o out)).2=true->(out,(X9D s (X0o out)).1)=X4P s n)):=by
 obtain⟨⟨h1,h2,h3,h4⟩,_,h9⟩:=hI
 refine⟨λh=>Xdg λl hl=>?_,λh=>⟨λh5=>Xdg λl hl=>?_,λh5=>?_⟩⟩
 . rw[(h9 l hl).1]at h;cases h
 . have hll:=hl.1
   have e:out=l:=by rw[(h9 l hl).2.2.1,show i.toNat=l.length by omega,Yat]
   have hp:0<(cat (vlW l) l.length).length:=Xfj (Xge l hl.2.1 0 (by have:=(X6U.1 hl.2.1).1;omega)) _ (by have:=(X6U.1 hl.2.1).1;omega)
   rw[e]at h5
   simp only[X9D,Yc0,Yay,X9U,YbF,ne_eq,Ydj,Xah hl.2.1]at h5
   rcases h5 with h5 | h5
   . rw[h5]at hp;simp at hp
   . exact h5 hl.2.2
 . simp only[X9D,Yac,Yaj,ne_eq]at h5
   have hr:XcJ out=true:=by
    by_cases hr:XcJ out=true
    . exact hr
    . exact absurd (by unfold X0o;rw[Yae hr]) h5.1
   have hR:RV s n out:=⟨by omega,hr,by have:=Xpk h5.2;rw[Xah hr]at this;exact this⟩
   rw[Xgi hR]
   simp only[X9D,Xah hr]
def X7W:Con:=cW XqA [.one,.one] (.pair Xfc (.int .i64)) [(false,1),(false,1)] [(0,3)] (λ_=>True) λa=>(X4G a.1 a.2)
def X2f.F(a0:U6q)(a1:Int):Prop:=(True/\∀r1,(Eq r1 ((fIn a1 1 60),((),())))->(X00 (!r1.1) (Eq ((([]:(List Int)),0),((),())) ((X4G a0 a1),((),()))) (eS [(0,.val false [.str a0]),(6,.box 19 0),(20,.val false [.int .i64 a1])] [(0,.val false [.str a0]),(6,.box 19 0),(20,.val false [.int .i64 a1])]/\((riI a0 a1 0 0 0 a0 true ([]:List Int))/\∀(y2:(Int×(Int×(Int×(U6q×(Bool×(List Int))))))),(riI a0 a1 y2.1 y2.2.1 y2.2.2.1 y2.2.2.2.1 y2.2.2.2.2.1 y2.2.2.2.2.2)->(X00 (decide (y2.2.2.1<a1)) (X00 (decide (y2.2.2.1<(2:Int))) (True/\∀r3,(Eq r3 ((X6v (y2.2.2.2.1,y2.2.2.2.2.1)).1,((X6v (y2.2.2.2.1,y2.2.2.2.2.1)).2,())))->(List.length y2.2.2.2.2.2+List.length [(wI (y2.2.1+r3.1))]<=9223372036854775807/\((List.length y2.2.2.2.2.2+List.length [(wI (y2.2.1+r3.1))])*8<=140737488355328/\(eS [(0,.val false [.str a0]),(6,.box 19 0),(20,.val false [.int .i64 a1])] [(0,.val false [.str a0]),(6,.box 19 0),(20,.val false [.int .i64 a1])]/\(riI a0 a1 r3.1 (wI (y2.2.1+r3.1)) (wI (y2.2.2.1+(1:Int))) r3.2.1.1 r3.2.1.2 (y2.2.2.2.2.2++[(wI (y2.2.1+r3.1))]))/\(riM a0 a1 r3.1 (wI (y2.2.1+r3.1)) (wI (y2.2.2.1+(1:Int))) r3.2.1.1 r3.2.1.2 (y2.2.2.2.2.2++[(wI (y2.2.1+r3.1))]))<(riM a0 a1 y2.1 y2.2.1 y2.2.2.1 y2.2.2.2.1 y2.2.2.2.2.1 y2.2.2.2.2.2))))) (True/\∀r4,(Eq r4 ((XhI (y2.2.2.2.1,y2.2.2.2.2.1)).1,((XhI (y2.2.2.2.1,y2.2.2.2.2.1)).2,())))->(List.length y2.2.2.2.2.2+List.length [(wI (y2.2.1+(wI (y2.1+r4.1))))]<=9223372036854775807/\((List.length y2.2.2.2.2.2+List.length [(wI (y2.2.1+(wI (y2.1+r4.1))))])*8<=140737488355328/\(eS [(0,.val false [.str a0]),(6,.box 19 0),(20,.val false [.int .i64 a1])] [(0,.val false [.str a0]),(6,.box 19 0),(20,.val false [.int .i64 a1])]/\(riI a0 a1 (wI (y2.1+r4.1)) (wI (y2.2.1+(wI (y2.1+r4.1)))) (wI (y2.2.2.1+(1:Int))) r4.2.1.1 r4.2.1.2 (y2.2.2.2.2.2++[(wI (y2.2.1+(wI (y2.1+r4.1))))]))/\(riM a0 a1 (wI (y2.1+r4.1)) (wI (y2.2.1+(wI (y2.1+r4.1)))) (wI (y2.2.2.1+(1:Int))) r4.2.1.1 r4.2.1.2 (y2.2.2.2.2.2++[(wI (y2.2.1+(wI (y2.1+r4.1))))]))<(riM a0 a1 y2.1 y2.2.1 y2.2.2.1 y2.2.2.2.1 y2.2.2.2.2.1 y2.2.2.2.2.2)))))) ((Xit y2.2.2.2.2.2)/\∀r5,(Eq r5 ((X0t y2.2.2.2.2.2),((),())))->(True/\∀r6,(Eq r6 ((X9D a0 r5.1),((),())))->(X00 (!y2.2.2.2.2.1) (Eq ((([]:(List Int)),0),((),())) ((X4G a0 a1),((),()))) (X00 (!r6.1.2) (Eq ((([]:(List Int)),0),((),())) ((X4G a0 a1),((),()))) (Eq ((y2.2.2.2.2.2,r6.1.1),((),())) ((X4G a0 a1),((),()))))))))))))
def X2f.L(a0:U6q)(a1:Int):Nat->Option X0e:=XLK [(1018,⟨⟨[0,6,20],[7,8,9,21],[19],[kC 7 0 1000899 3]⟩,(.pair (.int .i64) (.pair (.int .i64) (.pair (.int .i64) (.pair .str (.pair .bool Xfc))))),λst y=>riI a0 a1 y.1 y.2.1 y.2.2.1 y.2.2.2.1 y.2.2.2.2.1 y.2.2.2.2.2,λst y=>riM a0 a1 y.1 y.2.1 y.2.2.1 y.2.2.2.1 y.2.2.2.2.1 y.2.2.2.2.2⟩)]
theorem X2f.p(a0:U6q)(a1:Int)(h:True):X2f.F a0 a1:=by
 delta X2f.F wI eS
 simp only[Bs,B0,B1,Yaa,X01]
 refine⟨λh1=>Xdl λl hl=>(by rw[RT.len hl]at h1;cases h1),λh1=>?_⟩
 rw[X0N]at h1
 refine⟨⟨⟨by omega,by omega,by omega,rfl⟩,⟨by omega,by omega,by omega,by omega⟩,λl hl=>⟨rfl,by simp[cat],by simp,rfl,λh=>by omega⟩⟩,λy hI=>?_⟩
 obtain⟨step,last,i,rest,ok,out⟩:=y
 simp only at hI ⊢
 have g1:=hI.1
 have g2:=hI.2.1
 have e1:IntKind.wrap .i64 (i+1)=i+1:=w64 (by omega) (by omega)
 refine⟨λhi=>⟨λh2=>?_,λh2=>?_⟩,λhi=>⟨by unfold Xit;omega,XxQ hI hi⟩⟩
 . have hn:=XoE (rest,ok)
   rw[e1,w64 (x:=last+(X6v (rest,ok)).1) (by omega) (by omega)]
   exact⟨by omega,by omega,XqG hI hi (by omega) (Xxw (by omega) hi h2),by unfold riM;omega⟩
 . have hn:=XrW (rest,ok)
   rw[e1,w64 (x:=step+(XhI (rest,ok)).1) (by omega) (by omega),w64 (x:=last+(step+(XhI (rest,ok)).1)) (by omega) (by omega)]
   exact⟨by omega,by omega,XqG hI hi (by omega) (XxL hi h2),by unfold riM;omega⟩
def X2f.e:GE:=mE X7W func141 [139,3] [X3W.e,X0V.e,X1X.e,X4K.e,X5b.e] [] (λi x=>X2f.L x.1 x.2) (λi x=>X2f.F x.1 x.2) λi x h _ _=>X2f.p x.1 x.2 h
def X7f:Con:=cW XqA [.one,.one] (.pair Xfc (.int .i64)) [(false,1),(false,1)] [(0,3)] (λ_=>True) λa=>(X4P a.1 a.2)
def X1G.F(a0:U6q)(a1:Int):Prop:=(True/\∀r1,(Eq r1 ((fIn a1 1 60),((),())))->(X00 (!r1.1) (Eq ((([]:(List Int)),0),((),())) ((X4P a0 a1),((),()))) (eS [(0,.val false [.str a0]),(6,.box 17 0),(18,.val false [.int .i64 a1])] [(0,.val false [.str a0]),(6,.box 17 0),(18,.val false [.int .i64 a1])]/\((viI a0 a1 0 0 a0 true ([]:List Int))/\∀(y2:(Int×(Int×(U6q×(Bool×(List Int)))))),(viI a0 a1 y2.1 y2.2.1 y2.2.2.1 y2.2.2.2.1 y2.2.2.2.2)->(X00 (decide (y2.2.1<a1)) (True/\∀r3,(Eq r3 ((XhI (y2.2.2.1,y2.2.2.2.1)).1,((XhI (y2.2.2.1,y2.2.2.2.1)).2,())))->(List.length y2.2.2.2.2+List.length [(wI (y2.1+r3.1))]<=9223372036854775807/\((List.length y2.2.2.2.2+List.length [(wI (y2.1+r3.1))])*8<=140737488355328/\(eS [(0,.val false [.str a0]),(6,.box 17 0),(18,.val false [.int .i64 a1])] [(0,.val false [.str a0]),(6,.box 17 0),(18,.val false [.int .i64 a1])]/\(viI a0 a1 (wI (y2.1+r3.1)) (wI (y2.2.1+(1:Int))) r3.2.1.1 r3.2.1.2 (y2.2.2.2.2++[(wI (y2.1+r3.1))]))/\(viM a0 a1 (wI (y2.1+r3.1)) (wI (y2.2.1+(1:Int))) r3.2.1.1 r3.2.1.2 (y2.2.2.2.2++[(wI (y2.1+r3.1))]))<(viM a0 a1 y2.1 y2.2.1 y2.2.2.1 y2.2.2.2.1 y2.2.2.2.2))))) ((Xit y2.2.2.2.2)/\∀r4,(Eq r4 ((X0o y2.2.2.2.2),((),())))->(True/\∀r5,(Eq r5 ((X9D a0 r4.1),((),())))->(X00 (!y2.2.2.2.1) (Eq ((([]:(List Int)),0),((),())) ((X4P a0 a1),((),()))) (X00 (!r5.1.2) (Eq ((([]:(List Int)),0),((),())) ((X4P a0 a1),((),()))) (Eq ((y2.2.2.2.2,r5.1.1),((),())) ((X4P a0 a1),((),()))))))))))))
def X1G.L(a0:U6q)(a1:Int):Nat->Option X0e:=XLK [(506,⟨⟨[0,6,18],[7,8,19],[17],[kC 7 0 1000899 3]⟩,(.pair (.int .i64) (.pair (.int .i64) (.pair .str (.pair .bool Xfc)))),λst y=>viI a0 a1 y.1 y.2.1 y.2.2.1 y.2.2.2.1 y.2.2.2.2,λst y=>viM a0 a1 y.1 y.2.1 y.2.2.1 y.2.2.2.1 y.2.2.2.2⟩)]
theorem X1G.p(a0:U6q)(a1:Int)(h:True):X1G.F a0 a1:=by
 delta X1G.F wI eS
 simp only[Bs,B0,B1,Yaa,X01]
 refine⟨λh1=>Xdg λl hl=>(by rw[RV.len hl]at h1;cases h1),λh1=>?_⟩
 rw[X0N]at h1
 refine⟨⟨⟨by omega,by omega,by omega,rfl⟩,⟨by omega,by omega⟩,λl hl=>⟨rfl,by simp[cat],by simp,rfl⟩⟩,λy hI=>?_⟩
 obtain⟨last,i,rest,ok,out⟩:=y
 simp only at hI ⊢
 have g1:=hI.1
 have g2:=hI.2.1
 have e1:IntKind.wrap .i64 (i+1)=i+1:=w64 (by omega) (by omega)
 refine⟨λhi=>?_,λhi=>⟨by unfold Xit;omega,Xx1 hI hi⟩⟩
 have hn:=XrW (rest,ok)
 rw[e1,w64 (x:=last+(XhI (rest,ok)).1) (by omega) (by omega)]
 exact⟨by omega,by omega,Xvb hI hi,by unfold viM;omega⟩
def X1G.e:GE:=mE X7f func142 [139,3] [X0V.e,X1m.e,X4K.e,X5b.e] [] (λi x=>X1G.L x.1 x.2) (λi x=>X1G.F x.1 x.2) λi x h _ _=>X1G.p x.1 x.2 h
def be(l:List UInt8):Int:=l.foldl (λn b=>n*256+(b.toNat:Int)) 0
theorem Xnw(l:List UInt8)(b:UInt8):be (l++[b])=be l*256+(b.toNat:Int):=by simp[be]
theorem XxV(w:Nat):∀(l:List UInt8),l.length=w->0<=be l/\be l<256 ^ w:=by
 induction w with
 | zero=>intro l hl;rw[YaL.1 hl];decide
 | succ w ih=>
   intro l hl
   obtain⟨r,b,rfl⟩:∃r b,l=r++[b]:=by
    rcases List.eq_nil_or_concat l with h | ⟨r,b,h⟩
    . rw[h]at hl;simp at hl
    . exact⟨r,b,by rw[h,List.concat_eq_append]⟩
   have:=ih r (by simpa using hl)
   have hb:=b.toNat_lt
   rw[Xnw,Int.pow_succ]
   generalize (256:Int) ^ w=p at*
   omega
theorem XvI:∀(w n:Nat),n<256 ^ w->be (X3q (fx w n))=n
 | 0,n,h=>by have:n=0:=by omega
             subst this;rfl
 | w+1,n,h=>by
   have h1:n / 256<256 ^ w:=by rw[Yc8]at h;omega
   rw[fx,Xf7,show X3q [((n % 256:Nat):Int)]=[UInt8.ofNat (n % 256)] from rfl,Xnw,XvI w _ h1,UInt8.toNat_ofNat']
   omega
def X0C(s:List UInt8)(w:Int):Int×Bool:=if fIn w 1 7=true/\w<=(s.length:Int) then(be (s.take w.toNat),true) else(0,false)
def rfI(s:List UInt8)(w n i:Int):Prop:=0<=i/\i<=w/\1<=w/\w<=7/\w<=(s.length:Int)/\n=be (s.take i.toNat)
def rfM(s:List UInt8)(w n i:Int):Nat:=(w - i).toNat
theorem Xmy{i:Nat}(h:i<=6):(256:Int) ^ i<=281474976710656:=by
 have h1:i=0\/i=1\/i=2\/i=3\/i=4\/i=5\/i=6:=by omega
 rcases h1 with h | h | h | h | h | h | h<;>subst h<;>decide
theorem Xsl{s:List UInt8}{w n i:Int}(h:rfI s w n i)(hi:i<w):(0<=n/\n<281474976710656)/\rfI s w (n*256+((s.getD i.toNat 0).toNat:Int)) (i+1):=by
 obtain⟨h1,h2,h3,h4,h5,h6⟩:=h
 have hb:=XxV i.toNat (s.take i.toNat) (by rw[Yal];omega)
 have hp:=Xmy (i:=i.toNat) (by omega)
 refine⟨by omega,by omega,by omega,h3,h4,h5,?_⟩
 rw[show(i+1).toNat=i.toNat+1 by omega,Xcr (by omega),Xnw,h6]
theorem or256{n:Int}{b:Nat}(h:0<=n)(h2:n<281474976710656)(hb:b<256):IntKind.wrap .i64 (BitVec.toNat (BitVec.ofInt (IntKind.bits .i64) (n*256)|||BitVec.ofInt (IntKind.bits .i64) (b:Int)))=n*256+b:=by
 obtain⟨k,rfl⟩:∃k:Nat,n=k:=⟨n.toNat,by omega⟩
 have e1:BitVec.ofInt (IntKind.bits .i64) (((k:Int))*256)=BitVec.ofNat 64 (k*256):=by
  show BitVec.ofInt 64 (((k:Int))*256)=_
  rw[show((k:Int)*256)=((k*256:Nat):Int) by omega,BitVec.ofInt_natCast]
 have e2:BitVec.ofInt (IntKind.bits .i64) (b:Int)=BitVec.ofNat 64 b:=BitVec.ofInt_natCast 64 b
 rw[e1,e2]
 have e3:(BitVec.ofNat 64 (k*256)|||BitVec.ofNat 64 b).toNat=k*256+b:=by
  rw[BitVec.toNat_or,YcC,YcC,Ycg (by omega),Ycg (by omega),Nat.mul_comm]
  exact(Nat.two_pow_add_eq_or_of_lt (i:=8) (by omega) k).symm
 show IntKind.wrap .i64 (((BitVec.ofNat 64 (k*256)|||BitVec.ofNat 64 b).toNat:Nat):Int)=_
 rw[e3,w64 (by omega) (by omega)];omega
def X7z:Con:=cQ XqA [.one,.one] XrD [(false,1),(false,1)] (λ_=>True) λa=>(X0C a.1 a.2)
def X1U.F(a0:U6q)(a1:Int):Prop:=(True/\∀r1,(Eq r1 ((fIn a1 1 7),((),())))->(X00 (!r1.1) (Eq ((0,false),((),())) ((X0C a0 a1),((),()))) (X00 (decide ((ln a0)<a1)) (Eq ((0,false),((),())) ((X0C a0 a1),((),()))) (eS [(0,.val false [.str a0]),(1,.val false [.int .i64 a1])] [(0,.val false [.str a0]),(1,.val false [.int .i64 a1])]/\((rfI a0 a1 0 0)/\∀(y2:(Int×Int)),(rfI a0 a1 y2.1 y2.2)->(X00 (decide (y2.2<a1)) (0<=y2.2/\(y2.2<(ln a0)/\(eS [(0,.val false [.str a0]),(1,.val false [.int .i64 a1])] [(0,.val false [.str a0]),(1,.val false [.int .i64 a1])]/\(rfI a0 a1 (wI ((wI (y2.1*(256:Int)))+(wI ((UInt8.toNat (List.getD a0 (tN y2.2) 0):Nat):Int)))) (wI (y2.2+(1:Int))))/\(rfM a0 a1 (wI ((wI (y2.1*(256:Int)))+(wI ((UInt8.toNat (List.getD a0 (tN y2.2) 0):Nat):Int)))) (wI (y2.2+(1:Int))))<(rfM a0 a1 y2.1 y2.2)))) (Eq ((y2.1,true),((),())) ((X0C a0 a1),((),())))))))))
def X1U.L(a0:U6q)(a1:Int):Nat->Option X0e:=XLK [(122,⟨⟨[0,1],[6,7],[],[]⟩,T0q,λst y=>rfI a0 a1 y.1 y.2,λst y=>rfM a0 a1 y.1 y.2⟩)]
theorem X1U.p(a0:U6q)(a1:Int)(h:True):X1U.F a0 a1:=by
 delta X1U.F ln tN wI eS
 simp only[Bs,B0,B1,Yaa,X01]
 refine⟨λh1=>by simp[X0C,h1],λh1=>⟨λh2=>by unfold X0C;rw[Yae (by omega)],λh2=>?_⟩⟩
 have hw7:=X0N.1 h1
 refine⟨⟨by omega,by omega,by omega,by omega,by omega,rfl⟩,λy hI=>?_⟩
 obtain⟨n,i⟩:=y
 simp only at hI ⊢
 have g1:=hI.1
 have g2:=hI.2.1
 have hx:=(a0.getD i.toNat 0).toNat_lt
 refine⟨λhi=>?_,λhi=>?_⟩
 . obtain⟨hn,step⟩:=Xsl hI hi
   rw[w64 (x:=((a0.getD i.toNat 0).toNat:Int)) (by omega) (by omega),w64 (x:=n*256) (by omega) (by omega),w64 (x:=n*256+((a0.getD i.toNat 0).toNat:Int)) (by omega) (by omega),w64 (x:=i+1) (by omega) (by omega)]
   exact⟨by omega,by omega,step,by unfold rfM;omega⟩
 . have e:i=a1:=by omega
   unfold X0C
   rw[Yah ⟨h1,by omega⟩,hI.2.2.2.2.2,e]
def X1U.e:GE:=mE X7z func160 [3,4] [X29.e] [] (λi x=>X1U.L x.1 x.2) (λi x=>X1U.F x.1 x.2) λi x h _ _=>X1U.p x.1 x.2 h
def X7O:Con:=cQ XqA [.one,.one] XrD [(false,1),(false,1)] (λ_=>True) λa=>(X0C a.1 a.2)
def X1S.F(a0:U6q)(a1:Int):Prop:=(True/\∀r1,(Eq r1 ((fIn a1 1 7),((),())))->(X00 (!r1.1) (Eq ((0,false),((),())) ((X0C a0 a1),((),()))) (X00 (decide ((ln a0)<a1)) (Eq ((0,false),((),())) ((X0C a0 a1),((),()))) (eS [(0,.val false [.str a0]),(17,.val false [.int .i64 a1])] [(0,.val false [.str a0]),(17,.val false [.int .i64 a1])]/\((rfI a0 a1 0 0)/\∀(y2:(Int×Int)),(rfI a0 a1 y2.1 y2.2)->(X00 (decide (y2.2<a1)) (0<=(8:Int)/\(0<=y2.2/\(y2.2<(ln a0)/\(eS [(0,.val false [.str a0]),(17,.val false [.int .i64 a1])] [(0,.val false [.str a0]),(17,.val false [.int .i64 a1])]/\(rfI a0 a1 (IntKind.wrap .i64 (BitVec.toNat (BitVec.ofInt (IntKind.bits .i64) (wI (y2.1*2 ^ (min (tN (8:Int)) (IntKind.bits .i64))))|||BitVec.ofInt (IntKind.bits .i64) (wI ((UInt8.toNat (List.getD a0 (tN y2.2) 0):Nat):Int))))) (wI (y2.2+(1:Int))))/\(rfM a0 a1 (IntKind.wrap .i64 (BitVec.toNat (BitVec.ofInt (IntKind.bits .i64) (wI (y2.1*2 ^ (min (tN (8:Int)) (IntKind.bits .i64))))|||BitVec.ofInt (IntKind.bits .i64) (wI ((UInt8.toNat (List.getD a0 (tN y2.2) 0):Nat):Int))))) (wI (y2.2+(1:Int))))<(rfM a0 a1 y2.1 y2.2))))) (Eq ((y2.1,true),((),())) ((X0C a0 a1),((),())))))))))
def X1S.L(a0:U6q)(a1:Int):Nat->Option X0e:=XLK [(122,⟨⟨[0,17],[6,18],[],[]⟩,T0q,λst y=>rfI a0 a1 y.1 y.2,λst y=>rfM a0 a1 y.1 y.2⟩)]
theorem X1S.p(a0:U6q)(a1:Int)(h:True):X1S.F a0 a1:=by
 delta X1S.F ln tN wI eS
 simp only[Bs,B0,B1,Yaa,X01]
 refine⟨λh1=>by simp[X0C,h1],λh1=>⟨λh2=>by unfold X0C;rw[Yae (by omega)],λh2=>?_⟩⟩
 have hw7:=X0N.1 h1
 refine⟨⟨by omega,by omega,by omega,by omega,by omega,rfl⟩,λy hI=>?_⟩
 obtain⟨n,i⟩:=y
 simp only at hI ⊢
 have g1:=hI.1
 have g2:=hI.2.1
 have hx:=(a0.getD i.toNat 0).toNat_lt
 refine⟨λhi=>?_,λhi=>?_⟩
 . obtain⟨hn,step⟩:=Xsl hI hi
   rw[show(min (Int.toNat 8) (IntKind.bits .i64))=8 from rfl,show(2:Int) ^ 8=256 from rfl,w64 (x:=((a0.getD i.toNat 0).toNat:Int)) (by omega) (by omega),w64 (x:=n*256) (by omega) (by omega),or256 hn.1 hn.2 hx,w64 (x:=i+1) (by omega) (by omega)]
   exact⟨by omega,by omega,by omega,step,by unfold rfM;omega⟩
 . have e:i=a1:=by omega
   unfold X0C
   rw[Yah ⟨h1,by omega⟩,hI.2.2.2.2.2,e]
def X1S.e:GE:=mE X7O func178 [3,4] [X0V.e] [] (λi x=>X1S.L x.1 x.2) (λi x=>X1S.F x.1 x.2) λi x h _ _=>X1S.p x.1 x.2 h
def X0m(s:List UInt8):List UInt8×(Int×Int):=
 if (X0C s 4).2=false then([],0,1)
 else if fIn (X0C s 4).1 1 2000=false then([],0,2)
 else if (s.length:Int)<(X0C s 4).1+8 then([],0,1)
 else if X42 ((s.take ((X0C s 4).1+8).toNat).drop 8)=s.take ((X0C s 4).1+8).toNat then((s.take ((X0C s 4).1+8).toNat).drop 8,(X0C s 4).1+8,0)
 else([],0,2)
theorem Xto{s:List UInt8}{w:Int}:0<=(X0C s w).1/\(X0C s w).1<72057594037927936:=by
 unfold X0C
 split
 . rename_i h
   have h1:=X0N.1 h.1
   have hb:=XxV w.toNat (s.take w.toNat) (by rw[Yal];omega)
   have:(256:Int) ^ w.toNat<=72057594037927936:=by
    by_cases h7:w.toNat<=6
    . have:=Xmy h7;omega
    . rw[show w.toNat=7 by omega];decide
   simp only;omega
 . simp
theorem XrK{n:Nat}(h:n<=2000):X12 n 4=X3q (fx 4 n):=by
 unfold X12
 rw[Yah ⟨by decide,by omega,by rw[show(4:Int).toNat=4 from rfl];omega⟩];rfl
theorem Xcj(l:List Int):(X3q l).length=l.length:=by simp[X3q]
theorem XiJ(s:List UInt8):(X12 (XjE s) 4).length=4:=by
 have:=Xic s
 unfold X12
 rw[Yah ⟨by decide,by omega,by rw[show(4:Int).toNat=4 from rfl];omega⟩,Xcj,XcI];rfl
theorem Xlj{b:List UInt8}(h:1<=b.length/\b.length<=2000):(X42 b).length=b.length+8/\X0m (X42 b)=(b,((b.length:Int)+8,0)):=by
 have e:X42 b=X12 b.length 4++X12 (XjE (X12 b.length 4++b)) 4++b:=by
  unfold X42;rw[Yah (X0N.2 (by omega))]
 have l1:(X12 b.length 4).length=4:=by rw[XrK h.2,Xcj,XcI]
 have l2:=XiJ (X12 b.length 4++b)
 have hl:(X42 b).length=b.length+8:=by rw[e,Yab,Yab,l1,l2];omega
 have hr:X0C (X42 b) 4=((b.length:Int),true):=by
  unfold X0C
  rw[Yah ⟨by decide,by omega⟩,e,Yam,show(4:Int).toNat=(X12 b.length 4).length from l1.symm,Ybj,XrK h.2,XvI 4 _ (by omega)]
 refine⟨hl,?_⟩
 have hb:(X42 b).drop 8=b:=by
  rw[e,show 8=(X12 b.length 4++X12 (XjE (X12 b.length 4++b)) 4).length by rw[Yab,l1,l2],Ya1]
 unfold X0m
 rw[hr]
 simp only
 have e8:((b.length:Int)+8).toNat=(X42 b).length:=by rw[hl];omega
 rw[Yae (by decide),Yae (by rw[X0N.2 (by omega)];decide),Yae (by omega),e8,Yat,hb,Yah rfl]
theorem Xf8(s:List UInt8):X0m s=([],0,1)\/X0m s=([],0,2)\/((X0m s).2.2=0/\1<=(X0m s).1.length/\(X0m s).1.length<=2000/\(X0m s).2.1=(X0m s).1.length+8/\(X0m s).2.1<=s.length/\X42 (X0m s).1=s.take (X0m s).2.1.toNat):=by
 unfold X0m
 split
 . exact .inl rfl
 split
 . exact .inr (.inl rfl)
 split
 . exact .inl rfl
 split
 . rename_i h1 h2 h3 h4
   have h5:=X0N.1 (show fIn (X0C s 4).1 1 2000=true by cases e:fIn (X0C s 4).1 1 2000;exact absurd e h2;rfl)
   refine .inr (.inr ⟨rfl,?_,?_,?_,by simp only;omega,h4⟩)<;>simp only[Yar,Yal]<;>omega
 . exact .inr (.inl rfl)
theorem Xhk(s:List UInt8):(X0m s).1.length<=2000:=by
 rcases Xf8 s with h | h | h
 . rw[h];simp
 . rw[h];simp
 . exact h.2.2.1
def Xaq:Con:=cQ .str [.one] (.pair .str T0q) [(false,1),(false,1),(false,1)] (λ_=>True) λa=>(X0m a)
def X4r.F(a0:U6q):Prop:=(True/\∀r1,(Eq r1 ((X0C a0 4),((),())))->(X00 (!r1.1.2) (Eq (([],(0,1)),((),())) ((X0m a0),((),()))) (X00 (r1.1.1==(0:Int)) (Eq (([],(0,2)),((),())) ((X0m a0),((),()))) (X00 (decide (r1.1.1>(2000:Int))) (Eq (([],(0,2)),((),())) ((X0m a0),((),()))) (X00 (decide ((ln a0)<(wI ((8:Int)+r1.1.1)))) (Eq (([],(0,1)),((),())) ((X0m a0),((),()))) (0<=(8:Int)/\((8:Int)<=(wI ((8:Int)+r1.1.1))/\((wI ((8:Int)+r1.1.1))<=(ln a0)/\(True/\∀r2,(Eq r2 ((X42 (List.drop (tN (8:Int)) (List.take (tN (wI ((8:Int)+r1.1.1))) a0))),((),())))->(0<=(wI ((8:Int)+r1.1.1))/\((wI ((8:Int)+r1.1.1))<=(ln a0)/\(X00 (!(r2.1==(List.take (tN (wI ((8:Int)+r1.1.1))) a0))) (Eq (([],(0,2)),((),())) ((X0m a0),((),()))) (Eq (((List.drop (tN (8:Int)) (List.take (tN (wI ((8:Int)+r1.1.1))) a0)),((wI ((8:Int)+r1.1.1)),0)),((),())) ((X0m a0),((),())))))))))))))))
theorem X4r.p(a0:U6q)(h:True)(hw:Wf Xaq.A a0):X4r.F a0:=by
 delta X4r.F ln tN wI
 have hb:=Xto (s:=a0) (w:=4)
 simp only[Bs,B0,B1,Yaa,X01]
 repeat' (with_reducible (first | (refine And.intro ?_ ?_) | intro _))
 all_goals (try simp (disch:=omega) only[w64,wu8,tn0,tn1,tm1,tm2,Yab,Yad,Yai]at*)
 all_goals (try simp (disch:=omega) only[w64,wu8,tn0,tn1,tm1,tm2,Yab,Yad,Yai]at*)
 all_goals (try omega)
 all_goals (try grind[X0m,X0N])
def X4r.e:GE:=mE Xaq func111 [9,3,3] [X5d.e,X1U.e] [] noL (λi x=>X4r.F x) λi x h _ hw=>X4r.p x h hw
def Xag:Con:=cQ .str [.one] (.pair .str T0q) [(false,1),(false,1),(false,1)] (λ_=>True) λa=>(X0m a)
def X4u.F(a0:U6q):Prop:=(True/\∀r1,(Eq r1 ((X0C a0 4),((),())))->(X00 (!r1.1.2) (Eq (([],(0,1)),((),())) ((X0m a0),((),()))) (True/\∀r2,(Eq r2 ((fIn r1.1.1 1 2000),((),())))->(X00 (!r2.1) (Eq (([],(0,2)),((),())) ((X0m a0),((),()))) (X00 (decide ((ln a0)<(wI (r1.1.1+(8:Int))))) (Eq (([],(0,1)),((),())) ((X0m a0),((),()))) (0<=(8:Int)/\((8:Int)<=(wI (r1.1.1+(8:Int)))/\((wI (r1.1.1+(8:Int)))<=(ln a0)/\(True/\∀r3,(Eq r3 ((X42 (List.drop (tN (8:Int)) (List.take (tN (wI (r1.1.1+(8:Int)))) a0))),((),())))->(0<=(wI (r1.1.1+(8:Int)))/\((wI (r1.1.1+(8:Int)))<=(ln a0)/\(X00 (!(r3.1==(List.take (tN (wI (r1.1.1+(8:Int)))) a0))) (Eq (([],(0,2)),((),())) ((X0m a0),((),()))) (Eq (((List.drop (tN (8:Int)) (List.take (tN (wI (r1.1.1+(8:Int)))) a0)),((wI (r1.1.1+(8:Int))),0)),((),())) ((X0m a0),((),())))))))))))))))
theorem X4u.p(a0:U6q)(h:True)(hw:Wf Xag.A a0):X4u.F a0:=by
 delta X4u.F ln tN wI
 have hb:=Xto (s:=a0) (w:=4)
 simp only[Bs,B0,B1,Yaa,X01]
 repeat' (with_reducible (first | (refine And.intro ?_ ?_) | intro _))
 all_goals (try simp (disch:=omega) only[w64,wu8,tn0,tn1,tm1,tm2,Yab,Yad,Yai]at*)
 all_goals (try simp (disch:=omega) only[w64,wu8,tn0,tn1,tm1,tm2,Yab,Yad,Yai]at*)
 all_goals (try omega)
 all_goals (try grind[X0m,X0N])
def X4u.e:GE:=mE Xag func140 [9,3,3] [X0V.e,X5c.e,X1S.e] [] noL (λi x=>X4u.F x) λi x h _ hw=>X4u.p x h hw
theorem Xn7(l:List Pt)(i:Nat):(l.map (·.1)).getD i 0=(l.getD i (0,0)).1:=by
 simp only[Yap,Ycd];cases l[i]?<;>rfl
theorem Xr4(l:List Pt)(i:Nat):(l.map (·.2)).getD i 0=(l.getD i (0,0)).2:=by
 simp only[Yap,Ycd];cases l[i]?<;>rfl
theorem Xk5{l:List Pt}:X0K l=true↔l.length<=60/\∀j,j<l.length->Xhz l j=true:=by
 simp only[X0K,Yac,Yaj,XhM]
theorem XoM{l:List Pt}{i:Nat}:Xhz l i=true↔XdP (l.map (·.1)) i=true/\Xb7 (l.map (·.2)) i=true:=by
 simp only[Xhz,XdP,Xb7,Xn7,Xr4,Yac]
 exact⟨λh=>⟨⟨h.1,h.2.2⟩,h.2.1⟩,λh=>⟨h.1.1,h.2,h.1.2⟩⟩
theorem XqK{l:List Pt}:(X0K l=true/\l≠[])↔Xcl (l.map (·.1))=true/\XcJ (l.map (·.2))=true:=by
 rw[Xk5,X69,X6U]
 simp only[Ycz,XoM]
 constructor
 . rintro⟨⟨h1,h2⟩,h3⟩
   have:=Ybh.2 h3
   exact⟨⟨⟨by omega,h1⟩,λj hj=>(h2 j hj).1⟩,⟨by omega,h1⟩,λj hj=>(h2 j hj).2⟩
 . rintro⟨⟨h1,h2⟩,h3,h4⟩
   exact⟨⟨h1.2,λj hj=>⟨h2 j hj,h4 j hj⟩⟩,Ybh.1 (by omega)⟩
def Xd7(l:List Pt):List UInt8:=X20 l.length++X0t (l.map (·.1))++X0o (l.map (·.2))
def RB(s:List UInt8)(l:List Pt):Prop:=(X0K l=true/\l≠[])/\X42 (Xd7 l)=s
instance (s:List UInt8) (l:List Pt):Decidable (RB s l):=by unfold RB;infer_instance
def bN(s:List UInt8):Int:=(X0j (X0m s).1).1
def bA(s:List UInt8):Int:=(X0j (X0m s).1).2
def bT(s:List UInt8):List Int×Int:=X4G ((X0m s).1.drop (bA s).toNat) (bN s)
def bV(s:List UInt8):List Int×Int:=X4P ((X0m s).1.drop (bA s+(bT s).2).toNat) (bN s)
def bC(s:List UInt8):List Pt:=(bT s).1.zip (bV s).1
def X0r(s:List UInt8):List Pt×Bool:=if RB s (bC s) then(bC s,true) else([],false)
theorem XsE{l:List Pt}(h:X0K l=true/\l≠[]):1<=(Xd7 l).length/\(Xd7 l).length<=2000:=by
 have h1:=X9G h.1
 have h2:=Ybh.2 h.2
 have h3:=Xb1 (v:=(l.length:Int)) (by unfold X63;omega)
 have h4:=X0w l.length
 have h5:=X9I (l.map (·.1))
 have h6:=X9p (l.map (·.2))
 simp only[Xd7,Yab];omega
structure RBf (s:List UInt8) (l:List Pt):Prop where
 h1:X0m s=(Xd7 l,((s.length:Int),0))
 h2:bN s=l.length
 h3:bA s=(X20 l.length).length
 h3':0<(X20 l.length).length
 h4:bT s=(l.map (·.1),((X0t (l.map (·.1))).length:Int))
 h4':0<(X0t (l.map (·.1))).length
 h5:bV s=(l.map (·.2),((X0o (l.map (·.2))).length:Int))
 h5':0<(X0o (l.map (·.2))).length
 h6:bC s=l
theorem Xou:∀l:List Pt,(l.map (·.1)).zip (l.map (·.2))=l
 | []=>rfl
 | x::l=>by simp only[Yaq,Ybm];rw[Xou l]
theorem RB.facts{s:List UInt8}{l:List Pt}(h:RB s l):RBf s l:=by
 obtain⟨h0,rfl⟩:=h
 have hb:=XsE h0
 obtain⟨hl,hu⟩:=Xlj hb
 have h1:=X9G h0.1
 have h2:=Ybh.2 h0.2
 have hv:X63 (l.length:Int):=by unfold X63;omega
 have h3:=Xb1 hv
 obtain⟨k1,k2⟩:=XqK.1 h0
 have q1:X0m (X42 (Xd7 l))=(Xd7 l,(((X42 (Xd7 l)).length:Int),0)):=by rw[hu,hl];rfl
 have qv:X0j (Xd7 l)=((l.length:Int),((X20 l.length).length:Int)):=by
  unfold Xd7;rw[Yam];exact Xpe hv _
 have q2:bN (X42 (Xd7 l))=l.length:=by unfold bN;rw[q1,qv]
 have q3:bA (X42 (Xd7 l))=(X20 l.length).length:=by unfold bA;rw[q1,qv]
 have e1:(Xd7 l).drop (X20 l.length).length=X0t (l.map (·.1))++X0o (l.map (·.2)):=by
  unfold Xd7;rw[Yam,Ya1]
 have rt:RT (X0t (l.map (·.1))++X0o (l.map (·.2))) l.length (l.map (·.1)):=⟨by simp,k1,by rw[<-Xac k1,Ybj]⟩
 have q4:bT (X42 (Xd7 l))=(l.map (·.1),((X0t (l.map (·.1))).length:Int)):=by
  unfold bT;rw[q1,q2,q3,YaE,e1,XfU rt,Xac k1]
 have e2:(Xd7 l).drop ((X20 l.length).length+(X0t (l.map (·.1))).length)=X0o (l.map (·.2)):=by
  rw[<-YaI,e1,Ya1]
 have rv:RV (X0o (l.map (·.2))) l.length (l.map (·.2)):=⟨by simp,k2,by rw[<-Xah k2,Yat]⟩
 have q5:bV (X42 (Xd7 l))=(l.map (·.2),((X0o (l.map (·.2))).length:Int)):=by
  unfold bV;rw[q1,q2,q3,q4]
  simp only
  rw[show(((X20 l.length).length:Int)+((X0t (l.map (·.1))).length:Int)).toNat=(X20 l.length).length+(X0t (l.map (·.1))).length by omega,e2,Xgi rv,Xah k2]
 have m1:(l.map (·.1)).length=l.length:=by simp
 have m2:(l.map (·.2)).length=l.length:=by simp
 exact⟨q1,q2,q3,h3,q4,by rw[Xac k1];exact Xfj (Xfb _ k1 0 (by omega)) _ (by omega),q5,by rw[Xah k2];exact Xfj (Xge _ k2 0 (by omega)) _ (by omega),by unfold bC;rw[q4,q5];exact Xou l⟩
theorem Xjz{s:List UInt8}{l:List Pt}(h:RB s l):(l,true)=X0r s:=by
 unfold X0r;rw[h.facts.h6,Yah h]
theorem Xa6{s:List UInt8}(h:∀l,¬RB s l):([],false)=X0r s:=by
 unfold X0r;rw[Yae (h _)]
theorem RB.show{s:List UInt8}{l:List Pt}(h:RB s l):X04 l=s:=by
 unfold X04;rw[Yah h.1];exact h.2
theorem RB_of{s:List UInt8}{l:List Pt}(h:X04 l=s)(h2:s≠[]):RB s l:=by
 unfold X04 at h
 split at h
 . rename_i h3;exact⟨h3,h⟩
 . exact absurd h.symm h2
theorem XkZ(s:List UInt8)(n:Int):0<=(X4G s n).2/\(X4G s n).2<=s.length/\((X4G s n).2=0->(X4G s n).1=[])/\((X4G s n).2≠0->RT s n (X4G s n).1):=by
 rcases XiW s n with⟨e,_⟩ | ⟨l,hl,e⟩
 . rw[e];simp
 . have h:=hl.2.2
   have h2:=Ybo List.length h
   rw[Yal]at h2
   have h1:=(X69.1 hl.2.1).1
   have hp:=Xfj (Xfb l hl.2.1 0 (by omega)) l.length (by omega)
   rw[e];simp only
   exact⟨by omega,by omega,λh=>by omega,λ_=>hl⟩
theorem XlJ(s:List UInt8)(n:Int):0<=(X4P s n).2/\(X4P s n).2<=s.length/\((X4P s n).2=0->(X4P s n).1=[])/\((X4P s n).2≠0->RV s n (X4P s n).1):=by
 rcases Xi3 s n with⟨e,_⟩ | ⟨l,hl,e⟩
 . rw[e];simp
 . have h:=hl.2.2
   have h2:=Ybo List.length h
   rw[Yal]at h2
   have h1:=(X6U.1 hl.2.1).1
   have hp:=Xfj (Xge l hl.2.1 0 (by omega)) l.length (by omega)
   rw[e];simp only
   exact⟨by omega,by omega,λh=>by omega,λ_=>hl⟩
theorem Xsc(s:List UInt8)(n:Int):(X4G s n).1.length<=60:=by
 rcases XiW s n with⟨e,_⟩ | ⟨l,hl,e⟩
 . rw[e];simp
 . rw[e];exact(X69.1 hl.2.1).1.2
theorem Xs1(s:List UInt8)(n:Int):(X4P s n).1.length<=60:=by
 rcases Xi3 s n with⟨e,_⟩ | ⟨l,hl,e⟩
 . rw[e];simp
 . rw[e];exact(X6U.1 hl.2.1).1.2
theorem XtI{s:List UInt8}(h1:bA s≠0)(h2:(X0m s).2.1=s.length)(h3:(bT s).2≠0)(h4:(bV s).2≠0)(h5:bA s+(bT s).2+(bV s).2=(X0m s).1.length):RB s (bC s)/\((bC s).length:Int)=bN s/\((bT s).1.length:Int)=bN s/\((bV s).1.length:Int)=bN s:=by
 have hu:X42 (X0m s).1=s:=by
  rcases Xf8 s with h | h | h
  . exfalso;apply h1;unfold bA;rw[h];rfl
  . exfalso;apply h1;unfold bA;rw[h];rfl
  . rw[h.2.2.2.2.2,h2,YaE,Yat]
 obtain⟨v1,v2⟩:=Xrv (s:=(X0m s).1) h1
 have vb:=X4h (X0m s).1
 have rt:RT ((X0m s).1.drop (bA s).toNat) (bN s) (bT s).1:=(XkZ ((X0m s).1.drop (bA s).toNat) (bN s)).2.2.2 h3
 have rv:RV ((X0m s).1.drop (bA s+(bT s).2).toNat) (bN s) (bV s).1:=(XlJ ((X0m s).1.drop (bA s+(bT s).2).toNat) (bN s)).2.2.2 h4
 have t1:=rt.1
 have t2:=rv.1
 have z1:((bC s).length:Int)=bN s:=by
  unfold bC;rw[YcA]
  change ((min (bT s).1.length (bV s).1.length:Nat):Int)=bN s
  have e1:((bT s).1.length:Int)=bN s:=t1
  have e2:((bV s).1.length:Int)=bN s:=t2
  omega
 have eT:(bC s).map (·.1)=(bT s).1:=by
  unfold bC
  exact List.map_fst_zip (by have e1:((bT s).1.length:Int)=bN s:=t1;have e2:((bV s).1.length:Int)=bN s:=t2;omega)
 have eV:(bC s).map (·.2)=(bV s).1:=by
  unfold bC
  exact List.map_snd_zip (by have e1:((bT s).1.length:Int)=bN s:=t1;have e2:((bV s).1.length:Int)=bN s:=t2;omega)
 refine⟨⟨XqK.2 ⟨by rw[eT];exact rt.2.1,by rw[eV];exact rv.2.1⟩,?_⟩,z1,t1,t2⟩
 have kT:(bT s).2=((X0t (bT s).1).length:Int):=by
  rw[Xac rt.2.1];have:=XfU rt;exact Ybo Prod.snd this
 have kV:(bV s).2=((X0o (bV s).1).length:Int):=by
  rw[Xah rv.2.1];have:=Xgi rv;exact Ybo Prod.snd this
 have gT:((X0m s).1.drop (bA s).toNat).take (bT s).2.toNat=X0t (bT s).1:=by
  rw[kT,YaE,Xac rt.2.1];exact rt.2.2
 have gV:((X0m s).1.drop (bA s+(bT s).2).toNat).take (bV s).2.toNat=X0o (bV s).1:=by
  rw[kV,YaE,Xah rv.2.1];exact rv.2.2
 have e:Xd7 (bC s)=(X0m s).1:=by
  unfold Xd7
  rw[z1,eT,eV]
  have gN:X20 (bN s)=(X0m s).1.take (bA s).toNat:=v1.symm
  have b1:0<=bA s:=vb.2.2.1
  rw[gN,<-gT,<-gV,show(bA s+(bT s).2).toNat=(bA s).toNat+(bT s).2.toNat by omega,<-Ydh,<-Ydh,YaX (by omega)]
 rw[e,hu]
def rbI(s:List UInt8)(i:Int)(out:List Pt):Prop:=0<=i/\i<=(bC s).length/\(out.length:Int)=i/\out=(bC s).take i.toNat
def rbM(s:List UInt8)(i:Int)(out:List Pt):Nat:=((bC s).length - i).toNat
theorem XwP{s:List UInt8}{i:Nat}(h:i<(bC s).length):(bC s).getD i (0,0)=((bT s).1.getD i 0,(bV s).1.getD i 0):=by
 unfold bC at h ⊢
 have h':=h
 rw[YcA]at h
 simp only[Yap]
 rw[Yav h',Yav (show i<(bT s).1.length by omega),Yav (show i<(bV s).1.length by omega)]
 simp
theorem XpX{l:List Pt}{i:Nat}(hi:i<l.length):l.take (i+1)=l.take i++[l.getD i (0,0)]:=by
 rw[Ydm,Yap,Yav hi];rfl
theorem XqH{s:List UInt8}{i:Int}{out:List Pt}(h:rbI s i out)(hi:i<(bC s).length):rbI s (i+1) (out++[((bT s).1.getD i.toNat 0,(bV s).1.getD i.toNat 0)]):=by
 obtain⟨h1,h2,h3,h4⟩:=h
 refine⟨by omega,by omega,by simp;omega,?_⟩
 rw[show(i+1).toNat=i.toNat+1 by omega,XpX (by omega),XwP (by omega),h4]
theorem Xsw{s:List UInt8}{i:Int}{out:List Pt}(h:rbI s i out)(hi:¬i<(bC s).length):out=bC s:=by
 obtain⟨h1,h2,h3,h4⟩:=h
 rw[h4,YaX (by omega)]
def X82:Con:=cW .str [.one] (.pair X7m .bool) [(false,1),(false,1)] [(0,107)] (λ_=>True) λa=>(X0r a)
def X19.F(a0:U6q):Prop:=(True/\∀r1,(Eq r1 ((X0m a0),((),())))->(True/\∀r2,(Eq r2 ((X0j r1.1.1),((),())))->(X00 (r2.1.2==(0:Int)) (Eq ((([]:U9q),false),((),())) ((X0r a0),((),()))) (X00 (r1.1.2.1 !=(ln a0)) (Eq ((([]:U9q),false),((),())) ((X0r a0),((),()))) (0<=r2.1.2/\(r2.1.2<=(ln r1.1.1)/\((pRd (List.drop (tN r2.1.2) r1.1.1) r2.1.1)/\∀r3,(Eq r3 ((X4G (List.drop (tN r2.1.2) r1.1.1) r2.1.1),((),())))->(X00 (r3.1.2==(0:Int)) (Eq ((([]:U9q),false),((),())) ((X0r a0),((),()))) (0<=(wI (r2.1.2+r3.1.2))/\((wI (r2.1.2+r3.1.2))<=(ln r1.1.1)/\((pRd (List.drop (tN (wI (r2.1.2+r3.1.2))) r1.1.1) r2.1.1)/\∀r4,(Eq r4 ((X4P (List.drop (tN (wI (r2.1.2+r3.1.2))) r1.1.1) r2.1.1),((),())))->(X00 (r4.1.2==(0:Int)) (Eq ((([]:U9q),false),((),())) ((X0r a0),((),()))) (X00 ((wI ((wI (r2.1.2+r3.1.2))+r4.1.2))!=(ln r1.1.1)) (Eq ((([]:U9q),false),((),())) ((X0r a0),((),()))) (eS [(8,.val false [.int .i64 r2.1.1]),(10,.val false [.lst (.int .i64) r3.1.1 none]),(12,.val false [.lst (.int .i64) r4.1.1 none])] [(8,.val false [.int .i64 r2.1.1]),(10,.val false [.lst (.int .i64) r3.1.1 none]),(12,.val false [.lst (.int .i64) r4.1.1 none])]/\((rbI a0 0 ([]:List (Int×Int)))/\∀(y5:(Int×U9q)),(rbI a0 y5.1 y5.2)->(X00 (decide (y5.1<r2.1.1)) (0<=y5.1/\(y5.1<(ln r3.1.1)/\(0<=y5.1/\(y5.1<(ln r4.1.1)/\(List.length y5.2+List.length [((List.getD r3.1.1 (tN y5.1) 0),(List.getD r4.1.1 (tN y5.1) 0))]<=9223372036854775807/\((List.length y5.2+List.length [((List.getD r3.1.1 (tN y5.1) 0),(List.getD r4.1.1 (tN y5.1) 0))])*16<=140737488355328/\(eS [(8,.val false [.int .i64 r2.1.1]),(10,.val false [.lst (.int .i64) r3.1.1 none]),(12,.val false [.lst (.int .i64) r4.1.1 none])] [(8,.val false [.int .i64 r2.1.1]),(10,.val false [.lst (.int .i64) r3.1.1 none]),(12,.val false [.lst (.int .i64) r4.1.1 none])]/\(rbI a0 (wI (y5.1+(1:Int))) (y5.2++[((List.getD r3.1.1 (tN y5.1) 0),(List.getD r4.1.1 (tN y5.1) 0))]))/\(rbM a0 (wI (y5.1+(1:Int))) (y5.2++[((List.getD r3.1.1 (tN y5.1) 0),(List.getD r4.1.1 (tN y5.1) 0))]))<(rbM a0 y5.1 y5.2)))))))) (Eq ((y5.2,true),((),())) ((X0r a0),((),())))))))))))))))))))
def X19.L(a0:U6q):Nat->Option X0e:=XLK [(16378,⟨⟨[8,10,12],[14,15],[],[kC 14 0 1001795 107]⟩,Xof,λst y=>rbI a0 y.1 y.2,λst y=>rbM a0 y.1 y.2⟩)]
theorem X19.p(a0:U6q)(h:True):X19.F a0:=by
 delta X19.F ln tN wI eS
 simp only[Bs,B0,B1,Yaa,X01]
 have u1:=Xhk a0
 have vb:=X4h (X0m a0).1
 have tb:=XkZ ((X0m a0).1.drop (bA a0).toNat) (bN a0)
 have wb:=XlJ ((X0m a0).1.drop (bA a0+(bT a0).2).toNat) (bN a0)
 rw[Yar]at tb wb
 change 0<=(bT a0).2/\(bT a0).2<=_/\((bT a0).2=0->(bT a0).1=[])/\((bT a0).2≠0->RT _ _ (bT a0).1) at tb
 change 0<=(bV a0).2/\(bV a0).2<=_/\((bV a0).2=0->(bV a0).1=[])/\((bV a0).2≠0->RV _ _ (bV a0).1) at wb
 have eN:(X0j (X0m a0).1).1=bN a0:=rfl
 have eA:(X0j (X0m a0).1).2=bA a0:=rfl
 rw[eN,eA]at vb
 simp only[eN,eA]
 have eT:X4G ((X0m a0).1.drop (bA a0).toNat) (bN a0)=bT a0:=rfl
 rw[eT,w64 (x:=bA a0+(bT a0).2) (by omega) (by omega)]
 have eV:X4P ((X0m a0).1.drop (bA a0+(bT a0).2).toNat) (bN a0)=bV a0:=rfl
 rw[eV]
 rw[w64 (x:=bA a0+(bT a0).2+(bV a0).2) (by omega) (by omega)]
 refine⟨λh1=>Xa6 λl hl=>?_,λh1=>⟨λh2=>Xa6 λl hl=>?_,λh2=>⟨by omega,by omega,by unfold pRd;rw[Yar];omega,λh3=>Xa6 λl hl=>?_,λh3=>⟨by omega,by omega,by unfold pRd;rw[Yar];omega,λh4=>Xa6 λl hl=>?_,λh4=>⟨λh5=>Xa6 λl hl=>?_,λh5=>?_⟩⟩⟩⟩⟩
 . have f:=hl.facts;have:=f.h3;have:=f.h3';omega
 . have:=hl.facts.h1;rw[this]at h2;exact h2 rfl
 . have f:=hl.facts;have h6:=f.h4;have:=f.h4';rw[h6]at h3;simp only at h3;omega
 . have f:=hl.facts;have h6:=f.h5;have:=f.h5';rw[h6]at h4;simp only at h4;omega
 . have f:=hl.facts
   rw[f.h1,f.h3,f.h4,f.h5]at h5
   simp only[Xd7,Yab]at h5
   omega
 . obtain⟨hR,z1,z2,z3⟩:=XtI h1 h2 h3 h4 h5
   have h60:=X9G hR.1.1
   refine⟨⟨by omega,by omega,rfl,by simp⟩,λy hI=>?_⟩
   obtain⟨i,out⟩:=y
   simp only at hI ⊢
   have g1:=hI.1
   have g2:=hI.2.1
   have g3:=hI.2.2.1
   refine⟨λhi=>?_,λhi=>?_⟩
   . rw[w64 (x:=i+1) (by omega) (by omega)]
     exact⟨by omega,by omega,by omega,by omega,by omega,by omega,XqH hI (by omega),by unfold rbM;omega⟩
   . rw[Xsw hI (by omega)];exact Xjz hR
def X19.e:GE:=mE X82 func58 [91,4] [X4r.e,X2x.e,X2m.e,X1R.e] [] (λi x=>X19.L x) (λi x=>X19.F x) λi x h _ _=>X19.p x h
def X7X:Con:=cW .str [.one] (.pair X7m .bool) [(false,1),(false,1)] [(0,107)] (λ_=>True) λa=>(X0r a)
def X1q.F(a0:U6q):Prop:=(True/\∀r1,(Eq r1 ((X0m a0),((),())))->(True/\∀r2,(Eq r2 ((X0j r1.1.1),((),())))->(X00 (r1.1.2.2 !=(0:Int)) (Eq ((([]:U9q),false),((),())) ((X0r a0),((),()))) (X00 (r2.1.2==(0:Int)) (Eq ((([]:U9q),false),((),())) ((X0r a0),((),()))) (0<=r2.1.2/\(r2.1.2<=(ln r1.1.1)/\(True/\∀r3,(Eq r3 ((X4G (List.drop (tN r2.1.2) r1.1.1) r2.1.1),((),())))->(0<=(wI (r2.1.2+r3.1.2))/\((wI (r2.1.2+r3.1.2))<=(ln r1.1.1)/\(True/\∀r4,(Eq r4 ((X4P (List.drop (tN (wI (r2.1.2+r3.1.2))) r1.1.1) r2.1.1),((),())))->(X00 ((ln r3.1.1)!=r2.1.1) (Eq ((([]:U9q),false),((),())) ((X0r a0),((),()))) (X00 ((ln r4.1.1)!=r2.1.1) (Eq ((([]:U9q),false),((),())) ((X0r a0),((),()))) (eS [(0,.val false [.str a0]),(11,.val false [.lst (.int .i64) r4.1.1 none]),(62,.val false [.lst (.int .i64) r3.1.1 none]),(63,.val false [.int .i64 (ln r3.1.1)])] [(0,.val false [.str a0]),(11,.val false [.lst (.int .i64) r4.1.1 none]),(62,.val false [.lst (.int .i64) r3.1.1 none]),(63,.val false [.int .i64 (ln r3.1.1)])]/\((rbI a0 0 ([]:List (Int×Int)))/\∀(y5:(Int×U9q)),(rbI a0 y5.1 y5.2)->(X00 (decide (y5.1<(ln r3.1.1))) (0<=y5.1/\(y5.1<(ln r3.1.1)/\(0<=y5.1/\(y5.1<(ln r4.1.1)/\(List.length y5.2+List.length [((List.getD r3.1.1 (tN y5.1) 0),(List.getD r4.1.1 (tN y5.1) 0))]<=9223372036854775807/\((List.length y5.2+List.length [((List.getD r3.1.1 (tN y5.1) 0),(List.getD r4.1.1 (tN y5.1) 0))])*16<=140737488355328/\(eS [(0,.val false [.str a0]),(11,.val false [.lst (.int .i64) r4.1.1 none]),(62,.val false [.lst (.int .i64) r3.1.1 none]),(63,.val false [.int .i64 (ln r3.1.1)])] [(0,.val false [.str a0]),(11,.val false [.lst (.int .i64) r4.1.1 none]),(62,.val false [.lst (.int .i64) r3.1.1 none]),(63,.val false [.int .i64 (ln r3.1.1)])]/\(rbI a0 (wI (y5.1+(1:Int))) (y5.2++[((List.getD r3.1.1 (tN y5.1) 0),(List.getD r4.1.1 (tN y5.1) 0))]))/\(rbM a0 (wI (y5.1+(1:Int))) (y5.2++[((List.getD r3.1.1 (tN y5.1) 0),(List.getD r4.1.1 (tN y5.1) 0))]))<(rbM a0 y5.1 y5.2)))))))) (True/\∀r6,(Eq r6 ((X04 y5.2),((),())))->(X00 (!(r6.1==a0)) (Eq ((([]:U9q),false),((),())) ((X0r a0),((),()))) (Eq ((y5.2,true),((),())) ((X0r a0),((),()))))))))))))))))))))
def X1q.L(a0:U6q):Nat->Option X0e:=XLK [(4090,⟨⟨[0,11,62,63],[13,64],[],[kC 13 0 1001667 107]⟩,Xof,λst y=>rbI a0 y.1 y.2,λst y=>rbM a0 y.1 y.2⟩)]
theorem X1q.p(a0:U6q)(h:True):X1q.F a0:=by
 delta X1q.F ln tN wI eS
 simp only[Bs,B0,B1,Yaa,X01]
 have u1:=Xhk a0
 have vb:=X4h (X0m a0).1
 have tb:=XkZ ((X0m a0).1.drop (bA a0).toNat) (bN a0)
 have wb:=XlJ ((X0m a0).1.drop (bA a0+(bT a0).2).toNat) (bN a0)
 rw[Yar]at tb wb
 change 0<=(bT a0).2/\(bT a0).2<=_/\((bT a0).2=0->(bT a0).1=[])/\((bT a0).2≠0->RT _ _ (bT a0).1) at tb
 change 0<=(bV a0).2/\(bV a0).2<=_/\((bV a0).2=0->(bV a0).1=[])/\((bV a0).2≠0->RV _ _ (bV a0).1) at wb
 have eN:(X0j (X0m a0).1).1=bN a0:=rfl
 have eA:(X0j (X0m a0).1).2=bA a0:=rfl
 rw[eN,eA]at vb
 simp only[eN,eA]
 have eT:X4G ((X0m a0).1.drop (bA a0).toNat) (bN a0)=bT a0:=rfl
 rw[eT,w64 (x:=bA a0+(bT a0).2) (by omega) (by omega)]
 have eV:X4P ((X0m a0).1.drop (bA a0+(bT a0).2).toNat) (bN a0)=bV a0:=rfl
 rw[eV]
 have tl:(bT a0).1.length<=60:=Xsc _ _
 have wl:(bV a0).1.length<=60:=Xs1 _ _
 refine⟨λh1=>Xa6 λl hl=>?_,λh1=>⟨λh2=>Xa6 λl hl=>?_,λh2=>⟨by omega,by omega,by omega,by omega,λh3=>Xa6 λl hl=>?_,λh3=>⟨λh4=>Xa6 λl hl=>?_,λh4=>?_⟩⟩⟩⟩
 . have:=hl.facts.h1;rw[this]at h1;exact h1 rfl
 . have f:=hl.facts;have:=f.h3;have:=f.h3';omega
 . have f:=hl.facts;rw[f.h4,f.h2]at h3;exact h3 (by simp)
 . have f:=hl.facts;rw[f.h5,f.h2]at h4;exact h4 (by simp)
 . have zl:(bC a0).length=(bT a0).1.length:=by unfold bC;rw[YcA];omega
   refine⟨⟨by omega,by omega,rfl,by simp⟩,λy hI=>?_⟩
   obtain⟨i,out⟩:=y
   simp only at hI ⊢
   have g1:=hI.1
   have g2:=hI.2.1
   have g3:=hI.2.2.1
   refine⟨λhi=>?_,λhi=>?_⟩
   . rw[w64 (x:=i+1) (by omega) (by omega)]
     exact⟨by omega,by omega,by omega,by omega,by omega,by omega,XqH hI (by omega),by unfold rbM;omega⟩
   . have e:=Xsw hI (by omega)
     have hs:a0≠[]:=λh=>by
      subst h
      have:X0m ([]:List UInt8)=([],0,1):=rfl
      rw[this]at h1;exact absurd h1 (by decide)
     refine⟨λh5=>Xa6 λl hl=>h5 ?_,λh5=>Xjz (RB_of h5 hs)⟩
     rw[e,hl.facts.h6];exact hl.show
def X1q.e:GE:=mE X7X func96 [91,4] [X2O.e,X1r.e,X4u.e,X2f.e,X1G.e] [] (λi x=>X1q.L x) (λi x=>X1q.F x) λi x h _ _=>X1q.p x h
def XaN(i:Rd)(n:Int):List UInt8×Rd:=if i.2=true/\n<=i.1.length then(i.1.take n.toNat,(i.1.drop n.toNat,true)) else([],(i.1,false))
def XmZ(i:Rd)(n:Int):Prop:=0<=n
def X5f(i:Rd):List UInt8×Rd:=XaN (X6v i).2 (X6v i).1
def Xnu(s:List UInt8):Prop:=s.length<=maxLen
def X6T:Con:={io:=true,I:=(.pair .str .bool),A:=(.int .i64),shA:=[.one],R:=.str,shR:=[(false,1)],pre:=λi a=>(XmZ i a),f:=some λi a=>((XaN i a).1,((XaN i a).2,()))}
def X3S.F(i0:(U6q×Bool))(a0:Int):Prop:=(X00 (!i0.2) (Eq ([],((i0.1,false),())) ((XaN i0 a0).1,((XaN i0 a0).2,()))) (X00 (decide (a0>(ln i0.1))) (Eq ([],((i0.1,false),())) ((XaN i0 a0).1,((XaN i0 a0).2,()))) (0<=a0/\(a0<=(ln i0.1)/\(0<=a0/\(a0<=(ln i0.1)/\(Eq ((List.take (tN a0) i0.1),(((List.drop (tN a0) i0.1),i0.2),())) ((XaN i0 a0).1,((XaN i0 a0).2,())))))))))
theorem X3S.p(i0:(U6q×Bool))(a0:Int)(h:(XmZ i0 a0))(hi:Wf X6T.I i0)(hw:Wf X6T.A a0):X3S.F i0 a0:=by
 delta X3S.F ln tN
 have h0:0<=a0:=h
 simp only[Bs,B0,B1,Yaa,X01,XmZ,YaA]
 repeat' (with_reducible (first | (refine And.intro ?_ ?_) | intro _))
 all_goals (try simp (disch:=omega) only[w64,wu8,tn0,tn1,tm1,tm2,Yab,Yad,Yai]at*)
 all_goals (try simp (disch:=omega) only[w64,wu8,tn0,tn1,tm1,tm2,Yab,Yad,Yai]at*)
 all_goals (try omega)
 all_goals (try grind[XaN])
def X3S.e:GE:=mE X6T func210 [9] [] [] noL (λi x=>X3S.F i x) λi x h hi hw=>X3S.p i x h (hi rfl) hw
def X6R:Con:={io:=true,I:=(.pair .str .bool),A:=.unit,shA:=[],R:=.str,shR:=[(false,1)],pre:=λi _=>True,f:=some λi a=>((X5f i).1,((X5f i).2,()))}
def X3O.F(i0:(U6q×Bool)):Prop:=(True/\∀r1,(Eq r1 ((X6v (i0.1,i0.2)).1,((X6v (i0.1,i0.2)).2,())))->((XmZ (r1.2.1.1,r1.2.1.2) r1.1)/\∀r2,(Eq r2 ((XaN (r1.2.1.1,r1.2.1.2) r1.1).1,((XaN (r1.2.1.1,r1.2.1.2) r1.1).2,())))->(Eq (r2.1,((r2.2.1.1,r2.2.1.2),())) ((X5f i0).1,((X5f i0).2,())))))
theorem X3O.p(i0:(U6q×Bool))(h:True):X3O.F i0:=by
 unfold X3O.F
 simp only[Bs,B0,B1,Yaa,X01,XmZ,YaA]
 exact⟨(XoE i0).1,rfl,rfl⟩
def X3O.e:GE:=mE X6R func201 [9] [X3W.e,X3S.e] [] noL (λi x=>X3O.F i) λi x h _ _=>X3O.p i h
theorem XsO(i:Rd)(n:Int):(XaN i n).1.length<=i.1.length/\(XaN i n).2.1.length<=i.1.length:=by
 unfold XaN;split
 . simp only[Yal,Yar];omega
 . simp
theorem XiI(i:Rd):(X6v i).2.1.length<=i.1.length:=by
 unfold X6v;split
 . simp only[Yar];omega
 . simp
theorem XqM(i:Rd):(X5f i).1.length<=i.1.length/\(X5f i).2.1.length<=i.1.length:=by
 have h1:=XsO (X6v i).2 (X6v i).1
 have h2:=XiI i
 unfold X5f;omega
theorem Xvx{i:Rd}(h:i.2=true)(h2:(X0j i.1).2≠0):X6v i=((X0j i.1).1,(i.1.drop (X0j i.1).2.toNat,true)):=by
 have:=X4h i.1
 unfold X6v;rw[Yah ⟨h,by omega⟩]
theorem XjT(s:List UInt8)(a b:Nat):(s.take (a+b)).drop a=(s.drop a).take b:=by
 rw[Yb2];congr 1;omega
end Go.Proofs.YtgmafgmjbaoomaaGreat.B
