/- Part 2 of the walk: contracts of functions, their formulas and proofs. -/
import Derived.WalkKit
import Derived.Lib.Walk
import Derived.Lib.Bytealg
import Derived.Laws.Externs
import Derived.Test.YthpdkligbfbjeaaGreatXA
set_option maxRecDepth 100000
set_option linter.unusedVariables false
set_option linter.unusedSimpArgs false
namespace Go.Proofs.YthpdkligbfbjeaaGreat.B
open Go Go.Proofs.YthpdkligbfbjeaaGreat.Bv Go.Proofs.Tryz
def pMg(a b:List Pt):Prop:=XfB a/\XfB b/\a.length<=1000000000/\b.length<=1000000000
structure mgI (a b:List Pt) (i:Int) (out:List Pt):Prop where
 h1:0<=i
 h2:i<=a.length
 h3:(a.drop i.toNat).foldl XmC out=a.foldl XmC b
 h4:XfB out
 h5:(out.length:Int)<=b.length+i
def mgM(a b:List Pt)(i:Int)(out:List Pt):Nat:=(a.length - i).toNat
theorem XtC{a b:List Pt}{i:Int}{out out':List Pt}(ha:XfB a)(h:mgI a b i out)(hi:i<a.length)(ho:out'=XmC out (a.getD i.toNat (0,0))):mgI a b (i+1) out':=by
 obtain⟨h1,h2,h3,h4,h5⟩:=h;have hm:=Xqs ha (i:=i.toNat) (by omega);have hl:=XjC out (a.getD i.toNat (0,0));refine⟨by omega,by omega,?_,⟨by rw[ho];exact XlD h4.1 _,λx hx=>?_⟩,by rw[ho];omega⟩
 . rw[tn1 h1,ho];rw[X3J (0,0) (by omega:i.toNat<a.length)]at h3;exact h3
 . rw[ho]at hx;rcases Xeh.1 hx with hx | ⟨rfl,_⟩
   . exact h4.2 x hx
   . exact hm
theorem XyD{a b:List Pt}{i:Int}{out:List Pt}(ha:XfB a)(hb:XfB b)(h:mgI a b i out)(hi:¬i<a.length):out=X4r a b:=by
 obtain⟨h1,h2,h3,h4,h5⟩:=h;have e:i.toNat=a.length:=by omega
 rw[e,YbO]at h3;rw[<-Xtq ha.1 hb.1,<-h3];rfl
def Xbm:Con:=cW (.pair X7N X7N) [.one,.one] X7N [(false,1)] [(0,112)] (λa=>(pMg a.1 a.2)) λa=>(X4r a.1 a.2)
def X4p.F(a0:U8q)(a1:U8q):Prop:=Xk1 a1/\∀r1,rU r1 (Xrm a1)->eQ [(12,vL T0q a0),(13,vI (ln a0))]/\mgI a0 a1 0 r1.1/\∀(y2:Int×U8q),mgI a0 a1 y2.1 y2.2->dC (y2.1<ln a0) (iB y2.1 a0 (pBs y2.2 (gA a0 y2.1 (0,0)).1 ()/\∀r3,rU r3 (fBs y2.2 (gA a0 y2.1 (0,0)).1 ())->X00 (!r3.1.2) (X4s y2.2 r3.1.1 [((gA a0 y2.1 (0,0)).1,(gA a0 y2.1 (0,0)).2)]/\∀r4,rU r4 (X2A y2.2 r3.1.1 [((gA a0 y2.1 (0,0)).1,(gA a0 y2.1 (0,0)).2)])->eQ [(12,vL T0q a0),(13,vI (ln a0))]/\mgI a0 a1 (wI (y2.1+1)) r4.1/\mgM a0 a1 (wI (y2.1+1)) r4.1<mgM a0 a1 y2.1 y2.2) (eQ [(12,vL T0q a0),(13,vI (ln a0))]/\mgI a0 a1 (wI (y2.1+1)) y2.2/\mgM a0 a1 (wI (y2.1+1)) y2.2<mgM a0 a1 y2.1 y2.2))) (rE y2.2 (X4r a0 a1))
def X4p.L(a0:U8q)(a1:U8q):Nat->Option X0f:=XLK [(58,⟨⟨[12,13],[5,14],[],[kC 5 0 1000643 112]⟩,Xoh,λst y=>mgI a0 a1 y.1 y.2,λst y=>mgM a0 a1 y.1 y.2⟩)]
theorem X4p.p(a0:U8q)(a1:U8q)(h:(pMg a0 a1)):X4p.F a0 a1:=by
 delta X4p.F ln wI dC eQ gA iB rE rU vI vL tN;simp only[Bs,B0,B1,Yaa,X01,Xrm,Xk1,pBs];obtain⟨ha,hb,hal,hbl⟩:=h;refine⟨by omega,⟨by omega,by omega,rfl,hb,by omega⟩,?_⟩;rintro⟨i,out⟩ hI;simp only at hI ⊢;have q1:=hI.h1;have q2:=hI.h2;have q5:=hI.h5;refine⟨λhi=>?_,λhi=>XyD ha hb hI hi⟩;have hm:=Xqs ha (i:=i.toNat) (by omega);have hp:=Xne (lt:=ltI) (key:=Prod.fst) (a0.getD i.toNat (0,0)).1 out;have dn:∀o,mgM a0 a1 (i+1) o<mgM a0 a1 i out:=λo=>by unfold mgM;omega
 rw[w64 (x:=i+1) (by omega) (by omega)];refine⟨q1,hi,⟨hI.h4,hm.1,hm.2,by omega⟩,λh6=>⟨⟨by simp only[fBs];omega,by simp only[fBs];omega,by simp,by simp;omega⟩,XtC ha hI hi ?_,dn _⟩,λh6=>⟨XtC ha hI hi ?_,dn _⟩⟩
 . have h7:Xqe out (a0.getD i.toNat (0,0)).1=false:=h6;unfold XmC;rw[Yae (by rw[h7];decide)];simp only[fBs,X2A,YaG,Yay];rfl
 . have h7:Xqe out (a0.getD i.toNat (0,0)).1=true:=h6;unfold XmC;rw[Yah h7]
def X4p.e:GE:=mE Xbm func192 [113] [X0g.e,X07.e,X3c.e,X3m.e] [] (λi x=>X4p.L x.1 x.2) (λi x=>X4p.F x.1 x.2) λi x h _ _=>X4p.p x.1 x.2 h
def XlS(l:List Pt)(p:Pt):List Pt:=XlQ p l
def Xv8(l:List Pt)(p:Pt):Prop:=l.length<=1000000000000
def Xet(p:Pt)(put:Bool)(l:List Pt):List Pt:=if put then l.filter (λy=>!(y.1==p.1)) else XlQ p l
structure puI (l:List Pt) (p:Pt) (put:Bool) (i:Int) (out:List Pt):Prop where
 h1:0<=i
 h2:i<=l.length
 h3:out++Xet p put (l.drop i.toNat)=XlQ p l
 h4:(out.length:Int)<=i+1
 h5:put=false->(out.length:Int)<=i
def puM(l:List Pt)(p:Pt)(put:Bool)(i:Int)(out:List Pt):Nat:=(l.length - i).toNat
def puB(l:List Pt)(p:Pt)(put:Bool)(i t v:Int)(out:List Pt):Prop:=((t,v):Pt)=p/\puI l p put i out
def puN(l:List Pt)(p:Pt)(put:Bool)(i t v:Int)(out:List Pt):Nat:=puM l p put i out
theorem Xwr{l:List Pt}{p:Pt}{put put':Bool}{i:Int}{out o':List Pt}(h:puI l p put i out)(hi:i<l.length)(hl:(o'.length:Int)<=i+2/\(put'=false->(o'.length:Int)<=i+1))(he:∀r,o'++Xet p put' r=out++Xet p put (l.getD i.toNat (0,0)::r)):puI l p put' (i+1) o':=by
 obtain⟨h1,h2,h3,h4,h5⟩:=h;refine⟨by omega,by omega,?_,by omega,hl.2⟩;rw[tn1 h1,he,<-X3J (0,0) (by omega)];exact h3
theorem pu_no{p x:Pt}{r:List Pt}(h:¬p.1<=x.1):Xet p false (x::r)=x::Xet p false r:=by simp[Xet,XlQ,h]
theorem XvB{p x:Pt}{r:List Pt}(h:p.1<=x.1):Xet p false (x::r)=p::Xet p true (x::r):=by simp[Xet,XlQ,h]
theorem XyJ{p x:Pt}{r:List Pt}(h:x.1=p.1):Xet p true (x::r)=Xet p true r:=by simp[Xet,h]
theorem XxG{p x:Pt}{r:List Pt}(h:¬x.1=p.1):Xet p true (x::r)=x::Xet p true r:=by simp[Xet,h]
theorem XyV{l:List Pt}{p:Pt}{put:Bool}{i:Int}{out:List Pt}(h:puI l p put i out)(hi:¬i<l.length):(put=true->out=XlS l p)/\(put=false->out++[p]=XlS l p):=by
 obtain⟨h1,h2,h3,h4,h5⟩:=h;have e:i.toNat=l.length:=by omega
 rw[e,YbO]at h3;refine⟨λhp=>?_,λhp=>?_⟩
 . rw[hp]at h3;simpa [Xet,XlS] using h3
 . rw[hp]at h3;simpa [Xet,XlQ,XlS] using h3
def XlO(a b:List Pt):List Pt:=X4r a b
def Xn1(a b:List Pt):Prop:=a.length<=400000000000/\b.length<=400000000000
structure m8I (a b:List Pt) (i:Int) (out:List Pt):Prop where
 h1:0<=i
 h2:i<=b.length
 h3:X4r out (b.drop i.toNat)=X4r a b
 h4:(out.length:Int)<=a.length+i
def m8M(a b:List Pt)(i:Int)(out:List Pt):Nat:=(b.length - i).toNat
theorem Xx1{a b:List Pt}{i:Int}{out:List Pt}(h:m8I a b i out)(hi:i<b.length):m8I a b (i+1) (XlQ (b.getD i.toNat (0,0)) out):=by
 obtain⟨h1,h2,h3,h4⟩:=h;have:=Xg6 (b.getD i.toNat (0,0)) out;refine⟨by omega,by omega,?_,by omega⟩;rw[tn1 h1];rw[X3J (0,0) (by omega:i.toNat<b.length)]at h3;exact h3
theorem XyY{a b:List Pt}{i:Int}{out:List Pt}(h:m8I a b i out)(hi:¬i<b.length):out=XlO a b:=by
 obtain⟨h1,h2,h3,h4⟩:=h;have e:i.toNat=b.length:=by omega
 rw[e,YbO]at h3;exact h3
def XcD:Con:=cW (.pair X7N T0q) [.one,.agg 2] X7N [(false,1)] [(0,112)] (λa=>(Xv8 a.1 a.2)) λa=>(XlS a.1 a.2)
def X5b.F(a0:U8q)(a1:(Int×Int)):Prop:=eQ [(0,vL T0q a0),(3,.box 4 0)]/\puB a0 a1 false 0 a1.1 a1.2 ([]:List (Int×Int))/\∀(y1:Bool×Int×Int×Int×U8q),puB a0 a1 y1.1 y1.2.1 y1.2.2.1 y1.2.2.2.1 y1.2.2.2.2->dC (y1.2.1<ln a0) (X00 (!y1.1) (iB y1.2.1 a0 (dC (y1.2.2.1<=(gA a0 y1.2.1 (0,0)).1) (lE y1.2.2.2.2 [(y1.2.2.1,y1.2.2.2.1)]/\(List.length y1.2.2.2.2+List.length [(y1.2.2.1,y1.2.2.2.1)])*16<=140737488355328/\iB y1.2.1 a0 (X00 ((gA a0 y1.2.1 (0,0)).1 !=y1.2.2.1) (iB y1.2.1 a0 (lE (y1.2.2.2.2++[(y1.2.2.1,y1.2.2.2.1)]) [((gA a0 y1.2.1 (0,0)).1,(gA a0 y1.2.1 (0,0)).2)]/\(List.length (y1.2.2.2.2++[(y1.2.2.1,y1.2.2.2.1)])+List.length [((gA a0 y1.2.1 (0,0)).1,(gA a0 y1.2.1 (0,0)).2)])*16<=140737488355328/\eQ [(0,vL T0q a0),(3,.box 4 0)]/\puB a0 a1 true (wI (y1.2.1+1)) y1.2.2.1 y1.2.2.2.1 (y1.2.2.2.2++[(y1.2.2.1,y1.2.2.2.1)]++[((gA a0 y1.2.1 (0,0)).1,(gA a0 y1.2.1 (0,0)).2)])/\puN a0 a1 true (wI (y1.2.1+1)) y1.2.2.1 y1.2.2.2.1 (y1.2.2.2.2++[(y1.2.2.1,y1.2.2.2.1)]++[((gA a0 y1.2.1 (0,0)).1,(gA a0 y1.2.1 (0,0)).2)])<puN a0 a1 y1.1 y1.2.1 y1.2.2.1 y1.2.2.2.1 y1.2.2.2.2)) (eQ [(0,vL T0q a0),(3,.box 4 0)]/\puB a0 a1 true (wI (y1.2.1+1)) y1.2.2.1 y1.2.2.2.1 (y1.2.2.2.2++[(y1.2.2.1,y1.2.2.2.1)])/\puN a0 a1 true (wI (y1.2.1+1)) y1.2.2.1 y1.2.2.2.1 (y1.2.2.2.2++[(y1.2.2.1,y1.2.2.2.1)])<puN a0 a1 y1.1 y1.2.1 y1.2.2.1 y1.2.2.2.1 y1.2.2.2.2))) (iB y1.2.1 a0 (X00 ((gA a0 y1.2.1 (0,0)).1 !=y1.2.2.1) (iB y1.2.1 a0 (lE y1.2.2.2.2 [((gA a0 y1.2.1 (0,0)).1,(gA a0 y1.2.1 (0,0)).2)]/\(List.length y1.2.2.2.2+List.length [((gA a0 y1.2.1 (0,0)).1,(gA a0 y1.2.1 (0,0)).2)])*16<=140737488355328/\eQ [(0,vL T0q a0),(3,.box 4 0)]/\puB a0 a1 y1.1 (wI (y1.2.1+1)) y1.2.2.1 y1.2.2.2.1 (y1.2.2.2.2++[((gA a0 y1.2.1 (0,0)).1,(gA a0 y1.2.1 (0,0)).2)])/\puN a0 a1 y1.1 (wI (y1.2.1+1)) y1.2.2.1 y1.2.2.2.1 (y1.2.2.2.2++[((gA a0 y1.2.1 (0,0)).1,(gA a0 y1.2.1 (0,0)).2)])<puN a0 a1 y1.1 y1.2.1 y1.2.2.1 y1.2.2.2.1 y1.2.2.2.2)) (eQ [(0,vL T0q a0),(3,.box 4 0)]/\puB a0 a1 y1.1 (wI (y1.2.1+1)) y1.2.2.1 y1.2.2.2.1 y1.2.2.2.2/\puN a0 a1 y1.1 (wI (y1.2.1+1)) y1.2.2.1 y1.2.2.2.1 y1.2.2.2.2<puN a0 a1 y1.1 y1.2.1 y1.2.2.1 y1.2.2.2.1 y1.2.2.2.2))))) (iB y1.2.1 a0 (X00 ((gA a0 y1.2.1 (0,0)).1 !=y1.2.2.1) (iB y1.2.1 a0 (lE y1.2.2.2.2 [((gA a0 y1.2.1 (0,0)).1,(gA a0 y1.2.1 (0,0)).2)]/\(List.length y1.2.2.2.2+List.length [((gA a0 y1.2.1 (0,0)).1,(gA a0 y1.2.1 (0,0)).2)])*16<=140737488355328/\eQ [(0,vL T0q a0),(3,.box 4 0)]/\puB a0 a1 y1.1 (wI (y1.2.1+1)) y1.2.2.1 y1.2.2.2.1 (y1.2.2.2.2++[((gA a0 y1.2.1 (0,0)).1,(gA a0 y1.2.1 (0,0)).2)])/\puN a0 a1 y1.1 (wI (y1.2.1+1)) y1.2.2.1 y1.2.2.2.1 (y1.2.2.2.2++[((gA a0 y1.2.1 (0,0)).1,(gA a0 y1.2.1 (0,0)).2)])<puN a0 a1 y1.1 y1.2.1 y1.2.2.1 y1.2.2.2.1 y1.2.2.2.2)) (eQ [(0,vL T0q a0),(3,.box 4 0)]/\puB a0 a1 y1.1 (wI (y1.2.1+1)) y1.2.2.1 y1.2.2.2.1 y1.2.2.2.2/\puN a0 a1 y1.1 (wI (y1.2.1+1)) y1.2.2.1 y1.2.2.2.1 y1.2.2.2.2<puN a0 a1 y1.1 y1.2.1 y1.2.2.1 y1.2.2.2.1 y1.2.2.2.2)))) (X00 (!y1.1) (lE y1.2.2.2.2 [(y1.2.2.1,y1.2.2.2.1)]/\(List.length y1.2.2.2.2+List.length [(y1.2.2.1,y1.2.2.2.1)])*16<=140737488355328/\rE (y1.2.2.2.2++[(y1.2.2.1,y1.2.2.2.1)]) (XlS a0 a1)) (rE y1.2.2.2.2 (XlS a0 a1)))
def X5b.L(a0:U8q)(a1:(Int×Int)):Nat->Option X0f:=XLK [(122,⟨⟨[0,3],[5,6,7],[4],[kC 5 0 1000643 112]⟩,(.pair .bool (.pair (.int .i64) (.pair (.int .i64) Xoh))),λst y=>puB a0 a1 y.1 y.2.1 y.2.2.1 y.2.2.2.1 y.2.2.2.2,λst y=>puN a0 a1 y.1 y.2.1 y.2.2.1 y.2.2.2.1 y.2.2.2.2⟩)]
theorem X5b.p(a0:U8q)(a1:(Int×Int))(h:(Xv8 a0 a1)):X5b.F a0 a1:=by
 delta X5b.F ln wI dC eQ gA iB lE rE vL tN;simp only[Bs,B0,B1,Yaa,X01];have hl:a0.length<=1000000000000:=h;refine⟨⟨rfl,⟨by omega,by omega,by simp[Xet],by simp,by simp⟩⟩,?_⟩;rintro⟨put,i,t,v,out⟩ ⟨hp,hI⟩;simp only at hp hI ⊢;subst hp;have q1:=hI.h1;have q2:=hI.h2;have q4:=hI.h4;have q5:=hI.h5;have hen:=XyV hI;have st:∀{put' o'},i<(a0.length:Int)->_->_->puB a0 (t,v) put' (i+1) t v o':=λh h2 h3=>⟨rfl,Xwr hI h h2 h3⟩
 have dn:∀o p,i<(a0.length:Int)->puN a0 (t,v) p (i+1) t v o<puN a0 (t,v) put i t v out:=λo p h=>by unfold puN puM;omega
 generalize hx:a0.getD i.toNat (0,0)=x at st ⊢
 repeat' (with_reducible (first | (refine And.intro ?_ ?_) | intro _))
 all_goals (try simp (disch:=omega) only[w64,Yab,Yad,Yai]at*)
 all_goals (first
  | omega
  | exact dn _ _ ‹_›
  | (refine st ‹_› (by(try simp only[Yab,Yad,Yai]);(try have:=q5 ‹_›);(first | omega | (refine ⟨by omega,λhh=>?_⟩;first | omega | (have:=q5 hh;omega) | (exfalso;simp_all;done)))) λr=>?_;(try rw[‹put=true›]);(try rw[‹put=false›]);(try simp only[Yam,Ybc,YaV,Yay]);first | rw[XvB (p:=(t,v)) ‹t<=x.1›,XyJ (p:=(t,v)) ‹x.1=t›] | rw[XvB (p:=(t,v)) ‹t<=x.1›,XxG (p:=(t,v)) ‹¬x.1=t›] | rw[pu_no (p:=(t,v)) ‹¬t<=x.1›] | rw[XyJ (p:=(t,v)) ‹x.1=t›] | rw[XxG (p:=(t,v)) ‹¬x.1=t›])
  | exact(hen ‹_›).1 ‹_›
  | exact(hen ‹_›).2 ‹_›
  | skip)
def X5b.e:GE:=mE XcD func158 [113] [] [] (λi x=>X5b.L x.1 x.2) (λi x=>X5b.F x.1 x.2) λi x h _ _=>X5b.p x.1 x.2 h
def XaL:Con:=cW (.pair X7N X7N) [.one,.one] X7N [(false,1)] [(0,112)] (λa=>(Xn1 a.1 a.2)) λa=>(XlO a.1 a.2)
def X2X.F(a0:U8q)(a1:U8q):Prop:=lE ([]:List (Int×Int)) a0/\(List.length ([]:List (Int×Int))+List.length a0)*16<=140737488355328/\eQ [(1,vL T0q a1)]/\m8I a0 a1 0 (([]:List (Int×Int))++a0)/\∀(y1:Int×U8q),m8I a0 a1 y1.1 y1.2->dC (y1.1<ln a1) (iB y1.1 a1 (Xv8 y1.2 ((gA a1 y1.1 (0,0)).1,(gA a1 y1.1 (0,0)).2)/\∀r2,rU r2 (XlS y1.2 ((gA a1 y1.1 (0,0)).1,(gA a1 y1.1 (0,0)).2))->eQ [(1,vL T0q a1)]/\m8I a0 a1 (wI (y1.1+1)) r2.1/\m8M a0 a1 (wI (y1.1+1)) r2.1<m8M a0 a1 y1.1 y1.2)) (rE y1.2 (XlO a0 a1))
def X2X.L(a0:U8q)(a1:U8q):Nat->Option X0f:=XLK [(58,⟨⟨[1],[5,6],[],[kC 5 0 1000643 112]⟩,Xoh,λst y=>m8I a0 a1 y.1 y.2,λst y=>m8M a0 a1 y.1 y.2⟩)]
theorem X2X.p(a0:U8q)(a1:U8q)(h:(Xn1 a0 a1)):X2X.F a0 a1:=by
 delta X2X.F ln wI dC eQ gA iB lE rE rU vL tN;simp only[Bs,B0,B1,Yaa,X01,XlS,Xv8];obtain⟨hal,hbl⟩:=h;refine⟨by omega,by omega,⟨by omega,by omega,rfl,by simp⟩,?_⟩;rintro⟨i,out⟩ hI;simp only at hI ⊢;have q1:=hI.h1;have q2:=hI.h2;have q4:=hI.h4;rw[w64 (x:=i+1) (by omega) (by omega)];exact⟨λhi=>⟨q1,hi,by omega,Xx1 hI hi,by unfold m8M;omega⟩,λhi=>XyY hI hi⟩
def X2X.e:GE:=mE XaL func124 [113] [X5b.e] [] (λi x=>X2X.L x.1 x.2) (λi x=>X2X.F x.1 x.2) λi x h _ _=>X2X.p x.1 x.2 h
def Xve(p:Pt)(lo hi:Int):Bool:=decide (p.1<lo)||decide (p.1>=hi)
def XpC(c:Int×Int)(p:Pt):Bool:=Xve p c.1 c.2
def XnF(l:List Pt)(c:Int×Int):Prop:=l.length<=1099511627776
def XeT(l:List Pt)(c:Int×Int):Int:=if l.findIdx (XpC c)<l.length then((l.findIdx (XpC c):Nat):Int) else -1
def Xxu(l:List Pt)(c:Int×Int)(i:Int):Prop:=0<=i/\i<=l.length/\∀j,j<i.toNat->XpC c (l.getD j (0,0))=false
def ixdM(l:List Pt)(c:Int×Int)(i:Int):Nat:=(l.length - i).toNat
theorem Xxf{l:List Pt}{c:Int×Int}{i:Int}(h:Xxu l c i)(hi:i<l.length)(hd:XpC c (l.getD i.toNat (0,0))=true):i=XeT l c:=by
 obtain⟨h1,h2,h3⟩:=h;have e:l.findIdx (XpC c)=i.toNat:=by
  refine(YcF (by omega)).2 ⟨by rw[X0O (by omega)]at hd;exact hd,λj hj=>?_⟩;have:=h3 j hj;rw[X0O (by omega)]at this;exact this
 unfold XeT;rw[e,Yah (by omega)];omega
theorem XxH{l:List Pt}{c:Int×Int}{i:Int}(h:Xxu l c i)(hi:¬i<l.length):-1=XeT l c:=by
 obtain⟨h1,h2,h3⟩:=h;have e:¬l.findIdx (XpC c)<l.length:=λhlt=>by
  have a:=Yby (w:=hlt);have b:=h3 (l.findIdx (XpC c)) (by omega);rw[X0O hlt,a]at b;cases b
 unfold XeT;rw[Yae e]
def XmP(l:List Pt)(c:Int×Int):List Pt:=l.filter λp=>!XpC c p
structure dlI (l:List Pt) (c:Int×Int) (i j:Int) (s:List Pt):Prop where
 h1:0<=i
 h2:i<j
 h3:j<=l.length
 h4:s.length=l.length
 h5:s.take i.toNat=(l.take j.toNat).filter λp=>!XpC c p
 h6:s.drop j.toNat=l.drop j.toNat
def dlM(l:List Pt)(c:Int×Int)(i j:Int)(s:List Pt):Nat:=(l.length - j).toNat
theorem Xwb{l:List Pt}{c:Int×Int}(h:¬XeT l c= -1):0<=XeT l c/\XeT l c<l.length/\dlI l c (XeT l c) (XeT l c+1) l:=by
 unfold XeT at h ⊢;split at h
 . rename_i hlt;rw[Yah hlt];refine⟨by omega,by omega,⟨by omega,by omega,by omega,rfl,?_,rfl⟩⟩;rw[tn1 (by omega),YaG,X0M (0,0) hlt,Ya2];have a:=Yby (w:=hlt);have hk:(l.take (l.findIdx (XpC c))).filter (λp=>!XpC c p)=l.take (l.findIdx (XpC c)):=Yb0.2 λx hx=>by
    obtain⟨k,hk,e⟩:=YaM hx;rw[Yal]at hk;have:=YcW (xs:=l) (p:=XpC c) (i:=k) (by omega);rw[YcS]at e;rw[<-e];simpa using this
   rw[hk,X0O hlt];simp[a]
 . exact absurd rfl h
theorem Xyv{l:List Pt}{c:Int×Int}(h:XeT l c= -1):l=XmP l c:=by
 unfold XeT at h;split at h
 . omega
 . rename_i hn;refine(Yb0.2 λx hx=>?_).symm;have:=YcU.1 (Ydv (YcV (p:=XpC c)) (by omega)) x hx;simp[this]
theorem XyX{l:List Pt}{c:Int×Int}{i j:Int}{s:List Pt}(h:dlI l c i j s)(hj:j<l.length):s.getD j.toNat (0,0)=l.getD j.toNat (0,0):=by
 obtain⟨h1,h2,h3,h4,h5,h6⟩:=h;have a:=X3J (0,0) (l:=s) (i:=j.toNat) (by omega);have b:=X3J (0,0) (l:=l) (i:=j.toNat) (by omega);rw[a,b]at h6;exact(List.cons.inj h6).1
theorem XwX{l:List Pt}{c:Int×Int}{i j:Int}{s:List Pt}(h:dlI l c i j s)(hj:j<l.length)(hd:XpC c (l.getD j.toNat (0,0))=false):dlI l c (i+1) (j+1) (s.set i.toNat (l.getD j.toNat (0,0))):=by
 obtain⟨h1,h2,h3,h4,h5,h6⟩:=h;refine⟨by omega,by omega,by omega,by rw[YaX,h4],?_,?_⟩
 . rw[tn1 h1,tn1 (by omega:0<=j),X0M (0,0) (by omega:j.toNat<l.length),Ya2,<-h5];have:(s.set i.toNat (l.getD j.toNat (0,0))).take (i.toNat+1)=s.take i.toNat++[l.getD j.toNat (0,0)]:=by
    rw[X0M (0,0) (by rw[YaX];omega),Yco (YaC _)]
    congr 2
    rw[Yar,Yb2 (by omega)];rfl
   rw[this];generalize l.getD j.toNat (0,0)=x at hd ⊢;simp[hd]
 . rw[tn1 (by omega:0<=j),Ycn (by omega),<-YaH,h6,YaH]
theorem Xwe{l:List Pt}{c:Int×Int}{i j:Int}{s:List Pt}(h:dlI l c i j s)(hj:j<l.length)(hd:XpC c (l.getD j.toNat (0,0))=true):dlI l c i (j+1) s:=by
 obtain⟨h1,h2,h3,h4,h5,h6⟩:=h;refine⟨by omega,by omega,by omega,h4,?_,?_⟩
 . rw[tn1 (by omega:0<=j),X0M (0,0) (by omega:j.toNat<l.length),Ya2,<-h5];generalize l.getD j.toNat (0,0)=x at hd ⊢;simp[hd]
 . rw[tn1 (by omega:0<=j),<-YaH,h6,YaH]
theorem Xy5{l:List Pt}{c:Int×Int}{i j:Int}{s r:List Pt}(h:dlI l c i j s)(hj:¬j<l.length):List.take i.toNat (List.take i.toNat s++r)=XmP l c:=by
 obtain⟨h1,h2,h3,h4,h5,h6⟩:=h;have e:j.toNat=l.length:=by omega
 rw[e,Yat]at h5;rw[YaZ (by rw[Yal];omega),YbL,Nat.min_self,h5];rfl
def X8L(l:List Pt)(lo hi:Int):Prop:=l.length<=1099511627776
theorem XqU(l:List Pt)(lo hi:Int):XmP l (lo,hi)=X25 l lo hi:=by
 unfold XmP X25
 congr 1
 funext p
 simp only[XpC,Xve];rw[Ybq];simp
structure s8I (l:List Pt) (lo hi:Int) (i:Int) (out:List Pt):Prop where
 h1:0<=i
 h2:i<=l.length
 h3:out=X25 (l.take i.toNat) lo hi
 h4:(out.length:Int)<=i
def s8M(l:List Pt)(lo hi:Int)(i:Int)(out:List Pt):Nat:=(l.length - i).toNat
theorem XxD{l:List Pt}{lo hi i:Int}{out:List Pt}(h:s8I l lo hi i out)(hi':i<l.length)(h1:lo<=(l.getD i.toNat (0,0)).1)(h2:(l.getD i.toNat (0,0)).1<hi):s8I l lo hi (i+1) (out++[l.getD i.toNat (0,0)]):=by
 obtain⟨q1,q2,q3,q4⟩:=h;refine⟨by omega,by omega,?_,by simp;omega⟩;rw[tn1 q1,X0M (0,0) (by omega),q3];unfold X25;rw[Ya2];generalize l.getD i.toNat (0,0)=x at*;simp[h1,h2]
theorem XxR{l:List Pt}{lo hi i:Int}{out:List Pt}(h:s8I l lo hi i out)(hi':i<l.length)(h1:¬(lo<=(l.getD i.toNat (0,0)).1/\(l.getD i.toNat (0,0)).1<hi)):s8I l lo hi (i+1) out:=by
 obtain⟨q1,q2,q3,q4⟩:=h;refine⟨by omega,by omega,?_,by omega⟩;rw[tn1 q1,X0M (0,0) (by omega),q3];unfold X25;rw[Ya2];generalize l.getD i.toNat (0,0)=x at*;have:(decide (lo<=x.1)&&decide (x.1<hi))=false:=by
  rw[Ybn];simpa using h1
 simp[this]
theorem XyF{l:List Pt}{lo hi i:Int}{out:List Pt}(h:s8I l lo hi i out)(hi':¬i<l.length):out=X25 l lo hi:=by
 obtain⟨q1,q2,q3,q4⟩:=h;rw[q3,show i.toNat=l.length by omega,Yat]
def X9p:Con:=cQ (.pair T0q T0q) [.agg 2,.ptr 1,.ptr 1] .bool [(false,1)] (λ_=>True) λa=>(Xve a.1 a.2.1 a.2.2)
def X2L.F(a0:(Int×Int))(a1:Int)(a2:Int):Prop:=X00 (decide (a0.1<a1)) (Eq (true,(),()) (Xve a0 a1 a2,(),())) (Eq (decide (a0.1>=a2),(),()) (Xve a0 a1 a2,(),()))
theorem X2L.p(a0:(Int×Int))(a1:Int)(a2:Int)(h:True)(hw:Wf X9p.A (a0,a1,a2)):X2L.F a0 a1 a2:=by
 unfold X2L.F;simp only[Bs,B0,B1,Yaa,X01]
 repeat' (with_reducible (first | (refine And.intro ?_ ?_) | intro _))
 all_goals (try simp (disch:=omega) only[w64,wu8,tn0,tn1,tm1,tm2,Yab,Yad,Yai]at*)
 all_goals (try simp (disch:=omega) only[w64,wu8,tn0,tn1,tm1,tm2,Yab,Yad,Yai]at*)
 all_goals (try omega)
 all_goals (try grind[Xve])
def X2L.e:GE:=mE X9p func210 [4] [] [] noL (λi x=>X2L.F x.1 x.2.1 x.2.2) λi x h _ hw=>X2L.p x.1 x.2.1 x.2.2 h hw
def X1i:Con:=cQ (.pair X7N T0q) [.one,.clo 210 [1,1]] (.int .i64) [(false,1)] (λa=>(XnF a.1 a.2)) λa=>(XeT a.1 a.2)
def X0d.F(a0:U8q)(a1:(Int×Int)):Prop:=eQ [(0,vL T0q a0),(1,.fn 210 [] [.ptr [.int .i64 a1.1],.ptr [.int .i64 a1.2]]),(7,vI (ln a0))]/\Xxu a0 a1 0/\∀(y1:Int),Xxu a0 a1 y1->dC (y1<ln a0) (iB y1 a0 (True/\∀r2,rU r2 (Xve ((gA a0 y1 (0,0)).1,(gA a0 y1 (0,0)).2) a1.1 a1.2)->X00 r2.1 (rE y1 (XeT a0 a1)) (eQ [(0,vL T0q a0),(1,.fn 210 [] [.ptr [.int .i64 a1.1],.ptr [.int .i64 a1.2]]),(7,vI (ln a0))]/\Xxu a0 a1 (wI (y1+1))/\ixdM a0 a1 (wI (y1+1))<ixdM a0 a1 y1))) (rE (-1) (XeT a0 a1))
def X0d.L(a0:U8q)(a1:(Int×Int)):Nat->Option X0f:=XLK [(26,⟨⟨[0,1,7],[8],[],[]⟩,(.int .i64),λst y=>Xxu a0 a1 y,λst y=>ixdM a0 a1 y⟩)]
theorem X0d.p(a0:U8q)(a1:(Int×Int))(h:(XnF a0 a1)):X0d.F a0 a1:=by
 delta X0d.F ln wI dC eQ gA iB rE rU vI vL tN;simp only[Bs,B0,B1,Yaa,X01,Yay];have hl:a0.length<=1099511627776:=h;refine⟨⟨by omega,by omega,λj hj=>absurd hj (by simp)⟩,?_⟩;rintro i hI;have q1:=hI.1;have q2:=hI.2.1;rw[w64 (x:=i+1) (by omega) (by omega)];refine⟨λhi=>⟨q1,hi,λhd=>Xxf hI hi hd,λhd=>⟨⟨by omega,by omega,λj hj=>?_⟩,by unfold ixdM;omega⟩⟩,λhi=>XxH hI hi⟩;by_cases e:j=i.toNat
 . rw[e];exact hd
 . exact hI.2.2 j (by omega)
def X0d.e:GE:=mE X1i func223 [3] [X2L.e] [] (λi x=>X0d.L x.1 x.2) (λi x=>X0d.F x.1 x.2) λi x h _ _=>X0d.p x.1 x.2 h
def X1b:Con:={A:=(.pair X7N T0q),shA:=[.one,.clo 210 [1,1]],ownA:=[(0,112)],R:=X7N,shR:=[(false,1)],fresh:=[(0,112)],pre:=λ_ a=>(XnF a.1 a.2),f:=some λ_ a=>((XmP a.1 a.2),((),()))}
def X0c.F(a0:U8q)(a1:(Int×Int)):Prop:=XnF a0 a1/\∀r1,rU r1 (XeT a0 a1)->X00 (r1.1==(-1:Int)) (rE a0 (XmP a0 a1)) (eQ [(0,.val false [.own T0q 1000003]),(1,.fn 210 [] [.ptr [.int .i64 a1.1],.ptr [.int .i64 a1.2]])]/\dlI a0 a1 r1.1 (wI (r1.1+1)) a0/\∀(y2:Int×Int×U8q),dlI a0 a1 y2.1 y2.2.1 y2.2.2->dC (y2.2.1<ln y2.2.2) (iB y2.2.1 y2.2.2 (True/\∀r3,rU r3 (Xve ((gA y2.2.2 y2.2.1 (0,0)).1,(gA y2.2.2 y2.2.1 (0,0)).2) a1.1 a1.2)->X00 (!r3.1) (iB y2.1 y2.2.2 (eQ [(0,.val false [.own T0q 1000003]),(1,.fn 210 [] [.ptr [.int .i64 a1.1],.ptr [.int .i64 a1.2]])]/\dlI a0 a1 (wI (y2.1+1)) (wI (y2.2.1+1)) (List.set y2.2.2 (tN y2.1) ((gA y2.2.2 y2.2.1 (0,0)).1,(gA y2.2.2 y2.2.1 (0,0)).2))/\dlM a0 a1 (wI (y2.1+1)) (wI (y2.2.1+1)) (List.set y2.2.2 (tN y2.1) ((gA y2.2.2 y2.2.1 (0,0)).1,(gA y2.2.2 y2.2.1 (0,0)).2))<dlM a0 a1 y2.1 y2.2.1 y2.2.2)) (eQ [(0,.val false [.own T0q 1000003]),(1,.fn 210 [] [.ptr [.int .i64 a1.1],.ptr [.int .i64 a1.2]])]/\dlI a0 a1 y2.1 (wI (y2.2.1+1)) y2.2.2/\dlM a0 a1 y2.1 (wI (y2.2.1+1)) y2.2.2<dlM a0 a1 y2.1 y2.2.1 y2.2.2))) (0<=y2.1/\y2.1<=ln y2.2.2/\tN y2.1<=List.length y2.2.2/\List.length y2.2.2<=List.length y2.2.2/\0<=y2.1/\y2.1<=ln (List.take (tN y2.1) y2.2.2++(List.replicate (List.length y2.2.2 - tN y2.1) ((0:Int),(0:Int))++List.drop (List.length y2.2.2) y2.2.2))/\rE (List.take (tN y2.1) (List.take (tN y2.1) y2.2.2++(List.replicate (List.length y2.2.2 - tN y2.1) ((0:Int),(0:Int))++List.drop (List.length y2.2.2) y2.2.2))) (XmP a0 a1)))
def X0c.L(a0:U8q)(a1:(Int×Int)):Nat->Option X0f:=XLK [(122,⟨⟨[0,1],[5,6],[],[kC 0 0 1000003 112]⟩,(.pair (.int .i64) Xoh),λst y=>dlI a0 a1 y.1 y.2.1 y.2.2,λst y=>dlM a0 a1 y.1 y.2.1 y.2.2⟩)]
theorem X0c.p(a0:U8q)(a1:(Int×Int))(h:(XnF a0 a1)):X0c.F a0 a1:=by
 delta X0c.F ln tN wI dC eQ gA iB rE rU;simp only[Bs,B0,B1,Yaa,X01,Yay,XnF];have hl:a0.length<=1099511627776:=h;refine⟨hl,λh1=>Xyv h1,λh1=>?_⟩;obtain⟨z1,z2,z3⟩:=Xwb h1;rw[w64 (x:=XeT a0 a1+1) (by omega) (by omega)];refine⟨z3,?_⟩;rintro⟨i,j,s⟩ hI;simp only at hI ⊢;have q1:=hI.h1;have q2:=hI.h2;have q3:=hI.h3;have q4:=hI.h4;refine⟨λhj=>?_,λhj=>?_⟩
 . have hj':j<(a0.length:Int):=by omega
   have hg:=XyX hI hj';rw[w64 (x:=i+1) (by omega) (by omega),w64 (x:=j+1) (by omega) (by omega)];simp only[hg];refine⟨by omega,by omega,λhd=>⟨by omega,by omega,XwX hI hj' hd,by unfold dlM;omega⟩,λhd=>⟨Xwe hI hj' hd,by unfold dlM;omega⟩⟩
 . have hj':¬j<(a0.length:Int):=by omega
   have he:=λr=>Xy5 (r:=r) hI hj';exact⟨by omega,by omega,by omega,by omega,by omega,by simp only[Yal,YbS,Yap];omega,he _⟩
def X0c.e:GE:=mE X1b func209 [113] [X2L.e,X0d.e] [41] (λi x=>X0c.L x.1 x.2) (λi x=>X0c.F x.1 x.2) λi x h _ _=>X0c.p x.1 x.2 h
def Xbx:Con:=cW (.pair X7N T0q) [.one,.one,.one] X7N [(false,1)] [(0,112)] (λa=>(X8L a.1 a.2.1 a.2.2)) λa=>(X25 a.1 a.2.1 a.2.2)
def X4Y.F(a0:U8q)(a1:Int)(a2:Int):Prop:=Xk1 a0/\∀r1,Eq r1 (Xrm a0,(),())->XnF r1.1 (a1,a2)/\∀r2,Eq r2 (XmP r1.1 (a1,a2),(),())->Eq (r2.1,(),()) (X25 a0 a1 a2,(),())
theorem X4Y.p(a0:U8q)(a1:Int)(a2:Int)(h:(X8L a0 a1 a2)):X4Y.F a0 a1 a2:=by
 unfold X4Y.F;simp only[Bs,B0,B1,Yaa,X01,Yay,XnF,Xrm,Xk1];have hl:a0.length<=1099511627776:=h;exact⟨hl,hl,XqU _ _ _⟩
def X4Y.e:GE:=mE Xbx func183 [113] [X0g.e,X0c.e,X2L.e] [] noL (λi x=>X4Y.F x.1 x.2.1 x.2.2) λi x h _ _=>X4Y.p x.1 x.2.1 x.2.2 h
def XaD:Con:=cW (.pair X7N T0q) [.one,.one,.one] X7N [(false,1)] [(0,112)] (λa=>(X8L a.1 a.2.1 a.2.2)) λa=>(X25 a.1 a.2.1 a.2.2)
def X2w.F(a0:U8q)(a1:Int)(a2:Int):Prop:=eQ [(0,vL T0q a0),(1,vI a1),(2,vI a2)]/\s8I a0 a1 a2 0 ([]:List (Int×Int))/\∀(y1:Int×U8q),s8I a0 a1 a2 y1.1 y1.2->dC (y1.1<ln a0) (iB y1.1 a0 (dC ((gA a0 y1.1 (0,0)).1>=a1) (iB y1.1 a0 (dC ((gA a0 y1.1 (0,0)).1<a2) (iB y1.1 a0 (lE y1.2 [((gA a0 y1.1 (0,0)).1,(gA a0 y1.1 (0,0)).2)]/\(List.length y1.2+List.length [((gA a0 y1.1 (0,0)).1,(gA a0 y1.1 (0,0)).2)])*16<=140737488355328/\eQ [(0,vL T0q a0),(1,vI a1),(2,vI a2)]/\s8I a0 a1 a2 (wI (y1.1+1)) (y1.2++[((gA a0 y1.1 (0,0)).1,(gA a0 y1.1 (0,0)).2)])/\s8M a0 a1 a2 (wI (y1.1+1)) (y1.2++[((gA a0 y1.1 (0,0)).1,(gA a0 y1.1 (0,0)).2)])<s8M a0 a1 a2 y1.1 y1.2)) (eQ [(0,vL T0q a0),(1,vI a1),(2,vI a2)]/\s8I a0 a1 a2 (wI (y1.1+1)) y1.2/\s8M a0 a1 a2 (wI (y1.1+1)) y1.2<s8M a0 a1 a2 y1.1 y1.2))) (eQ [(0,vL T0q a0),(1,vI a1),(2,vI a2)]/\s8I a0 a1 a2 (wI (y1.1+1)) y1.2/\s8M a0 a1 a2 (wI (y1.1+1)) y1.2<s8M a0 a1 a2 y1.1 y1.2))) (rE y1.2 (X25 a0 a1 a2))
def X2w.L(a0:U8q)(a1:Int)(a2:Int):Nat->Option X0f:=XLK [(58,⟨⟨[0,1,2],[7,8],[],[kC 7 0 1000899 112]⟩,Xoh,λst y=>s8I a0 a1 a2 y.1 y.2,λst y=>s8M a0 a1 a2 y.1 y.2⟩)]
theorem X2w.p(a0:U8q)(a1:Int)(a2:Int)(h:(X8L a0 a1 a2)):X2w.F a0 a1 a2:=by
 delta X2w.F ln wI dC eQ gA iB lE rE vI vL tN;simp only[Bs,B0,B1,Yaa,X01,Yay];have hl:a0.length<=1099511627776:=h;refine⟨⟨by omega,by omega,by simp[X25],by simp⟩,?_⟩;rintro⟨i,out⟩ hI;simp only at hI ⊢;have q1:=hI.h1;have q2:=hI.h2;have q4:=hI.h4;rw[w64 (x:=i+1) (by omega) (by omega)];have dn:∀o,s8M a0 a1 a2 (i+1) o<s8M a0 a1 a2 i out\/¬i<(a0.length:Int):=λo=>by unfold s8M;omega
 refine⟨λhi=>⟨q1,hi,λh1=>⟨q1,hi,λh2=>⟨q1,hi,by omega,by omega,XxD hI hi h1 h2,by unfold s8M;omega⟩,λh2=>⟨XxR hI hi (λh=>h2 h.2),by unfold s8M;omega⟩⟩,λh1=>⟨XxR hI hi (λh=>h1 h.1),by unfold s8M;omega⟩⟩,λhi=>XyF hI hi⟩
def X2w.e:GE:=mE XaD func83 [113] [] [] (λi x=>X2w.L x.1 x.2.1 x.2.2) (λi x=>X2w.F x.1 x.2.1 x.2.2) λi x h _ _=>X2w.p x.1 x.2.1 x.2.2 h
section
open Go Go.Proofs.YthpdkligbfbjeaaGreat.Bv Go.Proofs Go.RowKit Go.Lib
set_option maxHeartbeats 1000000 in
theorem XyB(a b:ByteArray)(w:World):Calls Tryz.prog 222 #[.string a,.string b] w λe w'=>e=.returned (.int .i64 (Lib.compareBytes a.data.toList b.data.toList))/\w'=w:=by
 have mixed:Tryz.prog.follows .mixedOrders=true:=rfl
 go_enter func222,(show Tryz.f222.ntmps=8 from rfl)
 go_wp2
 rw[run_callFunc_extern func229 (by kernel_rfl) (by kernel_rfl) (by kernel_rfl) (e:=Extern.BytealgCompare.compare) (by kernel_rfl),Lib.run_compareString];simp only[Result.andThen];rw[Oper.upon_value]
 go_wp2
 go_ret
 exact⟨rfl,rfl⟩
def Xea(a b:List UInt8):Int:=Lib.compareBytes a b
theorem XsE:∀a b:List UInt8,Xea a b<0↔Op.bytesLess a b=true
 | [],[]=>by simp[Xea,Lib.compareBytes,Op.bytesLess]
 | [],_::_=>by simp[Xea,Lib.compareBytes,Op.bytesLess]
 | _::_,[]=>by simp[Xea,Lib.compareBytes,Op.bytesLess]
 | x::a,y::b=>by
   have ih:=XsE a b;rw[X7T];unfold Xea at ih ⊢;rw[Lib.compareBytes];simp only[Ya5,Yac,Yaj];by_cases h1:x<y
   . simp[h1]
   . by_cases h2:y<x
     . have:x≠y:=λe=>by subst e;exact absurd h2 h1
       simp[h1,h2,this]
     . have:x=y:=by
        simp only[Yb7]at h1 h2;exact Ydw.1 (by omega)
       simp[h1,h2,this,ih]
theorem Xt5:∀a b:List UInt8,Xea a b=0↔a=b
 | [],[]=>by simp[Xea,Lib.compareBytes]
 | [],_::_=>by simp[Xea,Lib.compareBytes]
 | _::_,[]=>by simp[Xea,Lib.compareBytes]
 | x::a,y::b=>by
   have ih:=Xt5 a b;unfold Xea at ih ⊢;rw[Lib.compareBytes];by_cases h1:x<y
   . have:x≠y:=λe=>by subst e;simp[Yb7]at h1
     simp[h1,this]
   . by_cases h2:y<x
     . have:x≠y:=λe=>by subst e;simp[Yb7]at h2
       simp[h1,h2,this]
     . have:x=y:=by
        simp only[Yb7]at h1 h2;exact Ydw.1 (by omega)
       simp[h1,h2,this,ih]
def X5E:Con:=cQ (.pair .str .str) [.one,.one] (.int .i64) [(false,1)] (λ_=>True) λa=>(Xea a.1 a.2)
theorem X4P.ok:X0h Tryz.prog 222 X5E:=by
 intro w M vs cs i x F FI b hM hargs hown hio hiv hnd hnone hpre;have hbn:b=none:=by cases b with | none=>rfl | some g=>cases hio
 subst hbn;obtain⟨u0,u1,rfl,rfl⟩:∃u0 u1,vs=[u0,u1]/\cs=[u0,u1]:=by
  cases hargs with
  | cons h0 r0=>cases r0 with
    | cons h1 r1=>cases r1;obtain⟨rfl,_⟩:=h0;obtain⟨rfl,_⟩:=h1;exact⟨_,_,rfl,rfl⟩
 obtain rfl:u0=.string ⟨x.1.toArray⟩:=hown.rd 0 u0 (.str x.1) rfl rfl rfl;obtain rfl:u1=.string ⟨x.2.toArray⟩:=hown.rd 1 u1 (.str x.2) rfl rfl rfl;refine(XyB ⟨x.1.toArray⟩ ⟨x.2.toArray⟩ w).mono ?_;rintro e w' ⟨rfl,rfl⟩;refine⟨[.int .i64 (Xea x.1 x.2)],(Xea x.1 x.2,((),())),[.int .i64 (Xea x.1 x.2)],M,λ_=>[],λ_=>[],λ_=>[],[],rfl,rfl,Mem.le_refl _,hM,Fr.refl _ _,λ_ _ _ h=>h,⟨rfl,Xdf.cons rfl rfl Xdf.nil⟩,⟨rfl,λj u c _ h1 h2=>?_,λj e hj=>by cases hj⟩,(λg hg=>by cases hg),⟨rfl,λk j e hk=>by cases hk⟩,(λj e hj=>by cases hj),(λj e hj=>by cases hj),Ybg,(λg hg=>by cases hg)⟩;cases j with
 | zero=>cases h1;cases h2;rfl
 | succ j=>cases h1
def X4P.e:GE:=⟨222,X5E,⟨_,func222,rfl,rfl⟩,X4P.ok⟩
def X7E:Con:=cQ (.pair .str .str) [.one,.one] (.int .i64) [(false,1)] (λ_=>True) λa=>(Xea a.1 a.2)
def X2F.F(a0:U7q)(a1:U7q):Prop:=True/\∀r1,Eq r1 (Xea a0 a1,(),())->Eq (r1.1,(),()) (Xea a0 a1,(),())
theorem X2F.p(a0:U7q)(a1:U7q)(h:True)(hw:Wf X7E.A (a0,a1)):X2F.F a0 a1:=by
 unfold X2F.F;simp only[Bs,B0,B1,Yaa,X01]
 repeat' (with_reducible (first | (refine And.intro ?_ ?_) | intro _))
 all_goals (try simp (disch:=omega) only[w64,wu8,tn0,tn1,tm1,tm2,Yab,Yad,Yai]at*)
 all_goals (try simp (disch:=omega) only[w64,wu8,tn0,tn1,tm1,tm2,Yab,Yad,Yai]at*)
 all_goals (try omega)
 all_goals (try grind[])
def X2F.e:GE:=mE X7E func208 [3] [X4P.e] [] noL (λi x=>X2F.F x.1 x.2) λi x h _ hw=>X2F.p x.1 x.2 h hw
end
section
open Go Go.Proofs.YthpdkligbfbjeaaGreat.Bv Go.Proofs Go.Shelf Go.RowKit Go.Lib
def X1d:Ren:=⟨λn=>if n=22 then 193 else if n=29 then 216 else if n=30 then 217 else n,λn=>if n=24 then 35 else if n=9 then 115 else n,λn=>n⟩
set_option maxRecDepth 100000 in
theorem X6n:Tryz.f193={Body2.n22 X1d with name:=Tryz.f193.name}:=by kernel_rfl
theorem X6D:Xi1 Tryz.prog X1d where
 mixed:=rfl
 f22:=⟨Tryz.f193.name,by kernel_rfl,by rw[<-X6n];exact func193⟩
 f29:=⟨Tryz.f216,func216,by kernel_rfl,by kernel_rfl,by kernel_rfl,by kernel_rfl⟩
 t0:=by kernel_rfl
 a0:=λw=>by kernel_rfl
 z0:=λw=>by kernel_rfl
 v0:=λw=>by kernel_rfl
 t3:=by kernel_rfl
 a3:=λw=>by kernel_rfl
 z3:=λw=>by kernel_rfl
 v3:=λw=>by kernel_rfl
 t4:=by kernel_rfl
 a4:=λw=>by kernel_rfl
 z4:=λw=>by kernel_rfl
 v4:=λw=>by kernel_rfl
 t24:=by kernel_rfl
 a24:=λw=>by kernel_rfl
 z24:=λw=>by kernel_rfl
 v24:=λw=>by kernel_rfl
 z9:=λw=>by kernel_rfl
 i9:=by
  obtain⟨i,z,h1,h2,h3,h4,h5⟩:=(XgY 115 _ rfl).info;have h6:z.cells.size=2:=by rw[<-Yaq,h5];rfl
  exact⟨i,z,h1,h4,h6.trans h2.symm,h2⟩
theorem X6S:∀i,Tryz.prog.info? (X1d.t 9)=some i->i.bytes=40:=λi hi=>by
 obtain⟨i',z,h1,h2,h3,h4,h5⟩:=(XgY 115 _ rfl).info;have h1':Tryz.prog.info? (X1d.t 9)=some i':=h1;rw[h1']at hi;cases hi;exact h3
def X2i(l:List U3q)(i:Int)(v:List U3q):List U3q:=l.take i.toNat++(v++l.drop i.toNat)
def X4b(l:List U3q)(i:Int)(v:List U3q):Prop:=0<=i/\i<=l.length/\0<v.length/\l.length+v.length<=1099511627776
def X4J:Con:={A:=(.pair X5C (.pair (.int .i64) X5C)),shA:=[.one,.one,.one],ownA:=[(0,115),(2,115)],R:=X5C,shR:=[(false,1)],fresh:=[(0,115)],pre:=λ_ a=>(X4b a.1 a.2.1 a.2.2),f:=some λ_ a=>((X2i a.1 a.2.1 a.2.2),((),()))}
theorem X2W.ok:X0h Tryz.prog 193 X4J:=XtI (τ:=T5q) X6D rfl X6S (by decide)
def X2W.e:GE:=⟨193,X4J,⟨_,func193,rfl,rfl⟩,X2W.ok⟩
end
def vb(n:Nat):List Int:=if n<128 then [(n:Int)] else(((128+n % 128:Nat):Int))::vb (n / 128)
termination_by n
decreasing_by omega
theorem Xce{n:Nat}(h:n<128):vb n=[(n:Int)]:=by rw[vb,Yah h]
theorem Xlx{n:Nat}(h:¬n<128):vb n=(((128+n % 128:Nat):Int))::vb (n / 128):=by rw[vb,Yae h]
theorem Xgl:∀(k n:Nat),n<128 ^ (k+1)->(vb n).length<=k+1
 | 0,n,h=>by rw[Xce (by simpa using h)];simp
 | k+1,n,h=>by
   by_cases hn:n<128
   . rw[Xce hn];simp
   . rw[Xlx hn];have:=Xgl k (n / 128) (by rw[Nat.div_lt_iff_lt_mul (by omega)];rw[Ydc]at h;exact h);simp;omega
def X3A(l:List Int):List UInt8:=l.map λn=>UInt8.ofNat n.toNat
def X28(n:Int):List UInt8:=if fIn n 0 562949953421311 then X3A (vb n.toNat) else []
theorem X0x(n:Int):(X28 n).length<=7:=by
 unfold X28;split
 . rename_i h;simp only[fIn,Yac,Yaj]at h;simp only[X3A,YcG];exact Xgl 6 n.toNat (by omega)
 . simp
def Xvp(n0 n:Int)(out:List Int):Prop:=0<=n/\n<=562949953421311/\out++vb n.toNat=vb n0.toNat
def Xxp(n0 n:Int)(out:List Int):Nat:=n.toNat
def Xfx:Con:=cQ (.int .i64) [.one] .str [(false,1)] (λ_=>True) λa=>(X28 a)
def X5l.F(a0:Int):Prop:=True/\∀r1,Eq r1 (fIn a0 0 562949953421311,(),())->X00 (!r1.1) (Eq ([],(),()) (X28 a0,(),())) (eS [] []/\Xvp a0 a0 ([]:List Int)/\∀(y2:Int×List Int),Xvp a0 y2.1 y2.2->X00 (decide (y2.1>=(128:Int))) ((128:Int)≠0/\List.length y2.2+List.length [IntKind.wrap .u8 (wI ((128:Int)+Int.tmod y2.1 (128:Int)))]<=9223372036854775807/\(List.length y2.2+List.length [IntKind.wrap .u8 (wI ((128:Int)+Int.tmod y2.1 (128:Int)))])*1<=140737488355328/\(128:Int)≠0/\eS [] []/\Xvp a0 (wI (Int.tdiv y2.1 (128:Int))) (y2.2++[IntKind.wrap .u8 (wI ((128:Int)+Int.tmod y2.1 (128:Int)))])/\Xxp a0 (wI (Int.tdiv y2.1 (128:Int))) (y2.2++[IntKind.wrap .u8 (wI ((128:Int)+Int.tmod y2.1 (128:Int)))])<Xxp a0 y2.1 y2.2) (List.length y2.2+List.length [IntKind.wrap .u8 y2.1]<=9223372036854775807/\(List.length y2.2+List.length [IntKind.wrap .u8 y2.1])*1<=140737488355328/\Eq (List.map (λn=>UInt8.ofNat (Int.toNat n)) (y2.2++[IntKind.wrap .u8 y2.1]),(),()) (X28 a0,(),())))
def X5l.L(a0:Int):Nat->Option X0f:=XLK [(60,⟨⟨[],[0,3],[],[kC 3 0 1000387 5]⟩,(.pair (.int .i64) (.list (.int .u8))),λst y=>Xvp a0 y.1 y.2,λst y=>Xxp a0 y.1 y.2⟩)]
theorem X5l.p(a0:Int)(h:True):X5l.F a0:=by
 delta X5l.F wI eS;simp only[YbN,Ybw,Ybm,X01,Yaa,YaS,Ybo,Yaj,Yaw,Yad,Yai];refine⟨λh1=>by simp[X28,h1],λh1=>?_⟩;have hin:=h1;simp only[fIn,Yac,Yaj]at hin;have hlen:=Xgl 6 a0.toNat (by omega);refine⟨⟨hin.1,hin.2,rfl⟩,?_⟩;rintro⟨n,out⟩ ⟨h2,h3,h4⟩;simp only at h2 h3 h4 ⊢;have hl:out.length+(vb n.toNat).length=(vb a0.toNat).length:=by rw[<-h4,Yab]
 constructor
 . intro h5;have e1:Int.tmod n 128=n % 128:=YaA h2;have e2:Int.tdiv n 128=n / 128:=Yba h2;have e3:IntKind.wrap .i64 (n / 128)=n / 128:=Yau _ (by omega);have e4:IntKind.wrap .i64 (128+n % 128)=128+n % 128:=Yau _ (by omega);have e4':IntKind.wrap .i64 (n % 128+128)=128+n % 128:=by rw[Int.add_comm];exact e4
   have e5:IntKind.wrap .u8 (128+n % 128)=128+n % 128:=YcA _ (by omega);simp only[e1,e2,e3,e4,e4',e5];rw[Xlx (by omega)]at hl h4;refine⟨by omega,by simp at hl;omega,by simp at hl;omega,by omega,⟨by omega,by omega,?_⟩,?_⟩
   . rw[<-h4,Yam];have:(n / 128).toNat=n.toNat / 128:=by omega
     rw[this]
     congr 1
     show(128+n % 128)::vb (n.toNat / 128)=_
     congr 1
     omega
   . show(n / 128).toNat<n.toNat;omega
 . intro h5;have e5:IntKind.wrap .u8 n=n:=YcA _ (by omega);simp only[e5];rw[Xce (by omega)]at hl h4;refine⟨by simp at hl;omega,by simp at hl;omega,?_⟩;simp only[X28,h1,Yci];rw[<-h4];have:((n.toNat:Nat):Int)=n:=by omega
   rw[this];rfl
def X5l.e:GE:=mE Xfx func114 [9] [X26.e] [] (λi x=>X5l.L x) (λi x=>X5l.F x) λi x h _ _=>X5l.p x h
def Xfm:Con:=cQ (.int .i64) [.one] .str [(false,1)] (λ_=>True) λa=>(X28 a)
def X5y.F(a0:Int):Prop:=True/\∀r1,Eq r1 (fIn a0 0 562949953421311,(),())->X00 (!r1.1) (Eq ([],(),()) (X28 a0,(),())) (eS [] []/\Xvp a0 a0 ([]:List Int)/\∀(y2:Int×List Int),Xvp a0 y2.1 y2.2->X00 (decide (y2.1>(127:Int))) ((128:Int)≠0/\List.length y2.2+List.length [IntKind.wrap .u8 (wI (Int.tmod y2.1 (128:Int)+(128:Int)))]<=9223372036854775807/\(List.length y2.2+List.length [IntKind.wrap .u8 (wI (Int.tmod y2.1 (128:Int)+(128:Int)))])*1<=140737488355328/\(128:Int)≠0/\eS [] []/\Xvp a0 (wI (Int.tdiv y2.1 (128:Int))) (y2.2++[IntKind.wrap .u8 (wI (Int.tmod y2.1 (128:Int)+(128:Int)))])/\Xxp a0 (wI (Int.tdiv y2.1 (128:Int))) (y2.2++[IntKind.wrap .u8 (wI (Int.tmod y2.1 (128:Int)+(128:Int)))])<Xxp a0 y2.1 y2.2) (List.length y2.2+List.length [IntKind.wrap .u8 y2.1]<=9223372036854775807/\(List.length y2.2+List.length [IntKind.wrap .u8 y2.1])*1<=140737488355328/\Eq (List.map (λn=>UInt8.ofNat (Int.toNat n)) (y2.2++[IntKind.wrap .u8 y2.1]),(),()) (X28 a0,(),())))
def X5y.L(a0:Int):Nat->Option X0f:=XLK [(60,⟨⟨[],[0,3],[],[kC 3 0 1000387 5]⟩,(.pair (.int .i64) (.list (.int .u8))),λst y=>Xvp a0 y.1 y.2,λst y=>Xxp a0 y.1 y.2⟩)]
theorem X5y.p(a0:Int)(h:True):X5y.F a0:=by
 delta X5y.F wI eS;simp only[YbN,Ybw,Ybm,X01,Yaa,YaS,Ybo,Yaj,Yaw,Yad,Yai];refine⟨λh1=>by simp[X28,h1],λh1=>?_⟩;have hin:=h1;simp only[fIn,Yac,Yaj]at hin;have hlen:=Xgl 6 a0.toNat (by omega);refine⟨⟨hin.1,hin.2,rfl⟩,?_⟩;rintro⟨n,out⟩ ⟨h2,h3,h4⟩;simp only at h2 h3 h4 ⊢;have hl:out.length+(vb n.toNat).length=(vb a0.toNat).length:=by rw[<-h4,Yab]
 constructor
 . intro h5;have e1:Int.tmod n 128=n % 128:=YaA h2;have e2:Int.tdiv n 128=n / 128:=Yba h2;have e3:IntKind.wrap .i64 (n / 128)=n / 128:=Yau _ (by omega);have e4:IntKind.wrap .i64 (128+n % 128)=128+n % 128:=Yau _ (by omega);have e4':IntKind.wrap .i64 (n % 128+128)=128+n % 128:=by rw[Int.add_comm];exact e4
   have e5:IntKind.wrap .u8 (128+n % 128)=128+n % 128:=YcA _ (by omega);simp only[e1,e2,e3,e4,e4',e5];rw[Xlx (by omega)]at hl h4;refine⟨by omega,by simp at hl;omega,by simp at hl;omega,by omega,⟨by omega,by omega,?_⟩,?_⟩
   . rw[<-h4,Yam];have:(n / 128).toNat=n.toNat / 128:=by omega
     rw[this]
     congr 1
     show(128+n % 128)::vb (n.toNat / 128)=_
     congr 1
     omega
   . show(n / 128).toNat<n.toNat;omega
 . intro h5;have e5:IntKind.wrap .u8 n=n:=YcA _ (by omega);simp only[e5];rw[Xce (by omega)]at hl h4;refine⟨by simp at hl;omega,by simp at hl;omega,?_⟩;simp only[X28,h1,Yci];rw[<-h4];have:((n.toNat:Nat):Int)=n:=by omega
   rw[this];rfl
def X5y.e:GE:=mE Xfm func176 [9] [X0X.e] [] (λi x=>X5y.L x) (λi x=>X5y.F x) λi x h _ _=>X5y.p x h
def fx:Nat->Nat->List Int
 | 0,_=>[]
 | w+1,n=>fx w (n / 256)++[((n % 256:Nat):Int)]
theorem Xdj:∀w n,(fx w n).length=w
 | 0,_=>rfl
 | w+1,n=>by simp[fx,Xdj w]
def Xbg(n w:Int):Prop:=n<=9223372036854775807
def X18(n w:Int):List UInt8:=if fIn w 1 7=true/\0<=n/\n<256 ^ w.toNat then X3A (fx w.toNat n.toNat) else []
theorem X4v(n w:Int):(X18 n w).length<=7:=by
 unfold X18;split
 . rename_i h;have:=h.1;simp only[fIn,Yac,Yaj]at this;simp only[X3A,YcG,Xdj];omega
 . simp
theorem XfG(a b:List Int):X3A (a++b)=X3A a++X3A b:=by simp[X3A]
def fxI(n0 w n:Int)(out:List UInt8)(i:Int):Prop:=0<=i/\i<=w/\1<=w/\w<=7/\0<=n0/\n=n0 / 256 ^ i.toNat/\(out.length:Int)=i/\X3A (fx (w - i).toNat n.toNat)++out=X3A (fx w.toNat n0.toNat)
def fxM(n0 w n:Int)(out:List UInt8)(i:Int):Nat:=(w - i).toNat
def fxJ(n0 w i:Int)(out:List Int):Prop:=-1<=i/\i<w/\1<=w/\w<=7/\0<=n0/\n0<256 ^ w.toNat/\out=fx (w - 1 - i).toNat (n0 / 256 ^ (i+1).toNat).toNat
def fxN(n0 w i:Int)(out:List Int):Nat:=(i+1).toNat
theorem Xop(x:Int):IntKind.wrap .u8 x=x % 256:=IntKind.wrap_u8 x
theorem Xyf(i:Nat):(2:Int) ^ (8*i)=256 ^ i:=by rw[Int.pow_mul];rfl
theorem XbO(i:Nat):(0:Int)<256 ^ i:=Int.pow_pos (by omega)
theorem Xi3(n:Int)(i:Nat):n / 256 ^ (i+1)=n / 256 ^ i / 256:=by
 rw[Int.pow_succ,Int.ediv_ediv_of_nonneg (Int.le_of_lt (XbO i))]
theorem XgN{n:Int}(h:0<=n)(i:Nat):0<=n / 256 ^ i:=Int.ediv_nonneg h (Int.le_of_lt (XbO i))
theorem Xt1(w:Nat){n:Int}(h:0<=n):fx (w+1) n.toNat=fx w (n / 256).toNat++[n % 256]:=by
 have e1:n.toNat / 256=(n / 256).toNat:=by omega
 have e2:((n.toNat % 256:Nat):Int)=n % 256:=by omega
 simp only[fx,e1,e2]
theorem XkW{n w:Int}(h:fIn w 1 7=false):[]=X18 n w:=by simp[X18,h]
theorem XkY{n w:Int}(h:n<0):[]=X18 n w:=by unfold X18;rw[Yae (by omega)]
def Xcj:Con:=cQ T0q [.one,.one] .str [(false,1)] (λa=>(Xbg a.1 a.2)) λa=>(X18 a.1 a.2)
def X4W.F(a0:Int)(a1:Int):Prop:=True/\∀r1,Eq r1 (fIn a1 1 7,(),())->X00 (!r1.1) (Eq ([],(),()) (X18 a0 a1,(),())) (X00 (decide (a0<(0:Int))) (Eq ([],(),()) (X18 a0 a1,(),())) (eS [(1,.val false [.int .i64 a1])] [(1,.val false [.int .i64 a1])]/\fxI a0 a1 a0 [] 0/\∀(y2:Int×U7q×Int),fxI a0 a1 y2.1 y2.2.1 y2.2.2->X00 (decide (y2.2.2<a1)) ((256:Int)≠0/\List.length (List.map (λn=>UInt8.ofNat (Int.toNat n)) [IntKind.wrap .u8 (Int.tmod y2.1 (256:Int))])+List.length y2.2.1<=9223372036854775807/\(256:Int)≠0/\eS [(1,.val false [.int .i64 a1])] [(1,.val false [.int .i64 a1])]/\fxI a0 a1 (wI (Int.tdiv y2.1 (256:Int))) (List.map (λn=>UInt8.ofNat (Int.toNat n)) [IntKind.wrap .u8 (Int.tmod y2.1 (256:Int))]++y2.2.1) (wI (y2.2.2+(1:Int)))/\fxM a0 a1 (wI (Int.tdiv y2.1 (256:Int))) (List.map (λn=>UInt8.ofNat (Int.toNat n)) [IntKind.wrap .u8 (Int.tmod y2.1 (256:Int))]++y2.2.1) (wI (y2.2.2+(1:Int)))<fxM a0 a1 y2.1 y2.2.1 y2.2.2) (X00 (decide (y2.1>(0:Int))) (Eq ([],(),()) (X18 a0 a1,(),())) (Eq (y2.2.1,(),()) (X18 a0 a1,(),())))))
def X4W.L(a0:Int)(a1:Int):Nat->Option X0f:=XLK [(122,⟨⟨[1],[0,5,6],[],[]⟩,(.pair (.int .i64) Xrr),λst y=>fxI a0 a1 y.1 y.2.1 y.2.2,λst y=>fxM a0 a1 y.1 y.2.1 y.2.2⟩)]
theorem X4W.p(a0:Int)(a1:Int)(h:(Xbg a0 a1)):X4W.F a0 a1:=by
 delta X4W.F wI eS;have h0:=h;have hin:fIn a1 1 7=true->1<=a1/\a1<=7:=λh=>by simpa [fIn] using h
 simp only[Bs,B0,B1,Yaa,X01];refine⟨λh=>XkW h,λh=>⟨λh2=>XkY h2,λh2=>?_⟩⟩;obtain⟨h3,h4⟩:=hin h;refine⟨⟨by omega,by omega,h3,h4,by omega,by simp,rfl,by simp⟩,?_⟩;rintro⟨n,out,i⟩ ⟨k1,k2,k3,k4,k5,k6,k7,k8⟩;simp only at k1 k2 k3 k4 k5 k6 k7 k8 ⊢;have hn:0<=n:=by rw[k6];exact XgN k5 _
 refine⟨λhi=>?_,λhi=>?_⟩
 . have e1:Int.tmod n 256=n % 256:=YaA hn;have e2:Int.tdiv n 256=n / 256:=Yba hn;have hp:=XbO i.toNat;have hle:n<=a0:=by rw[k6];exact Int.ediv_le_self _ k5
   have hp1:a0<=9223372036854775807:=h0;rw[e1,e2,wu8 (by omega) (by omega),w64 (by omega) (by omega),w64 (x:=i+1) (by omega) (by omega)];refine⟨by omega,by simp;omega,by omega,⟨by omega,by omega,k3,k4,k5,?_,by simp;omega,?_⟩,by unfold fxM;omega⟩
   . rw[tn1 k1,Xi3,<-k6]
   . have e3:(a1 - i).toNat=(a1 - (i+1)).toNat+1:=by omega
     rw[e3,Xt1 _ hn,XfG,Yam]at k8;exact k8
 . have e:i=a1:=by omega
   subst e;rw[Int.sub_self]at k8;simp only[Int.toNat_zero,fx,X3A,YaI,YaV]at k8;refine⟨λh5=>?_,λh5=>?_⟩
   . unfold X18;rw[Yae];rintro⟨_,_,h6⟩;have:n=0:=by rw[k6];exact Int.ediv_eq_zero_of_lt k5 h6
     omega
   . have h8:a0<256 ^ i.toNat:=by
      have h7:n=0:=by omega
      rw[k6]at h7;have:=Ydf a0 (XbO i.toNat);rw[h7]at this;omega
     unfold X18;rw[Yah ⟨h,k5,h8⟩];exact k8
def X4W.e:GE:=mE Xcj func153 [9] [X26.e] [] (λi x=>X4W.L x.1 x.2) (λi x=>X4W.F x.1 x.2) λi x h _ _=>X4W.p x.1 x.2 h
def Xcl:Con:=cQ T0q [.one,.one] .str [(false,1)] (λa=>(Xbg a.1 a.2)) λa=>(X18 a.1 a.2)
def X4S.F(a0:Int)(a1:Int):Prop:=True/\∀r1,Eq r1 (fIn a1 1 7,(),())->X00 (!r1.1) (Eq ([],(),()) (X18 a0 a1,(),())) (X00 (decide (a0<(0:Int))) (Eq ([],(),()) (X18 a0 a1,(),())) (0<=wI ((8:Int)*a1)/\X00 (Int.fdiv a0 (2^min (tN (wI ((8:Int)*a1))) (IntKind.bits .i64))!=(0:Int)) (Eq ([],(),()) (X18 a0 a1,(),())) (eS [(0,.val false [.int .i64 a0])] [(0,.val false [.int .i64 a0])]/\fxJ a0 a1 (wI (a1 - (1:Int))) ([]:List Int)/\∀(y2:Int×List Int),fxJ a0 a1 y2.1 y2.2->X00 (decide (y2.1>=(0:Int))) (0<=wI ((8:Int)*y2.1)/\List.length y2.2+List.length [IntKind.wrap .u8 (Int.fdiv a0 (2^min (tN (wI ((8:Int)*y2.1))) (IntKind.bits .i64)))]<=9223372036854775807/\(List.length y2.2+List.length [IntKind.wrap .u8 (Int.fdiv a0 (2^min (tN (wI ((8:Int)*y2.1))) (IntKind.bits .i64)))])*1<=140737488355328/\eS [(0,.val false [.int .i64 a0])] [(0,.val false [.int .i64 a0])]/\fxJ a0 a1 (wI (y2.1 - (1:Int))) (y2.2++[IntKind.wrap .u8 (Int.fdiv a0 (2^min (tN (wI ((8:Int)*y2.1))) (IntKind.bits .i64)))])/\fxN a0 a1 (wI (y2.1 - (1:Int))) (y2.2++[IntKind.wrap .u8 (Int.fdiv a0 (2^min (tN (wI ((8:Int)*y2.1))) (IntKind.bits .i64)))])<fxN a0 a1 y2.1 y2.2) (Eq (List.map (λn=>UInt8.ofNat (Int.toNat n)) y2.2,(),()) (X18 a0 a1,(),())))))
def X4S.L(a0:Int)(a1:Int):Nat->Option X0f:=XLK [(122,⟨⟨[0],[5,6],[],[kC 5 0 1000643 5]⟩,(.pair (.int .i64) (.list (.int .u8))),λst y=>fxJ a0 a1 y.1 y.2,λst y=>fxN a0 a1 y.1 y.2⟩)]
theorem X4S.p(a0:Int)(a1:Int)(h:(Xbg a0 a1)):X4S.F a0 a1:=by
 delta X4S.F tN wI eS;have h0:=h;have hin:fIn a1 1 7=true->1<=a1/\a1<=7:=λh=>by simpa [fIn] using h
 simp only[Bs,B0,B1,Yaa,X01];refine⟨λh=>XkW h,λh=>⟨λh2=>XkY h2,λh2=>?_⟩⟩;obtain⟨h3,h4⟩:=hin h;have eb:IntKind.bits .i64=64:=rfl;have e8:∀x:Int,0<=x->x<=7->(2:Int) ^ (min (IntKind.wrap .i64 (8*x)).toNat (IntKind.bits .i64))=256 ^ x.toNat:=λx q1 q2=>by
  rw[w64 (by omega) (by omega),eb,show min (8*x).toNat 64=8*x.toNat by omega,Xyf]
 have ef:∀x:Int,0<=x->x<=7->Int.fdiv a0 (2 ^ (min (IntKind.wrap .i64 (8*x)).toNat (IntKind.bits .i64)))=a0 / 256 ^ x.toNat:=λx q1 q2=>by
  rw[e8 x q1 q2];exact YcC _ (Int.le_of_lt (XbO _))
 rw[ef a1 (by omega) (by omega)];refine⟨by rw[w64 (by omega) (by omega)];omega,λh5=>?_,λh5=>?_⟩
 . unfold X18;rw[Yae];rintro⟨_,_,h6⟩;exact h5 (Int.ediv_eq_zero_of_lt (by omega) h6)
 have h6:a0<256 ^ a1.toNat:=by
  have:=Ydf a0 (XbO a1.toNat);rw[h5]at this;omega
 refine⟨⟨by rw[w64 (by omega) (by omega)];omega,by rw[w64 (by omega) (by omega)];omega,h3,h4,by omega,h6,by rw[w64 (by omega) (by omega),show(a1 - 1 - (a1 - 1)).toNat=0 by omega];rfl⟩,?_⟩;rintro⟨i,out⟩ ⟨k1,k2,k3,k4,k5,k6,k7⟩;simp only at k1 k2 k3 k4 k5 k6 k7 ⊢;have hl:out.length=(a1 - 1 - i).toNat:=by rw[k7,Xdj]
 refine⟨λhi=>?_,λhi=>?_⟩
 . rw[ef i hi (by omega),w64 (x:=8*i) (by omega) (by omega),w64 (x:=i - 1) (by omega) (by omega),Xop];have hd:=XgN k5 i.toNat;refine⟨by omega,by omega,by omega,⟨by omega,by omega,k3,k4,k5,k6,?_⟩,by unfold fxN;omega⟩;have e1:(a1 - 1 - (i - 1)).toNat=(a1 - 1 - i).toNat+1:=by omega
   have e2:(i - 1+1).toNat=i.toNat:=by omega
   rw[e1,e2,Xt1 _ hd,k7,tn1 hi,Xi3]
 . have e:i= -1:=by omega
   subst e;have e1:(a1 - 1 - -1).toNat=a1.toNat:=by omega
   rw[e1]at k7;unfold X18;rw[Yah ⟨h,k5,k6⟩,k7];show X3A _=_;rw[show((-1:Int)+1).toNat=0 from rfl,Int.pow_zero,Int.ediv_one]
def X4S.e:GE:=mE Xcl func203 [9] [X0X.e] [] (λi x=>X4S.L x.1 x.2) (λi x=>X4S.F x.1 x.2) λi x h _ _=>X4S.p x.1 x.2 h
def Xgd(c:Nat):Nat:=if c % 2=1 then(c / 2) ^^^ 2197175160 else c / 2
def XdI:Nat->Nat->Nat
 | 0,c=>c
 | k+1,c=>Xgd (XdI k c)
def XlT(c:Nat)(b:UInt8):Nat:=XdI 8 (c ^^^ b.toNat)
def Xrq(s:List UInt8):Nat:=s.foldl XlT 4294967295
def XjL(s:List UInt8):Int:=4294967295 - (Xrq s:Int)
theorem Xkd{a b:Nat}(h:a<4294967296)(h':b<4294967296):a ^^^ b<4294967296:=Nat.xor_lt_two_pow (n:=32) h h'
theorem Xtw{c:Nat}(h:c<4294967296):Xgd c<4294967296:=by
 unfold Xgd;split
 . exact Xkd (by omega) (by omega)
 . omega
theorem Xfd{c:Nat}(h:c<4294967296):∀k,XdI k c<4294967296
 | 0=>h
 | k+1=>Xtw (Xfd h k)
theorem XqG{c:Nat}(b:UInt8)(h:c<4294967296):XlT c b<4294967296:=Xfd (Xkd h (by have:=b.toNat_lt;omega)) 8
theorem Xq0:∀(s:List UInt8) (c:Nat),c<4294967296->s.foldl XlT c<4294967296
 | [],_,h=>h
 | b::s,c,h=>Xq0 s _ (XqG b h)
theorem Xke(s:List UInt8):Xrq s<4294967296:=Xq0 s _ (by omega)
theorem Xkc(s:List UInt8):0<=XjL s/\XjL s<=4294967295:=by have:=Xke s;unfold XjL;omega
theorem Xnh(s:List UInt8)(i:Nat)(h:i<s.length):Xrq (s.take (i+1))=XlT (Xrq (s.take i)) (s.getD i 0):=by
 rw[X0M 0 h];simp[Xrq]
theorem bv64(x:Nat)(h:x<4294967296):(BitVec.ofInt 64 (x:Int)).toNat=x:=by
 rw[BitVec.toNat_ofInt];omega
theorem Xxw(x:Nat)(h:x<4294967296):(BitVec.ofInt 32 (x:Int)).toNat=x:=by
 rw[BitVec.toNat_ofInt];omega
theorem Xyp{x y:Nat}(hx:x<4294967296)(hy:y<4294967296):IntKind.wrap .i64 ((BitVec.ofInt (IntKind.bits .i64) (x:Int) ^^^ BitVec.ofInt (IntKind.bits .i64) (y:Int)).toNat:Int)=((x ^^^ y:Nat):Int):=by
 show IntKind.wrap .i64 ((BitVec.ofInt 64 (x:Int) ^^^ BitVec.ofInt 64 (y:Int)).toNat:Int)=_;have:=Xkd hx hy;rw[YcZ,bv64 x hx,bv64 y hy,w64 (by omega) (by omega)]
theorem Xyj{x y:Nat}(hx:x<4294967296)(hy:y<4294967296):IntKind.wrap .u32 ((BitVec.ofInt (IntKind.bits .u32) (x:Int) ^^^ BitVec.ofInt (IntKind.bits .u32) (y:Int)).toNat:Int)=((x ^^^ y:Nat):Int):=by
 show IntKind.wrap .u32 ((BitVec.ofInt 32 (x:Int) ^^^ BitVec.ofInt 32 (y:Int)).toNat:Int)=_;have:=Xkd hx hy;rw[YcZ,Xxw x hx,Xxw y hy,YcQ _ (by omega)]
theorem and32{x:Nat}(hx:x<4294967296):IntKind.wrap .u32 ((BitVec.ofInt (IntKind.bits .u32) (x:Int)&&&BitVec.ofInt (IntKind.bits .u32) 1).toNat:Int)=((x % 2:Nat):Int):=by
 show IntKind.wrap .u32 ((BitVec.ofInt 32 (x:Int)&&&BitVec.ofInt 32 ((1:Nat):Int)).toNat:Int)=_;rw[BitVec.toNat_and,Xxw x hx,Xxw 1 (by omega),Nat.and_one_is_mod,YcQ _ (by omega)]
theorem not32{x:Nat}(hx:x<4294967296):IntKind.wrap .u32 ((BitVec.ofInt (IntKind.bits .u32) (if IntKind.signed .u32 then -1 else IntKind.max .u32) ^^^ BitVec.ofInt (IntKind.bits .u32) (x:Int)).toNat:Int)=4294967295 - (x:Int):=by
 show IntKind.wrap .u32 ((BitVec.ofInt 32 ((4294967295:Nat):Int) ^^^ BitVec.ofInt 32 (x:Int)).toNat:Int)=_;have h2:=Xkd (a:=4294967295) (b:=x) (by omega) hx;have h3:4294967295 ^^^ x=4294967295 - x:=by
  have h4:(~~~ (BitVec.ofNat 32 x)).toNat=(BitVec.ofNat 32 4294967295 ^^^ BitVec.ofNat 32 x).toNat:=by
   congr 1
  rw[BitVec.toNat_not,YcZ,YcJ,YcJ,Ycl (by omega),Ycl (by omega)]at h4;omega
 rw[YcZ,Xxw x hx,Xxw _ (by omega),h3,YcQ _ (by omega)];omega
def Xrk(s:List UInt8):Prop:=s.length<=maxLen
def crI(s:List UInt8)(c i:Int):Prop:=0<=i/\i<=s.length/\c=((Xrq (s.take i.toNat):Nat):Int)
def crM(s:List UInt8)(c i:Int):Nat:=(s.length - i).toNat
def crJ(s:List UInt8)(i c k:Int):Prop:=0<=i/\i<s.length/\0<=k/\k<=8/\c=((XdI k.toNat (Xrq (s.take i.toNat) ^^^ (s.getD i.toNat 0).toNat):Nat):Int)
def crN(s:List UInt8)(i c k:Int):Nat:=(8 - k).toNat
def Xfs:Con:=cQ .str [.one] (.int .i64) [(false,1)] (λa=>(Xrk a)) λa=>(XjL a)
def X6O.F(a0:U7q):Prop:=eQ [(0,vS a0)]/\crI a0 4294967295 0/\∀(y1:Int×Int),crI a0 y1.1 y1.2->dC (y1.2<ln a0) (iB y1.2 a0 (eQ [(0,vS a0),(4,vI y1.2)]/\crJ a0 y1.2 (IntKind.wrap .i64 (BitVec.toNat (BitVec.ofInt (IntKind.bits .i64) y1.1^^^BitVec.ofInt (IntKind.bits .i64) (wI ((UInt8.toNat (gA a0 y1.2 0):Nat):Int))))) 0/\∀(y2:Int×Int),crJ a0 y1.2 y2.1 y2.2->dC (y2.2<8) ((2:Int)≠0/\(2:Int)≠0/\X00 (Int.tmod y2.1 (2:Int)==(1:Int)) (eQ [(0,vS a0),(4,vI y1.2)]/\crJ a0 y1.2 (IntKind.wrap .i64 (BitVec.toNat (BitVec.ofInt (IntKind.bits .i64) (wI (Int.tdiv y2.1 (2:Int)))^^^BitVec.ofInt (IntKind.bits .i64) (2197175160:Int)))) (wI (y2.2+1))/\crN a0 y1.2 (IntKind.wrap .i64 (BitVec.toNat (BitVec.ofInt (IntKind.bits .i64) (wI (Int.tdiv y2.1 (2:Int)))^^^BitVec.ofInt (IntKind.bits .i64) (2197175160:Int)))) (wI (y2.2+1))<crN a0 y1.2 y2.1 y2.2) (eQ [(0,vS a0),(4,vI y1.2)]/\crJ a0 y1.2 (wI (Int.tdiv y2.1 (2:Int))) (wI (y2.2+1))/\crN a0 y1.2 (wI (Int.tdiv y2.1 (2:Int))) (wI (y2.2+1))<crN a0 y1.2 y2.1 y2.2)) (eQ [(0,vS a0)]/\crI a0 y2.1 (wI (y1.2+1))/\crM a0 y2.1 (wI (y1.2+1))<crM a0 y1.1 y1.2))) (rE (wI (4294967295 - y1.1)) (XjL a0))
def X6O.L(a0:U7q):Nat->Option X0f:=XLK [(58,⟨⟨[0],[3,4],[],[]⟩,T0q,λst y=>crI a0 y.1 y.2,λst y=>crM a0 y.1 y.2⟩),(7462,⟨⟨[0,4],[3,5],[],[]⟩,T0q,λst y=>crJ a0 (Xvd (Xi2 st 4 0)) y.1 y.2,λst y=>crN a0 (Xvd (Xi2 st 4 0)) y.1 y.2⟩)]
theorem X6O.p(a0:U7q)(h:(Xrk a0)):X6O.F a0:=by
 delta X6O.F ln wI dC eQ gA iB rE vI vS tN;simp only[Bs,B0,B1,Yaa,X01];have hl:a0.length<=maxLen:=h;unfold maxLen at hl;refine⟨⟨by omega,by omega,rfl⟩,?_⟩;rintro⟨c,i⟩ ⟨h1,h2,h3⟩;simp only at h1 h2 h3 ⊢;have hc:=Xke (a0.take i.toNat);refine⟨λhi=>?_,λhi=>?_⟩
 . have hb:=(a0.getD i.toNat 0).toNat_lt;have hx:=Xkd hc (show(a0.getD i.toNat 0).toNat<4294967296 by omega);rw[w64 (x:=((a0.getD i.toNat 0).toNat:Int)) (by omega) (by omega),h3,Xyp hc (by omega)];refine⟨h1,hi,⟨h1,hi,by omega,by omega,rfl⟩,?_⟩;rintro⟨c2,k⟩ ⟨q1,q2,q3,q4,q5⟩;simp only at q1 q2 q3 q4 q5 ⊢;have hcb:=Xfd hx k.toNat;refine⟨λhk=>?_,λhk=>?_⟩
   . have e1:IntKind.wrap .i64 (k+1)=k+1:=w64 (by omega) (by omega);have step:crJ a0 i ((Xgd (XdI k.toNat (Xrq (a0.take i.toNat) ^^^ (a0.getD i.toNat 0).toNat)):Nat):Int) (k+1):=⟨h1,hi,by omega,by omega,by rw[tn1 q3];rfl⟩
     have e2:Int.tmod c2 2=c2 % 2:=YaA (by omega);have e3:Int.tdiv c2 2=c2 / 2:=Yba (by omega);rw[e1,e2,e3,w64 (x:=c2 / 2) (by omega) (by omega),show c2 / 2=((XdI k.toNat (Xrq (a0.take i.toNat) ^^^ (a0.getD i.toNat 0).toNat) / 2:Nat):Int) by omega];refine⟨by omega,by omega,λho=>?_,λho=>?_⟩
     . rw[show(2197175160:Int)=((2197175160:Nat):Int) from rfl,Xyp (by omega) (by omega)];unfold Xgd at step;rw[Yah (by omega)]at step;exact⟨step,by unfold crN;omega⟩
     . unfold Xgd at step;rw[Yae (by omega)]at step;exact⟨step,by unfold crN;omega⟩
   . have e:k=8:=by omega
     subst e;rw[w64 (x:=i+1) (by omega) (by omega)];refine⟨⟨by omega,by omega,?_⟩,by unfold crM;omega⟩;rw[q5,tn1 h1,Xnh a0 i.toNat (by omega)];rfl
 . have e:i.toNat=a0.length:=by omega
   rw[e,Yat]at h3;have hc2:=Xke a0;rw[h3];rw[w64 (by omega) (by omega)];rfl
def X6O.e:GE:=mE Xfs func154 [3] [] [] (λi x=>X6O.L x) (λi x=>X6O.F x) λi x h _ _=>X6O.p x h
def Xfq:Con:=cQ .str [.one] (.int .i64) [(false,1)] (λa=>(Xrk a)) λa=>(XjL a)
def X6J.F(a0:U7q):Prop:=eQ [(0,vS a0),(7,vI (ln a0))]/\crI a0 4294967295 0/\∀(y1:Int×Int),crI a0 y1.1 y1.2->dC (y1.2<ln a0) (iB y1.2 a0 (eQ [(0,vS a0),(7,vI (ln a0)),(8,vI y1.2)]/\crJ a0 y1.2 (IntKind.wrap .u32 (BitVec.toNat (BitVec.ofInt (IntKind.bits .u32) y1.1^^^BitVec.ofInt (IntKind.bits .u32) (IntKind.wrap .u32 ((UInt8.toNat (gA a0 y1.2 0):Nat):Int))))) 0/\∀(y2:Int×Int),crJ a0 y1.2 y2.1 y2.2->dC (y2.2<8) (0<=(1:Int)/\X00 (IntKind.wrap .u32 (BitVec.toNat (BitVec.ofInt (IntKind.bits .u32) y2.1&&&BitVec.ofInt (IntKind.bits .u32) (1:Int)))==(1:Int)) (eQ [(0,vS a0),(7,vI (ln a0)),(8,vI y1.2)]/\crJ a0 y1.2 (IntKind.wrap .u32 (BitVec.toNat (BitVec.ofInt (IntKind.bits .u32) (Int.fdiv y2.1 (2^min (tN 1) (IntKind.bits .u32)))^^^BitVec.ofInt (IntKind.bits .u32) (2197175160:Int)))) (wI (y2.2+1))/\crN a0 y1.2 (IntKind.wrap .u32 (BitVec.toNat (BitVec.ofInt (IntKind.bits .u32) (Int.fdiv y2.1 (2^min (tN 1) (IntKind.bits .u32)))^^^BitVec.ofInt (IntKind.bits .u32) (2197175160:Int)))) (wI (y2.2+1))<crN a0 y1.2 y2.1 y2.2) (eQ [(0,vS a0),(7,vI (ln a0)),(8,vI y1.2)]/\crJ a0 y1.2 (Int.fdiv y2.1 (2^min (tN 1) (IntKind.bits .u32))) (wI (y2.2+1))/\crN a0 y1.2 (Int.fdiv y2.1 (2^min (tN 1) (IntKind.bits .u32))) (wI (y2.2+1))<crN a0 y1.2 y2.1 y2.2)) (eQ [(0,vS a0),(7,vI (ln a0))]/\crI a0 y2.1 (wI (y1.2+1))/\crM a0 y2.1 (wI (y1.2+1))<crM a0 y1.1 y1.2))) (rE (wI (IntKind.wrap .u32 (BitVec.toNat (BitVec.ofInt (IntKind.bits .u32) (if IntKind.signed .u32 then - 1 else IntKind.max .u32)^^^BitVec.ofInt (IntKind.bits .u32) y1.1)))) (XjL a0))
def X6J.L(a0:U7q):Nat->Option X0f:=XLK [(58,⟨⟨[0,7],[3,8],[],[]⟩,(.pair (.int .u32) (.int .i64)),λst y=>crI a0 y.1 y.2,λst y=>crM a0 y.1 y.2⟩),(29902,⟨⟨[0,7,8],[3,17],[],[]⟩,(.pair (.int .u32) (.int .i64)),λst y=>crJ a0 (Xvd (Xi2 st 8 0)) y.1 y.2,λst y=>crN a0 (Xvd (Xi2 st 8 0)) y.1 y.2⟩)]
theorem X6J.p(a0:U7q)(h:(Xrk a0)):X6J.F a0:=by
 delta X6J.F ln tN wI dC eQ gA iB rE vI vS;simp only[Bs,B0,B1,Yaa,X01];have hl:a0.length<=maxLen:=h;unfold maxLen at hl;refine⟨⟨by omega,by omega,rfl⟩,?_⟩;rintro⟨c,i⟩ ⟨h1,h2,h3⟩;simp only at h1 h2 h3 ⊢;have hc:=Xke (a0.take i.toNat);refine⟨λhi=>?_,λhi=>?_⟩
 . have hb:=(a0.getD i.toNat 0).toNat_lt;have hx:=Xkd hc (show(a0.getD i.toNat 0).toNat<4294967296 by omega);rw[YcQ ((a0.getD i.toNat 0).toNat:Int) (by omega),h3,Xyj hc (by omega)];refine⟨h1,hi,⟨h1,hi,by omega,by omega,rfl⟩,?_⟩;rintro⟨c2,k⟩ ⟨q1,q2,q3,q4,q5⟩;simp only at q1 q2 q3 q4 q5 ⊢;have hcb:=Xfd hx k.toNat;refine⟨λhk=>?_,λhk=>?_⟩
   . have e1:IntKind.wrap .i64 (k+1)=k+1:=w64 (by omega) (by omega);have step:crJ a0 i ((Xgd (XdI k.toNat (Xrq (a0.take i.toNat) ^^^ (a0.getD i.toNat 0).toNat)):Nat):Int) (k+1):=⟨h1,hi,by omega,by omega,by rw[tn1 q3];rfl⟩
     have eb:min (Int.toNat 1) (IntKind.bits .u32)=1:=by decide
     have e3:Int.fdiv c2 (2 ^ 1)=c2 / 2:=YcC _ (by omega);rw[e1,eb,e3,q5,and32 hcb,show((XdI k.toNat (Xrq (a0.take i.toNat) ^^^ (a0.getD i.toNat 0).toNat):Nat):Int) / 2=((XdI k.toNat (Xrq (a0.take i.toNat) ^^^ (a0.getD i.toNat 0).toNat) / 2:Nat):Int) by omega];refine⟨by omega,λho=>?_,λho=>?_⟩
     . rw[show(2197175160:Int)=((2197175160:Nat):Int) from rfl,Xyj (by omega) (by omega)];unfold Xgd at step;rw[Yah (by omega)]at step;exact⟨step,by unfold crN;omega⟩
     . unfold Xgd at step;rw[Yae (by omega)]at step;exact⟨step,by unfold crN;omega⟩
   . have e:k=8:=by omega
     subst e;rw[w64 (x:=i+1) (by omega) (by omega)];refine⟨⟨by omega,by omega,?_⟩,by unfold crM;omega⟩;rw[q5,tn1 h1,Xnh a0 i.toNat (by omega)];rfl
 . have e:i.toNat=a0.length:=by omega
   rw[e,Yat]at h3;have hc2:=Xke a0;rw[h3];rw[not32 hc2,w64 (by omega) (by omega)];rfl
def X6J.e:GE:=mE Xfq func204 [3] [] [] (λi x=>X6J.L x) (λi x=>X6J.F x) λi x h _ _=>X6J.p x h
def X4d(b:List UInt8):List UInt8:=if fIn b.length 1 2000=true then X18 b.length 4++X18 (XjL (X18 b.length 4++b)) 4++b else []
theorem Xmh(b:List UInt8):(X4d b).length<=2014:=by
 unfold X4d;split
 . rename_i h;simp only[fIn,Yac,Yaj]at h;have h1:=X4v b.length 4;have h2:=X4v (XjL (X18 b.length 4++b)) 4;simp only[Yab];omega
 . simp
theorem X0R{a l h:Int}:fIn a l h=true↔l<=a/\a<=h:=by simp[fIn]
theorem XjH{a l h:Int}:fIn a l h=false↔¬(l<=a/\a<=h):=by rw[<-X0R];simp
def Xch:Con:=cQ .str [.one] .str [(false,1)] (λ_=>True) λa=>(X4d a)
def X5q.F(a0:U7q):Prop:=X00 (ln a0==(0:Int)) (Eq ([],(),()) (X4d a0,(),())) (X00 (decide (ln a0>(2000:Int))) (Eq ([],(),()) (X4d a0,(),())) (Xbg (ln a0) 4/\∀r1,Eq r1 (X18 (ln a0) 4,(),())->List.length r1.1+List.length a0<=9223372036854775807/\Xrk (r1.1++a0)/\∀r2,Eq r2 (XjL (r1.1++a0),(),())->Xbg r2.1 4/\∀r3,Eq r3 (X18 r2.1 4,(),())->List.length r1.1+List.length r3.1<=9223372036854775807/\List.length (r1.1++r3.1)+List.length a0<=9223372036854775807/\Eq (r1.1++r3.1++a0,(),()) (X4d a0,(),())))
theorem X5q.p(a0:U7q)(h:True)(hw:Wf Xch.A a0):X5q.F a0:=by
 delta X5q.F ln;have h1:=X4v a0.length 4;have h2:=X4v (XjL (X18 a0.length 4++a0)) 4;have h3:=Xkc (X18 a0.length 4++a0);simp only[Bs,B0,B1,Yaa,X01,Xbg,Xrk,maxLen]
 repeat' (with_reducible (first | (refine And.intro ?_ ?_) | intro _))
 all_goals (try simp (disch:=omega) only[w64,wu8,tn0,tn1,tm1,tm2,Yab,Yad,Yai]at*)
 all_goals (try simp (disch:=omega) only[w64,wu8,tn0,tn1,tm1,tm2,Yab,Yad,Yai]at*)
 all_goals (try omega)
 all_goals (try grind[X4d,X0R])
 all_goals (unfold X4d;rw[Yah (X0R.2 (by omega))])
def X5q.e:GE:=mE Xch func120 [9] [X4W.e,X6O.e] [] noL (λi x=>X5q.F x) λi x h _ hw=>X5q.p x h hw
def XcI:Con:=cQ .str [.one] .str [(false,1)] (λ_=>True) λa=>(X4d a)
def X5r.F(a0:U7q):Prop:=True/\∀r1,Eq r1 (fIn (ln a0) 1 2000,(),())->X00 (!r1.1) (Eq ([],(),()) (X4d a0,(),())) (Xbg (ln a0) 4/\∀r2,Eq r2 (X18 (ln a0) 4,(),())->List.length r2.1+List.length a0<=9223372036854775807/\Xrk (r2.1++a0)/\∀r3,Eq r3 (XjL (r2.1++a0),(),())->Xbg r3.1 4/\∀r4,Eq r4 (X18 r3.1 4,(),())->List.length r2.1+List.length r4.1<=9223372036854775807/\List.length (r2.1++r4.1)+List.length a0<=9223372036854775807/\Eq (r2.1++r4.1++a0,(),()) (X4d a0,(),()))
theorem X5r.p(a0:U7q)(h:True)(hw:Wf XcI.A a0):X5r.F a0:=by
 delta X5r.F ln;have h1:=X4v a0.length 4;have h2:=X4v (XjL (X18 a0.length 4++a0)) 4;have h3:=Xkc (X18 a0.length 4++a0);simp only[Bs,B0,B1,Yaa,X01,Xbg,Xrk,maxLen,X0R,XjH]
 repeat' (with_reducible (first | (refine And.intro ?_ ?_) | intro _))
 all_goals (try simp (disch:=omega) only[w64,wu8,tn0,tn1,tm1,tm2,Yab,Yad,Yai]at*)
 all_goals (try simp (disch:=omega) only[w64,wu8,tn0,tn1,tm1,tm2,Yab,Yad,Yai]at*)
 all_goals (try omega)
 all_goals (try grind[X4d,X0R])
 all_goals (unfold X4d;rw[Yah (X0R.2 (by omega))])
def X5r.e:GE:=mE XcI func179 [9] [X0X.e,X4S.e,X6J.e] [] noL (λi x=>X5r.F x) λi x h _ hw=>X5r.p x h hw
def Xhh(n:Int):Int:=if fIn n (-140737488355328) 140737488355328 then(if n<0 then -2*n - 1 else 2*n) else -1
def Xnz(n:Int):List UInt8:=X28 (Xhh n)
def Xeq(l:List Int)(i:Nat):Bool:=fIn (l.getD i 0) 0 1099511627776&&(decide (i=0)||decide (l.getD (i - 1) 0<l.getD i 0))
def Xd0(l:List Int):Bool:=fIn l.length 1 60&&XhU (Xeq l) l.length
def Xbv(l:List Int)(i:Nat):Bool:=fIn (l.getD i 0) (-1099511627776) 1099511627776
def Xdv(l:List Int):Bool:=fIn l.length 1 60&&XhU (Xbv l) l.length
theorem XiB{p:Nat->Bool}{n:Nat}:XhU p n=true↔∀j,j<n->p j=true:=by simp[XhU]
theorem X6q{l:List Int}:Xd0 l=true↔(1<=l.length/\l.length<=60)/\∀j,j<l.length->Xeq l j=true:=by
 simp only[Xd0,Yac,X0R,XiB];exact⟨λh=>⟨by omega,h.2⟩,λh=>⟨by omega,h.2⟩⟩
theorem X72{l:List Int}:Xdv l=true↔(1<=l.length/\l.length<=60)/\∀j,j<l.length->Xbv l j=true:=by
 simp only[Xdv,Yac,X0R,XiB];exact⟨λh=>⟨by omega,h.2⟩,λh=>⟨by omega,h.2⟩⟩
theorem XbN{l:List Int}{i:Nat}:Xeq l i=true↔(0<=l.getD i 0/\l.getD i 0<=1099511627776)/\(i=0\/l.getD (i - 1) 0<l.getD i 0):=by
 simp[Xeq,fIn]
theorem XgA{l:List Int}{i:Nat}:Xbv l i=true↔-1099511627776<=l.getD i 0/\l.getD i 0<=1099511627776:=by simp[Xbv,fIn]
def scI(p:List Int->Nat->Bool)(l:List Int)(i:Int):Prop:=0<=i/\i<=l.length/\l.length<=60/\1<=l.length/\∀j,j<i.toNat->p l j=true
def scM(l:List Int)(i:Int):Nat:=(l.length - i).toNat
def XfX(l:List Int)(i:Nat):List UInt8:=if i=0 then X28 (l.getD 0 0) else if i=1 then X28 (l.getD 1 0 - l.getD 0 0) else X28 (Xhh (l.getD i 0 - l.getD (i - 1) 0 - (l.getD (i - 1) 0 - l.getD (i - 2) 0)))
def tmS(l:List Int):Nat->List UInt8
 | 0=>[]
 | i+1=>tmS l i++XfX l i
theorem Xph(l:List Int)(i:Nat):tmS l (i+1)=tmS l i++XfX l i:=rfl
def X0u(l:List Int):List UInt8:=if Xd0 l then tmS l l.length else []
def Xkj(l:List Int)(i:Nat):List UInt8:=X28 (Xhh (l.getD i 0 - (if i=0 then 0 else l.getD (i - 1) 0)))
def vlS(l:List Int):Nat->List UInt8
 | 0=>[]
 | i+1=>vlS l i++Xkj l i
theorem XpV(l:List Int)(i:Nat):vlS l (i+1)=vlS l i++Xkj l i:=rfl
def X0q(l:List Int):List UInt8:=if Xdv l then vlS l l.length else []
theorem XcG(n:Int):(X28 n).length<=7:=X0x n
theorem XkT(l:List Int):∀i,(tmS l i).length<=7*i
 | 0=>by simp[tmS]
 | i+1=>by
   have h:=XkT l i;have h1:(XfX l i).length<=7:=by
    unfold XfX;split
    . exact X0x _
    . split<;>exact X0x _
   rw[Xph,Yab];omega
theorem XkR(l:List Int):∀i,(vlS l i).length<=7*i
 | 0=>by simp[vlS]
 | i+1=>by
   have h:=XkR l i;have h1:(Xkj l i).length<=7:=X0x _;rw[XpV,Yab];omega
theorem Xac(l:List Int):(X0u l).length<=420:=by
 unfold X0u;split
 . rename_i h;have:=XkT l l.length;have:=(X6q.1 h).1;omega
 . simp
theorem X9U(l:List Int):(X0q l).length<=420:=by
 unfold X0q;split
 . rename_i h;have:=XkR l l.length;have:=(X72.1 h).1;omega
 . simp
def tmI(l:List Int)(s:List UInt8)(i:Int):Prop:=0<=i/\i<=l.length/\(∀j,j<i.toNat->Xeq l j=true)/\(1<=i->(0<=l.getD 0 0/\l.getD 0 0<=1099511627776)/\0<=l.getD (i.toNat - 1) 0/\l.getD (i.toNat - 1) 0<=1099511627776)/\(2<=i->0<=l.getD (i.toNat - 2) 0/\l.getD (i.toNat - 2) 0<=1099511627776)/\(s.length:Int)<=7*i/\s=tmS l i.toNat
def tmJ(l:List Int)(s:List UInt8)(i:Int):Prop:=1<=i/\Xd0 l=true/\(i<l.length->0<=l.getD i.toNat 0/\l.getD i.toNat 0<=1099511627776)/\tmI l s i
def tmM(l:List Int)(s:List UInt8)(i:Int):Nat:=(l.length - i).toNat
def vlI(l:List Int)(s:List UInt8)(last i:Int):Prop:=0<=i/\i<=l.length/\(∀j,j<i.toNat->Xbv l j=true)/\(-1099511627776<=last/\last<=1099511627776)/\last=(if i.toNat=0 then 0 else l.getD (i.toNat - 1) 0)/\(s.length:Int)<=7*i/\s=vlS l i.toNat
def vlJ(l:List Int)(s:List UInt8)(last i:Int):Prop:=Xdv l=true/\(i<l.length->-1099511627776<=l.getD i.toNat 0/\l.getD i.toNat 0<=1099511627776)/\vlI l s last i
def vlM(l:List Int)(s:List UInt8)(last i:Int):Nat:=(l.length - i).toNat
def Xjn(l:List Int):Prop:=l.length<=1099511627776
theorem n11(n:Nat):n+1 - 1=n:=rfl
theorem n12(n:Nat):n+1 - 2=n - 1:=rfl
theorem tn_0:Int.toNat 0=0:=rfl
theorem tn_1:Int.toNat 1=1:=rfl
theorem XgW{l:List Int}{i:Nat}(h:Xd0 l=true)(hi:i<l.length):0<=l.getD i 0/\l.getD i 0<=1099511627776:=(XbN.1 ((X6q.1 h).2 i hi)).1
theorem XoX{l:List Int}{i:Nat}(h:Xdv l=true)(hi:i<l.length):-1099511627776<=l.getD i 0/\l.getD i 0<=1099511627776:=XgA.1 ((X72.1 h).2 i hi)
def XbD:Con:=cQ (.int .i64) [.one] (.int .i64) [(false,1)] (λ_=>True) λa=>(Xhh a)
def X4m.F(a0:Int):Prop:=True/\∀r1,Eq r1 (fIn a0 (-140737488355328) 140737488355328,(),())->X00 (!r1.1) (Eq (-1,(),()) (Xhh a0,(),())) (X00 (decide (a0<(0:Int))) (Eq (wI (wI ((-2:Int)*a0) - (1:Int)),(),()) (Xhh a0,(),())) (Eq (wI ((2:Int)*a0),(),()) (Xhh a0,(),())))
theorem X4m.p(a0:Int)(h:True)(hw:Wf XbD.A a0):X4m.F a0:=by
 delta X4m.F wI;simp only[Bs,B0,B1,Yaa,X01,X0R,XjH]
 repeat' (with_reducible (first | (refine And.intro ?_ ?_) | intro _))
 all_goals (try simp (disch:=omega) only[w64,wu8,tn0,tn1,tm1,tm2,Yab,Yad,Yai]at*)
 all_goals (try simp (disch:=omega) only[w64,wu8,tn0,tn1,tm1,tm2,Yab,Yad,Yai]at*)
 all_goals (try omega)
 all_goals (try grind[Xhh,X0R])
def X4m.e:GE:=mE XbD func156 [3] [X26.e] [] noL (λi x=>X4m.F x) λi x h _ hw=>X4m.p x h hw
def Xbs:Con:=cQ (.int .i64) [.one] (.int .i64) [(false,1)] (λ_=>True) λa=>(Xhh a)
def X5f.F(a0:Int):Prop:=True/\∀r1,Eq r1 (fIn a0 0 140737488355328,(),())->X00 r1.1 (Eq (wI ((2:Int)*a0),(),()) (Xhh a0,(),())) (True/\∀r2,Eq r2 (fIn a0 (-140737488355328) (-1),(),())->X00 r2.1 (Eq (wI (wI ((-2:Int)*a0) - (1:Int)),(),()) (Xhh a0,(),())) (Eq (-1,(),()) (Xhh a0,(),())))
theorem X5f.p(a0:Int)(h:True)(hw:Wf Xbs.A a0):X5f.F a0:=by
 delta X5f.F wI;simp only[Bs,B0,B1,Yaa,X01,X0R,XjH]
 repeat' (with_reducible (first | (refine And.intro ?_ ?_) | intro _))
 all_goals (try simp (disch:=omega) only[w64,wu8,tn0,tn1,tm1,tm2,Yab,Yad,Yai]at*)
 all_goals (try simp (disch:=omega) only[w64,wu8,tn0,tn1,tm1,tm2,Yab,Yad,Yai]at*)
 all_goals (try omega)
 all_goals (try grind[Xhh,X0R])
def X5f.e:GE:=mE Xbs func221 [3] [X0X.e] [] noL (λi x=>X5f.F x) λi x h _ hw=>X5f.p x h hw
def Xfl:Con:=cQ (.int .i64) [.one] .str [(false,1)] (λ_=>True) λa=>(Xnz a)
def X81.F(a0:Int):Prop:=True/\∀r1,Eq r1 (Xhh a0,(),())->True/\∀r2,Eq r2 (X28 r1.1,(),())->Eq (r2.1,(),()) (Xnz a0,(),())
theorem X81.p(a0:Int)(h:True)(hw:Wf Xfl.A a0):X81.F a0:=by
 unfold X81.F;simp only[Bs,B0,B1,Yaa,X01]
 repeat' (with_reducible (first | (refine And.intro ?_ ?_) | intro _))
 all_goals (try simp (disch:=omega) only[w64,wu8,tn0,tn1,tm1,tm2,Yab,Yad,Yai]at*)
 all_goals (try simp (disch:=omega) only[w64,wu8,tn0,tn1,tm1,tm2,Yab,Yad,Yai]at*)
 all_goals (try omega)
 all_goals (try grind[Xnz])
def X81.e:GE:=mE Xfl func205 [9] [X5y.e,X5f.e] [] noL (λi x=>X81.F x) λi x h _ hw=>X81.p x h hw
def XbF:Con:=cQ XfJ [.one] .bool [(false,1)] (λ_=>True) λa=>(Xd0 a)
def X4n.F(a0:(List Int)):Prop:=True/\∀r1,rU r1 (fIn (ln a0) 1 60)->X00 (!r1.1) (rE false (Xd0 a0)) (eQ [(0,vL (.int .i64) a0)]/\scI Xeq a0 0/\∀(y2:Int),scI Xeq a0 y2->dC (y2<ln a0) (iB y2 a0 (True/\∀r3,rU r3 (fIn (gA a0 y2 0) 0 1099511627776)->X00 (!r3.1) (rE false (Xd0 a0)) (dC (y2>0) (iB (wI (y2 - 1)) a0 (iB y2 a0 (dC (gA a0 (wI (y2 - 1)) 0>=gA a0 y2 0) (rE false (Xd0 a0)) (eQ [(0,vL (.int .i64) a0)]/\scI Xeq a0 (wI (y2+1))/\scM a0 (wI (y2+1))<scM a0 y2)))) (eQ [(0,vL (.int .i64) a0)]/\scI Xeq a0 (wI (y2+1))/\scM a0 (wI (y2+1))<scM a0 y2)))) (rE true (Xd0 a0)))
def X4n.L(a0:(List Int)):Nat->Option X0f:=XLK [(58,⟨⟨[0],[3],[],[]⟩,(.int .i64),λst y=>scI Xeq a0 y,λst y=>scM a0 y⟩)]
theorem X4n.p(a0:(List Int))(h:True)(hw:Wf XbF.A a0):X4n.F a0:=by
 delta X4n.F ln wI dC eQ gA iB rE rU vL tN;have hw1:a0.length<=maxLen:=hw.1;unfold maxLen at hw1;simp only[Bs,B0,B1,Yaa,X01,scI,scM,X0R,XjH]
 repeat' (with_reducible (first | (refine And.intro ?_ ?_) | intro _))
 all_goals (try simp (disch:=omega) only[w64,wu8,tn0,tn1,tm1,tm2,Yab,Yad,Yai]at*)
 all_goals (try simp (disch:=omega) only[w64,wu8,tn0,tn1,tm1,tm2,Yab,Yad,Yai]at*)
 all_goals (try omega)
 all_goals (try grind[X6q,XbN])
def X4n.e:GE:=mE XbF func155 [4] [X26.e] [] (λi x=>X4n.L x) (λi x=>X4n.F x) λi x h _ hw=>X4n.p x h hw
def X9Y:Con:=cQ XfJ [.one] .bool [(false,1)] (λ_=>True) λa=>(Xdv a)
def X2T.F(a0:(List Int)):Prop:=True/\∀r1,rU r1 (fIn (ln a0) 1 60)->X00 (!r1.1) (rE false (Xdv a0)) (eQ [(0,vL (.int .i64) a0)]/\scI Xbv a0 0/\∀(y2:Int),scI Xbv a0 y2->dC (y2<ln a0) (iB y2 a0 (True/\∀r3,rU r3 (fIn (gA a0 y2 0) (-1099511627776) 1099511627776)->X00 (!r3.1) (rE false (Xdv a0)) (eQ [(0,vL (.int .i64) a0)]/\scI Xbv a0 (wI (y2+1))/\scM a0 (wI (y2+1))<scM a0 y2))) (rE true (Xdv a0)))
def X2T.L(a0:(List Int)):Nat->Option X0f:=XLK [(58,⟨⟨[0],[3],[],[]⟩,(.int .i64),λst y=>scI Xbv a0 y,λst y=>scM a0 y⟩)]
theorem X2T.p(a0:(List Int))(h:True)(hw:Wf X9Y.A a0):X2T.F a0:=by
 delta X2T.F ln wI dC eQ gA iB rE rU vL tN;have hw1:a0.length<=maxLen:=hw.1;unfold maxLen at hw1;simp only[Bs,B0,B1,Yaa,X01,scI,scM,X0R,XjH]
 repeat' (with_reducible (first | (refine And.intro ?_ ?_) | intro _))
 all_goals (try simp (disch:=omega) only[w64,wu8,tn0,tn1,tm1,tm2,Yab,Yad,Yai]at*)
 all_goals (try simp (disch:=omega) only[w64,wu8,tn0,tn1,tm1,tm2,Yab,Yad,Yai]at*)
 all_goals (try omega)
 all_goals (try grind[X72,XgA])
def X2T.e:GE:=mE X9Y func157 [4] [X26.e] [] (λi x=>X2T.L x) (λi x=>X2T.F x) λi x h _ hw=>X2T.p x h hw
def X8k:Con:=cQ XfJ [.one] .str [(false,1)] (λ_=>True) λa=>(X0u a)
def X22.F(a0:(List Int)):Prop:=True/\∀r1,rU r1 (Xd0 a0)->X00 (!r1.1) (rE [] (X0u a0)) (0<=(0:Int)/\0<ln a0/\True/\∀r2,rU r2 (X28 (gA a0 0 0))->eQ [(0,vL (.int .i64) a0)]/\tmJ a0 r2.1 1/\∀(y3:U7q×Int),tmJ a0 y3.1 y3.2->dC (y3.2<ln a0) (iB y3.2 a0 (iB (wI (y3.2 - 1)) a0 (X00 (y3.2==1) (True/\∀r4,rU r4 (X28 (wI (gA a0 y3.2 0 - gA a0 (wI (y3.2 - 1)) 0)))->lE y3.1 r4.1/\eQ [(0,vL (.int .i64) a0)]/\tmJ a0 (y3.1++r4.1) (wI (y3.2+1))/\tmM a0 (y3.1++r4.1) (wI (y3.2+1))<tmM a0 y3.1 y3.2) (iB (wI (y3.2 - 1)) a0 (iB (wI (y3.2 - 2)) a0 (True/\∀r5,rU r5 (Xhh (wI (wI (gA a0 y3.2 0 - gA a0 (wI (y3.2 - 1)) 0) - wI (gA a0 (wI (y3.2 - 1)) 0 - gA a0 (wI (y3.2 - 2)) 0))))->True/\∀r6,rU r6 (X28 r5.1)->lE y3.1 r6.1/\eQ [(0,vL (.int .i64) a0)]/\tmJ a0 (y3.1++r6.1) (wI (y3.2+1))/\tmM a0 (y3.1++r6.1) (wI (y3.2+1))<tmM a0 y3.1 y3.2)))))) (rE y3.1 (X0u a0)))
def X22.L(a0:(List Int)):Nat->Option X0f:=XLK [(122,⟨⟨[0],[3,4],[],[]⟩,Xrr,λst y=>tmJ a0 y.1 y.2,λst y=>tmM a0 y.1 y.2⟩)]
theorem X22.p(a0:(List Int))(h:True)(hw:Wf X8k.A a0):X22.F a0:=by
 delta X22.F ln wI dC eQ gA iB lE rE rU vL tN;have hw1:a0.length<=maxLen:=hw.1;unfold maxLen at hw1;simp only[Bs,B0,B1,Yaa,X01,tmJ,tmI,tmM]
 repeat' (with_reducible (first | (refine And.intro ?_ ?_) | intro _))
 all_goals (try simp (disch:=omega) only[w64,wu8,tn0,tn1,tm1,tm2,Yab,Yad,Yai,n11,n12,tn_0,tn_1]at*)
 all_goals (try simp (disch:=omega) only[w64,wu8,tn0,tn1,tm1,tm2,Yab,Yad,Yai,n11,n12,tn_0,tn_1]at*)
 all_goals (try omega)
 all_goals (try grind[X0u,XfX,tmS,X6q,XbN,XcG])
def X22.e:GE:=mE X8k func121 [9] [X5l.e,X4n.e,X4m.e] [] (λi x=>X22.L x) (λi x=>X22.F x) λi x h _ hw=>X22.p x h hw
def X88:Con:=cQ XfJ [.one] .str [(false,1)] (λa=>(Xjn a)) λa=>(X0u a)
def X1Z.F(a0:(List Int)):Prop:=eQ [(0,vL (.int .i64) a0),(6,vL (.int .i64) a0),(7,vI (ln a0))]/\tmI a0 [] 0/\∀(y1:U7q×Int),tmI a0 y1.1 y1.2->dC (y1.2<ln a0) (iB y1.2 a0 (True/\∀r2,rU r2 (fIn (gA a0 y1.2 0) 0 1099511627776)->X00 (!r2.1) (rE [] (X0u a0)) (dC (y1.2>0) (iB (wI (y1.2 - 1)) a0 (dC (gA a0 (wI (y1.2 - 1)) 0>=gA a0 y1.2 0) (rE [] (X0u a0)) (X00 (y1.2==0) (True/\∀r3,rU r3 (X28 (gA a0 y1.2 0))->lE y1.1 r3.1/\eQ [(0,vL (.int .i64) a0),(6,vL (.int .i64) a0),(7,vI (ln a0))]/\tmI a0 (y1.1++r3.1) (wI (y1.2+1))/\tmM a0 (y1.1++r3.1) (wI (y1.2+1))<tmM a0 y1.1 y1.2) (X00 (y1.2==1) (0<=(0:Int)/\0<ln a0/\True/\∀r4,rU r4 (X28 (wI (gA a0 y1.2 0 - gA a0 0 0)))->lE y1.1 r4.1/\eQ [(0,vL (.int .i64) a0),(6,vL (.int .i64) a0),(7,vI (ln a0))]/\tmI a0 (y1.1++r4.1) (wI (y1.2+1))/\tmM a0 (y1.1++r4.1) (wI (y1.2+1))<tmM a0 y1.1 y1.2) (iB (wI (y1.2 - 1)) a0 (iB (wI (y1.2 - 1)) a0 (iB (wI (y1.2 - 2)) a0 (True/\∀r5,rU r5 (Xnz (wI (wI (gA a0 y1.2 0 - gA a0 (wI (y1.2 - 1)) 0) - wI (gA a0 (wI (y1.2 - 1)) 0 - gA a0 (wI (y1.2 - 2)) 0))))->lE y1.1 r5.1/\eQ [(0,vL (.int .i64) a0),(6,vL (.int .i64) a0),(7,vI (ln a0))]/\tmI a0 (y1.1++r5.1) (wI (y1.2+1))/\tmM a0 (y1.1++r5.1) (wI (y1.2+1))<tmM a0 y1.1 y1.2)))))))) (X00 (y1.2==0) (True/\∀r6,rU r6 (X28 (gA a0 y1.2 0))->lE y1.1 r6.1/\eQ [(0,vL (.int .i64) a0),(6,vL (.int .i64) a0),(7,vI (ln a0))]/\tmI a0 (y1.1++r6.1) (wI (y1.2+1))/\tmM a0 (y1.1++r6.1) (wI (y1.2+1))<tmM a0 y1.1 y1.2) (X00 (y1.2==1) (0<=(0:Int)/\0<ln a0/\True/\∀r7,rU r7 (X28 (wI (gA a0 y1.2 0 - gA a0 0 0)))->lE y1.1 r7.1/\eQ [(0,vL (.int .i64) a0),(6,vL (.int .i64) a0),(7,vI (ln a0))]/\tmI a0 (y1.1++r7.1) (wI (y1.2+1))/\tmM a0 (y1.1++r7.1) (wI (y1.2+1))<tmM a0 y1.1 y1.2) (iB (wI (y1.2 - 1)) a0 (iB (wI (y1.2 - 1)) a0 (iB (wI (y1.2 - 2)) a0 (True/\∀r8,rU r8 (Xnz (wI (wI (gA a0 y1.2 0 - gA a0 (wI (y1.2 - 1)) 0) - wI (gA a0 (wI (y1.2 - 1)) 0 - gA a0 (wI (y1.2 - 2)) 0))))->lE y1.1 r8.1/\eQ [(0,vL (.int .i64) a0),(6,vL (.int .i64) a0),(7,vI (ln a0))]/\tmI a0 (y1.1++r8.1) (wI (y1.2+1))/\tmM a0 (y1.1++r8.1) (wI (y1.2+1))<tmM a0 y1.1 y1.2))))))))) (True/\∀r9,rU r9 (fIn (ln a0) 1 60)->X00 (!r9.1) (rE [] (X0u a0)) (rE y1.1 (X0u a0)))
def X1Z.L(a0:(List Int)):Nat->Option X0f:=XLK [(58,⟨⟨[0,6,7],[3,8],[],[]⟩,Xrr,λst y=>tmI a0 y.1 y.2,λst y=>tmM a0 y.1 y.2⟩)]
theorem X1Z.p(a0:(List Int))(h:(Xjn a0))(hw:Wf X88.A a0):X1Z.F a0:=by
 delta X1Z.F ln wI dC eQ gA iB lE rE rU vI vL tN;have hw1:a0.length<=maxLen:=hw.1;unfold maxLen at hw1;have hp:a0.length<=1099511627776:=h;simp only[Bs,B0,B1,Yaa,X01,tmI,tmM,Xnz,X0R,XjH]
 repeat' (with_reducible (first | (refine And.intro ?_ ?_) | intro _))
 all_goals (try simp (disch:=omega) only[w64,wu8,tn0,tn1,tm1,tm2,Yab,Yad,Yai,n11,n12,tn_0,tn_1]at*)
 all_goals (try simp (disch:=omega) only[w64,wu8,tn0,tn1,tm1,tm2,Yab,Yad,Yai,n11,n12,tn_0,tn_1]at*)
 all_goals (try omega)
 all_goals (try grind[X0u,XfX,tmS,X6q,XbN,XcG])
def X1Z.e:GE:=mE X88 func180 [9] [X0X.e,X5y.e,X81.e] [] (λi x=>X1Z.L x) (λi x=>X1Z.F x) λi x h _ hw=>X1Z.p x h hw
def X7n:Con:=cQ XfJ [.one] .str [(false,1)] (λ_=>True) λa=>(X0q a)
def X1t.F(a0:(List Int)):Prop:=True/\∀r1,rU r1 (Xdv a0)->X00 (!r1.1) (rE [] (X0q a0)) (eQ [(0,vL (.int .i64) a0)]/\vlJ a0 [] 0 0/\∀(y2:U7q×Int×Int),vlJ a0 y2.1 y2.2.1 y2.2.2->dC (y2.2.2<ln a0) (iB y2.2.2 a0 (True/\∀r3,rU r3 (Xhh (wI (gA a0 y2.2.2 0 - y2.2.1)))->True/\∀r4,rU r4 (X28 r3.1)->lE y2.1 r4.1/\iB y2.2.2 a0 (eQ [(0,vL (.int .i64) a0)]/\vlJ a0 (y2.1++r4.1) (gA a0 y2.2.2 0) (wI (y2.2.2+1))/\vlM a0 (y2.1++r4.1) (gA a0 y2.2.2 0) (wI (y2.2.2+1))<vlM a0 y2.1 y2.2.1 y2.2.2))) (rE y2.1 (X0q a0)))
def X1t.L(a0:(List Int)):Nat->Option X0f:=XLK [(250,⟨⟨[0],[3,4,5],[],[]⟩,(.pair .str T0q),λst y=>vlJ a0 y.1 y.2.1 y.2.2,λst y=>vlM a0 y.1 y.2.1 y.2.2⟩)]
theorem X1t.p(a0:(List Int))(h:True)(hw:Wf X7n.A a0):X1t.F a0:=by
 delta X1t.F ln wI dC eQ gA iB lE rE rU vL tN;have hw1:a0.length<=maxLen:=hw.1;unfold maxLen at hw1;simp only[Bs,B0,B1,Yaa,X01,vlJ,vlI,vlM]
 repeat' (with_reducible (first | (refine And.intro ?_ ?_) | intro _))
 all_goals (try simp (disch:=omega) only[w64,wu8,tn0,tn1,tm1,tm2,Yab,Yad,Yai,n11]at*)
 all_goals (try simp (disch:=omega) only[w64,wu8,tn0,tn1,tm1,tm2,Yab,Yad,Yai,n11]at*)
 all_goals (try omega)
 all_goals (try grind[X0q,Xkj,vlS,X72,XgA,XcG])
def X1t.e:GE:=mE X7n func122 [9] [X5l.e,X4m.e,X2T.e] [] (λi x=>X1t.L x) (λi x=>X1t.F x) λi x h _ hw=>X1t.p x h hw
def X7v:Con:=cQ XfJ [.one] .str [(false,1)] (λa=>(Xjn a)) λa=>(X0q a)
def X1w.F(a0:(List Int)):Prop:=eQ [(0,vL (.int .i64) a0),(7,vL (.int .i64) a0),(8,vI (ln a0))]/\vlI a0 [] 0 0/\∀(y1:U7q×Int×Int),vlI a0 y1.1 y1.2.1 y1.2.2->dC (y1.2.2<ln a0) (iB y1.2.2 a0 (True/\∀r2,rU r2 (fIn (gA a0 y1.2.2 0) (-1099511627776) 1099511627776)->X00 (!r2.1) (rE [] (X0q a0)) (True/\∀r3,rU r3 (Xnz (wI (gA a0 y1.2.2 0 - y1.2.1)))->lE y1.1 r3.1/\eQ [(0,vL (.int .i64) a0),(7,vL (.int .i64) a0),(8,vI (ln a0))]/\vlI a0 (y1.1++r3.1) (gA a0 y1.2.2 0) (wI (y1.2.2+1))/\vlM a0 (y1.1++r3.1) (gA a0 y1.2.2 0) (wI (y1.2.2+1))<vlM a0 y1.1 y1.2.1 y1.2.2))) (True/\∀r4,rU r4 (fIn (ln a0) 1 60)->X00 (!r4.1) (rE [] (X0q a0)) (rE y1.1 (X0q a0)))
def X1w.L(a0:(List Int)):Nat->Option X0f:=XLK [(122,⟨⟨[0,7,8],[3,4,9],[],[]⟩,(.pair .str T0q),λst y=>vlI a0 y.1 y.2.1 y.2.2,λst y=>vlM a0 y.1 y.2.1 y.2.2⟩)]
theorem X1w.p(a0:(List Int))(h:(Xjn a0))(hw:Wf X7v.A a0):X1w.F a0:=by
 delta X1w.F ln wI dC eQ gA iB lE rE rU vI vL tN;have hw1:a0.length<=maxLen:=hw.1;unfold maxLen at hw1;have hp:a0.length<=1099511627776:=h;simp only[Bs,B0,B1,Yaa,X01,vlI,vlM,Xnz,X0R,XjH]
 repeat' (with_reducible (first | (refine And.intro ?_ ?_) | intro _))
 all_goals (try simp (disch:=omega) only[w64,wu8,tn0,tn1,tm1,tm2,Yab,Yad,Yai,n11]at*)
 all_goals (try simp (disch:=omega) only[w64,wu8,tn0,tn1,tm1,tm2,Yab,Yad,Yai,n11]at*)
 all_goals (try omega)
 all_goals (try grind[X0q,Xkj,vlS,X72,XgA,XcG])
def X1w.e:GE:=mE X7v func181 [9] [X0X.e,X81.e] [] (λi x=>X1w.L x) (λi x=>X1w.F x) λi x h _ hw=>X1w.p x h hw
def X04(l:List Pt):List UInt8:=if X0N l=true/\l≠[] then X4d (X28 l.length++X0u (l.map (·.1))++X0q (l.map (·.2))) else []
theorem Xaj{l:List Pt}(h:X0N l=true):l.length<=60:=by
 simp only[X0N,Yac,Yaj]at h;exact h.1
def sbI(l:List Pt)(i:Int)(t v:List Int):Prop:=0<=i/\i<=l.length/\l.length<=60/\l≠[]/\X0N l=true/\(t.length:Int)=i/\(v.length:Int)=i/\t=(l.take i.toNat).map (·.1)/\v=(l.take i.toNat).map (·.2)
def sbM(l:List Pt)(i:Int)(t v:List Int):Nat:=(l.length - i).toNat
theorem XgT{l:List Pt}{i:Nat}(h:i<l.length):(l.take (i+1)).map (·.1)=(l.take i).map (·.1)++[(l.getD i (0,0)).1]/\(l.take (i+1)).map (·.2)=(l.take i).map (·.2)++[(l.getD i (0,0)).2]:=by
 rw[X0M (0,0) h];simp
theorem XgX{l:List Pt}(h:X0N l=false):[]=X04 l:=by simp[X04,h]
def X89:Con:=cQ X7N [.one] .str [(false,1)] (λ_=>True) λa=>(X04 a)
def X1A.F(a0:U8q):Prop:=True/\∀r1,rU r1 (X0N a0)->X00 (!r1.1) (rE [] (X04 a0)) (X00 (ln a0==0) (rE [] (X04 a0)) (eQ [(0,vL T0q a0)]/\sbI a0 0 ([]:List Int) ([]:List Int)/\∀(y2:Int×List Int×List Int),sbI a0 y2.1 y2.2.1 y2.2.2->dC (y2.1<ln a0) (iB y2.1 a0 (lE y2.2.1 [(gA a0 y2.1 (0,0)).1]/\(List.length y2.2.1+List.length [(gA a0 y2.1 (0,0)).1])*8<=140737488355328/\iB y2.1 a0 (lE y2.2.2 [(gA a0 y2.1 (0,0)).2]/\(List.length y2.2.2+List.length [(gA a0 y2.1 (0,0)).2])*8<=140737488355328/\eQ [(0,vL T0q a0)]/\sbI a0 (wI (y2.1+1)) (y2.2.1++[(gA a0 y2.1 (0,0)).1]) (y2.2.2++[(gA a0 y2.1 (0,0)).2])/\sbM a0 (wI (y2.1+1)) (y2.2.1++[(gA a0 y2.1 (0,0)).1]) (y2.2.2++[(gA a0 y2.1 (0,0)).2])<sbM a0 y2.1 y2.2.1 y2.2.2))) (True/\∀r3,rU r3 (X28 (ln a0))->True/\∀r4,rU r4 (X0u y2.2.1)->lE r3.1 r4.1/\True/\∀r5,rU r5 (X0q y2.2.2)->lE (r3.1++r4.1) r5.1/\True/\∀r6,rU r6 (X4d (r3.1++r4.1++r5.1))->rE r6.1 (X04 a0))))
def X1A.L(a0:U8q):Nat->Option X0f:=XLK [(250,⟨⟨[0],[3,4,5],[],[kC 3 0 1000387 3,kC 4 0 1000515 3]⟩,(.pair (.int .i64) (.pair XfJ XfJ)),λst y=>sbI a0 y.1 y.2.1 y.2.2,λst y=>sbM a0 y.1 y.2.1 y.2.2⟩)]
theorem X1A.p(a0:U8q)(h:True):X1A.F a0:=by
 delta X1A.F ln wI dC eQ gA iB lE rE rU vL tN;simp only[Bs,B0,B1,Yaa,X01];refine⟨λh1=>XgX h1,λh1=>?_⟩;have h60:=Xaj h1;refine⟨λh2=>?_,λh2=>⟨⟨by omega,by omega,h60,λe=>by subst e;exact h2 rfl,h1,rfl,rfl,rfl,rfl⟩,?_⟩⟩
 . have:a0=[]:=YaL.1 (by omega);subst this;rfl
 rintro⟨i,t,v⟩ ⟨q1,q2,q3,q4,q5,q6,q7,q8,q9⟩;simp only at q1 q2 q3 q4 q5 q6 q7 q8 q9 ⊢;refine⟨λhi=>?_,λhi=>?_⟩
 . have hm:=XgT (l:=a0) (i:=i.toNat) (by omega);rw[w64 (x:=i+1) (by omega) (by omega)];have step:sbI a0 (i+1) (t++[(a0.getD i.toNat (0,0)).1]) (v++[(a0.getD i.toNat (0,0)).2]):=⟨by omega,by omega,q3,q4,q5,by simp;omega,by simp;omega,by rw[tn1 q1,hm.1,q8],by rw[tn1 q1,hm.2,q9]⟩
   have down:sbM a0 (i+1) (t++[(a0.getD i.toNat (0,0)).1]) (v++[(a0.getD i.toNat (0,0)).2])<sbM a0 i t v:=by unfold sbM;omega
   exact⟨q1,by omega,by omega,by omega,q1,by omega,by omega,by omega,step,down⟩
 . have e:i.toNat=a0.length:=by omega
   rw[e,Yat]at q8 q9;have l1:=X0x a0.length;have l2:=Xac t;have l3:=X9U v;have hp:v.length<=1099511627776:=by omega
   have hp2:t.length<=1099511627776:=by omega
   have hf:X4d (X28 a0.length++X0u t++X0q v)=X04 a0:=by
    unfold X04;rw[Yah ⟨q5,q4⟩,<-q8,<-q9]
   exact⟨by omega,by omega,hf⟩
def X1A.e:GE:=mE X89 func82 [9] [X1H.e,X5l.e,X5q.e,X22.e,X1t.e] [] (λi x=>X1A.L x) (λi x=>X1A.F x) λi x h _ _=>X1A.p x h
def X82:Con:=cQ X7N [.one] .str [(false,1)] (λ_=>True) λa=>(X04 a)
def X1z.F(a0:U8q):Prop:=True/\∀r1,rU r1 (X0N a0)->X00 (!r1.1) (rE [] (X04 a0)) (X00 (ln a0==0) (rE [] (X04 a0)) (eQ [(0,vL T0q a0),(17,vL T0q a0),(18,vI (ln a0))]/\sbI a0 0 ([]:List Int) ([]:List Int)/\∀(y2:Int×List Int×List Int),sbI a0 y2.1 y2.2.1 y2.2.2->dC (y2.1<ln a0) (iB y2.1 a0 (lE y2.2.1 [(gA a0 y2.1 (0,0)).1]/\(List.length y2.2.1+List.length [(gA a0 y2.1 (0,0)).1])*8<=140737488355328/\lE y2.2.2 [(gA a0 y2.1 (0,0)).2]/\(List.length y2.2.2+List.length [(gA a0 y2.1 (0,0)).2])*8<=140737488355328/\eQ [(0,vL T0q a0),(17,vL T0q a0),(18,vI (ln a0))]/\sbI a0 (wI (y2.1+1)) (y2.2.1++[(gA a0 y2.1 (0,0)).1]) (y2.2.2++[(gA a0 y2.1 (0,0)).2])/\sbM a0 (wI (y2.1+1)) (y2.2.1++[(gA a0 y2.1 (0,0)).1]) (y2.2.2++[(gA a0 y2.1 (0,0)).2])<sbM a0 y2.1 y2.2.1 y2.2.2)) (True/\∀r3,rU r3 (X28 (ln a0))->Xjn y2.2.1/\∀r4,rU r4 (X0u y2.2.1)->lE r3.1 r4.1/\Xjn y2.2.2/\∀r5,rU r5 (X0q y2.2.2)->lE (r3.1++r4.1) r5.1/\True/\∀r6,rU r6 (X4d (r3.1++r4.1++r5.1))->rE r6.1 (X04 a0))))
def X1z.L(a0:U8q):Nat->Option X0f:=XLK [(122,⟨⟨[0,17,18],[3,4,19],[],[kC 3 0 1000387 3,kC 4 0 1000515 3]⟩,(.pair (.int .i64) (.pair XfJ XfJ)),λst y=>sbI a0 y.1 y.2.1 y.2.2,λst y=>sbM a0 y.1 y.2.1 y.2.2⟩)]
theorem X1z.p(a0:U8q)(h:True):X1z.F a0:=by
 delta X1z.F ln wI dC eQ gA iB lE rE rU vI vL tN;simp only[Bs,B0,B1,Yaa,X01,Xjn];refine⟨λh1=>XgX h1,λh1=>?_⟩;have h60:=Xaj h1;refine⟨λh2=>?_,λh2=>⟨⟨by omega,by omega,h60,λe=>by subst e;exact h2 rfl,h1,rfl,rfl,rfl,rfl⟩,?_⟩⟩
 . have:a0=[]:=YaL.1 (by omega);subst this;rfl
 rintro⟨i,t,v⟩ ⟨q1,q2,q3,q4,q5,q6,q7,q8,q9⟩;simp only at q1 q2 q3 q4 q5 q6 q7 q8 q9 ⊢;refine⟨λhi=>?_,λhi=>?_⟩
 . have hm:=XgT (l:=a0) (i:=i.toNat) (by omega);rw[w64 (x:=i+1) (by omega) (by omega)];have step:sbI a0 (i+1) (t++[(a0.getD i.toNat (0,0)).1]) (v++[(a0.getD i.toNat (0,0)).2]):=⟨by omega,by omega,q3,q4,q5,by simp;omega,by simp;omega,by rw[tn1 q1,hm.1,q8],by rw[tn1 q1,hm.2,q9]⟩
   have down:sbM a0 (i+1) (t++[(a0.getD i.toNat (0,0)).1]) (v++[(a0.getD i.toNat (0,0)).2])<sbM a0 i t v:=by unfold sbM;omega
   exact⟨q1,by omega,by omega,by omega,by omega,by omega,step,down⟩
 . have e:i.toNat=a0.length:=by omega
   rw[e,Yat]at q8 q9;have l1:=X0x a0.length;have l2:=Xac t;have l3:=X9U v;have hp:v.length<=1099511627776:=by omega
   have hp2:t.length<=1099511627776:=by omega
   have hf:X4d (X28 a0.length++X0u t++X0q v)=X04 a0:=by
    unfold X04;rw[Yah ⟨q5,q4⟩,<-q8,<-q9]
   exact⟨hp2,by omega,hp,by omega,hf⟩
def X1z.e:GE:=mE X82 func142 [9] [X29.e,X5y.e,X5r.e,X1Z.e,X1w.e] [] (λi x=>X1z.L x) (λi x=>X1z.F x) λi x h _ _=>X1z.p x h
def X7L(s:Ser)(n:Nat):List UInt8:=X28 s.1.length++(s.1++(X28 n++(X28 (X04 s.2).length++(X28 (s.2.getD 0 (0,0)).1++X28 (s.2.getD (s.2.length - 1) (0,0)).1))))
def XrX(p:List UInt8×List UInt8)(s:Ser):List UInt8×List UInt8:=(p.1++X04 s.2,p.2++X7L s p.1.length)
def Xxe(l:List Ser):List UInt8×List UInt8:=l.foldl XrX ([116,115,98,49],[])
def XmD(p:List UInt8×List UInt8):List UInt8:=p.1++(p.2++X18 p.1.length 4)
def X0y(l:List Ser):List UInt8:=if X0Q l=true/\l≠[] then XmD (Xxe l)++X18 (XjL (XmD (Xxe l))) 4 else []
theorem X7J(l:List Pt):(X04 l).length<=2014:=by
 unfold X04;split
 . exact Xmh _
 . simp
theorem XjU{l:List Ser}(h:X0Q l=true):l.length<=5/\∀i,i<l.length->(l.getD i ([],[])).1.length<=8/\1<=(l.getD i ([],[])).1.length/\(l.getD i ([],[])).2.length≠0/\X0N (l.getD i ([],[])).2=true:=by
 simp only[X0Q,Yac,Yaj,XiB]at h;refine⟨h.1,λi hi=>?_⟩;have:=h.2 i hi;simp only[XnN,Yac,Yaj,X6U,X0R]at this;exact⟨by omega,by omega,this.2.2.1,this.2.2.2⟩
theorem Xkv{s:Ser}{n:Nat}(h:s.1.length<=8):(X7L s n).length<=43:=by
 have h1:=X0x s.1.length;have h2:=X0x n;have h3:=X0x (X04 s.2).length;have h4:=X0x (s.2.getD 0 (0,0)).1;have h5:=X0x (s.2.getD (s.2.length - 1) (0,0)).1;simp only[X7L,Yab];omega
structure ftI (l:List Ser) (t x:List UInt8) (i:Int):Prop where
 h1:0<=i
 h2:i<=l.length
 h3:X0Q l=true
 h4:l≠[]
 h5:(t,x)=Xxe (l.take i.toNat)
 h6:(t.length:Int)<=4+2014*i
 h7:(x.length:Int)<=43*i
def ftM(l:List Ser)(t x:List UInt8)(i:Int):Nat:=(l.length - i).toNat
theorem Xsw{l:List Ser}{t x t' x':List UInt8}{i:Int}(h:ftI l t x i)(hi:i<l.length)(ht:t'=t++X04 (l.getD i.toNat ([],[])).2)(hx:x'=x++X7L (l.getD i.toNat ([],[])) t.length):ftI l t' x' (i+1):=by
 obtain⟨h1,h2,h3,h4,h5,h6,h7⟩:=h;have hs:=(XjU h3).2 i.toNat (by omega);have b1:=X7J (l.getD i.toNat ([],[])).2;have b2:=Xkv (n:=t.length) hs.1;refine⟨by omega,by omega,h3,h4,?_,by rw[ht,Yab];omega,by rw[hx,Yab];omega⟩;rw[tn1 h1,X0M ([],[]) (by omega)];unfold Xxe at h5 ⊢;rw[YbH,<-h5,ht,hx];rfl
theorem XvE{l:List Ser}{t x:List UInt8}{i:Int}(h:ftI l t x i)(hi:¬i<l.length):(t++(x++X18 t.length 4))++X18 (XjL (t++(x++X18 t.length 4))) 4=X0y l:=by
 obtain⟨h1,h2,h3,h4,h5,h6,h7⟩:=h;have e:i.toNat=l.length:=by omega
 rw[e,Yat]at h5;unfold X0y;rw[Yah ⟨h3,h4⟩,<-h5];rfl
theorem XhO{l:List Ser}(h:X0Q l=false):[]=X0y l:=by simp[X0y,h]
theorem Xpq{l:List Ser}(h:X0Q l=true)(h2:l≠[]):ftI l [116,115,98,49] [] 0:=⟨by omega,by omega,h,h2,rfl,by simp,by simp⟩
def X9f:Con:=cQ X5C [.one] .str [(false,1)] (λa=>(X3C a)) λa=>(X0y a)
def X2b.F(a0:(List U3q)):Prop:=X3C a0/\∀r1,rU r1 (X0Q a0)->X00 (!r1.1) (rE [] (X0y a0)) (X00 (ln a0==0) (rE [] (X0y a0)) (eQ [(0,vL T5q a0)]/\ftI a0 [116,115,98,49] [] 0/\∀(y2:U7q×U7q×Int),ftI a0 y2.1 y2.2.1 y2.2.2->dC (y2.2.2<ln a0) (iB y2.2.2 a0 (True/\∀r3,rU r3 (X04 (gA a0 y2.2.2 ([],[])).2)->iB y2.2.2 a0 (True/\∀r4,rU r4 (X28 (ln (gA a0 y2.2.2 ([],[])).1))->lE y2.2.1 r4.1/\iB y2.2.2 a0 (lE (y2.2.1++r4.1) (gA a0 y2.2.2 ([],[])).1/\True/\∀r5,rU r5 (X28 (ln y2.1))->lE (y2.2.1++r4.1++(gA a0 y2.2.2 ([],[])).1) r5.1/\True/\∀r6,rU r6 (X28 (ln r3.1))->lE (y2.2.1++r4.1++(gA a0 y2.2.2 ([],[])).1++r5.1) r6.1/\0<=(0:Int)/\0<ln (gA a0 y2.2.2 ([],[])).2/\True/\∀r7,rU r7 (X28 (gA (gA a0 y2.2.2 ([],[])).2 0 (0,0)).1)->lE (y2.2.1++r4.1++(gA a0 y2.2.2 ([],[])).1++r5.1++r6.1) r7.1/\iB (wI (ln (gA a0 y2.2.2 ([],[])).2 - 1)) (gA a0 y2.2.2 ([],[])).2 (True/\∀r8,rU r8 (X28 (gA (gA a0 y2.2.2 ([],[])).2 (wI (ln (gA a0 y2.2.2 ([],[])).2 - 1)) (0,0)).1)->lE (y2.2.1++r4.1++(gA a0 y2.2.2 ([],[])).1++r5.1++r6.1++r7.1) r8.1/\lE y2.1 r3.1/\eQ [(0,vL T5q a0)]/\ftI a0 (y2.1++r3.1) (y2.2.1++r4.1++(gA a0 y2.2.2 ([],[])).1++r5.1++r6.1++r7.1++r8.1) (wI (y2.2.2+1))/\ftM a0 (y2.1++r3.1) (y2.2.1++r4.1++(gA a0 y2.2.2 ([],[])).1++r5.1++r6.1++r7.1++r8.1) (wI (y2.2.2+1))<ftM a0 y2.1 y2.2.1 y2.2.2))))) (lE y2.1 y2.2.1/\Xbg (ln y2.1) 4/\∀r9,rU r9 (X18 (ln y2.1) 4)->lE (y2.1++y2.2.1) r9.1/\Xrk (y2.1++y2.2.1++r9.1)/\∀r10,rU r10 (XjL (y2.1++y2.2.1++r9.1))->Xbg r10.1 4/\∀r11,rU r11 (X18 r10.1 4)->lE (y2.1++y2.2.1++r9.1) r11.1/\rE (y2.1++y2.2.1++r9.1++r11.1) (X0y a0))))
def X2b.L(a0:(List U3q)):Nat->Option X0f:=XLK [(250,⟨⟨[0],[3,4,5],[],[]⟩,(.pair .str Xrr),λst y=>ftI a0 y.1 y.2.1 y.2.2,λst y=>ftM a0 y.1 y.2.1 y.2.2⟩)]
theorem X2b.p(a0:(List U3q))(h:(X3C a0)):X2b.F a0:=by
 delta X2b.F ln wI dC eQ gA iB lE rE rU vL tN;have hk:X3C a0:=h;simp only[Bs,B0,B1,Yaa,X01,Xbg];refine⟨hk,λh1=>XhO h1,λh1=>⟨λh2=>?_,λh2=>⟨Xpq h1 (λe=>by subst e;exact h2 rfl),?_⟩⟩⟩
 . have:a0=[]:=YaL.1 (by omega);subst this;rfl
 rintro⟨t,x,i⟩ hI;simp only at hI ⊢;have q1:=hI.h1;have q2:=hI.h2;have q6:=hI.h6;have q7:=hI.h7;have hs0:=XjU hI.h3;refine⟨λhi=>?_,λhi=>?_⟩
 . have hs:=hs0.2 i.toNat (by omega);have st:∀t' x',t'=t++X04 (a0.getD i.toNat ([],[])).2->x'=x++X7L (a0.getD i.toNat ([],[])) t.length->ftI a0 t' x' (i+1):=λt' x'=>Xsw hI hi;have dn:∀t' x',ftM a0 t' x' (i+1)<ftM a0 t x i:=λt' x'=>by unfold ftM;omega
   unfold X7L at st;generalize a0.getD i.toNat ([],[])=s at*;have b1:=X7J s.2;have v1:=X0x s.1.length;have v2:=X0x t.length;have v3:=X0x (X04 s.2).length;have v4:=X0x (s.2.getD 0 (0,0)).1;have v5:=X0x (s.2.getD (s.2.length - 1) (0,0)).1;have v6:=Xaj hs.2.2.2;have e1:((s.2.length:Int) - 1).toNat=s.2.length - 1:=by omega
   have e0:(0:Int).toNat=0:=rfl;simp (disch:=omega) only[w64,e1,e0]
   repeat' (with_reducible (first | (refine And.intro ?_ ?_) | intro _))
   all_goals (first | omega | exact dn _ _ | (refine st _ _ ?_ ?_<;>simp only[Yam]) | skip)
 . have f1:=X4v t.length 4;have he:=XvE hI hi;have f2:=X4v (XjL (t++(x++X18 t.length 4))) 4;have c1:=Xkc (t++(x++X18 t.length 4));simp only[<-Yam]at he f2 c1 ⊢
   repeat' (with_reducible (first | (refine And.intro ?_ ?_) | intro _))
   all_goals (first | omega | exact he | (unfold Xrk maxLen;simp only[Yab];omega) | skip)
def X2b.e:GE:=mE X9f func125 [9] [X1J.e,X1A.e,X5l.e,X4W.e,X6O.e] [] (λi x=>X2b.L x) (λi x=>X2b.F x) λi x h _ _=>X2b.p x h
def X9S:Con:=cQ X5C [.one] .str [(false,1)] (λa=>(X3C a)) λa=>(X0y a)
def X2f.F(a0:(List U3q)):Prop:=X3C a0/\∀r1,rU r1 (X0Q a0)->X00 (!r1.1) (rE [] (X0y a0)) (X00 (ln a0==0) (rE [] (X0y a0)) (eQ [(16,vL T5q a0),(17,vI (ln a0))]/\ftI a0 [116,115,98,49] [] 0/\∀(y2:U7q×U7q×Int),ftI a0 y2.1 y2.2.1 y2.2.2->dC (y2.2.2<ln a0) (iB y2.2.2 a0 (True/\∀r3,rU r3 (X04 (gA a0 y2.2.2 ([],[])).2)->True/\∀r4,rU r4 (X28 (ln (gA a0 y2.2.2 ([],[])).1))->lE r4.1 (gA a0 y2.2.2 ([],[])).1/\True/\∀r5,rU r5 (X28 (ln y2.1))->lE (r4.1++(gA a0 y2.2.2 ([],[])).1) r5.1/\True/\∀r6,rU r6 (X28 (ln r3.1))->lE (r4.1++(gA a0 y2.2.2 ([],[])).1++r5.1) r6.1/\0<=(0:Int)/\0<ln (gA a0 y2.2.2 ([],[])).2/\True/\∀r7,rU r7 (X28 (gA (gA a0 y2.2.2 ([],[])).2 0 (0,0)).1)->lE (r4.1++(gA a0 y2.2.2 ([],[])).1++r5.1++r6.1) r7.1/\iB (wI (ln (gA a0 y2.2.2 ([],[])).2 - 1)) (gA a0 y2.2.2 ([],[])).2 (True/\∀r8,rU r8 (X28 (gA (gA a0 y2.2.2 ([],[])).2 (wI (ln (gA a0 y2.2.2 ([],[])).2 - 1)) (0,0)).1)->lE (r4.1++(gA a0 y2.2.2 ([],[])).1++r5.1++r6.1++r7.1) r8.1/\lE y2.2.1 (r4.1++(gA a0 y2.2.2 ([],[])).1++r5.1++r6.1++r7.1++r8.1)/\lE y2.1 r3.1/\eQ [(16,vL T5q a0),(17,vI (ln a0))]/\ftI a0 (y2.1++r3.1) (y2.2.1++(r4.1++(gA a0 y2.2.2 ([],[])).1++r5.1++r6.1++r7.1++r8.1)) (wI (y2.2.2+1))/\ftM a0 (y2.1++r3.1) (y2.2.1++(r4.1++(gA a0 y2.2.2 ([],[])).1++r5.1++r6.1++r7.1++r8.1)) (wI (y2.2.2+1))<ftM a0 y2.1 y2.2.1 y2.2.2))) (Xbg (ln y2.1) 4/\∀r9,rU r9 (X18 (ln y2.1) 4)->lE y2.2.1 r9.1/\lE y2.1 (y2.2.1++r9.1)/\Xrk (y2.1++(y2.2.1++r9.1))/\∀r10,rU r10 (XjL (y2.1++(y2.2.1++r9.1)))->Xbg r10.1 4/\∀r11,rU r11 (X18 r10.1 4)->lE (y2.1++(y2.2.1++r9.1)) r11.1/\rE (y2.1++(y2.2.1++r9.1)++r11.1) (X0y a0))))
def X2f.L(a0:(List U3q)):Nat->Option X0f:=XLK [(122,⟨⟨[16,17],[3,4,18],[],[]⟩,(.pair .str Xrr),λst y=>ftI a0 y.1 y.2.1 y.2.2,λst y=>ftM a0 y.1 y.2.1 y.2.2⟩)]
theorem X2f.p(a0:(List U3q))(h:(X3C a0)):X2f.F a0:=by
 delta X2f.F ln wI dC eQ gA iB lE rE rU vI vL tN;have hk:X3C a0:=h;simp only[Bs,B0,B1,Yaa,X01,Xbg];refine⟨hk,λh1=>XhO h1,λh1=>⟨λh2=>?_,λh2=>⟨Xpq h1 (λe=>by subst e;exact h2 rfl),?_⟩⟩⟩
 . have:a0=[]:=YaL.1 (by omega);subst this;rfl
 rintro⟨t,x,i⟩ hI;simp only at hI ⊢;have q1:=hI.h1;have q2:=hI.h2;have q6:=hI.h6;have q7:=hI.h7;have hs0:=XjU hI.h3;refine⟨λhi=>?_,λhi=>?_⟩
 . have hs:=hs0.2 i.toNat (by omega);have st:∀t' x',t'=t++X04 (a0.getD i.toNat ([],[])).2->x'=x++X7L (a0.getD i.toNat ([],[])) t.length->ftI a0 t' x' (i+1):=λt' x'=>Xsw hI hi;have dn:∀t' x',ftM a0 t' x' (i+1)<ftM a0 t x i:=λt' x'=>by unfold ftM;omega
   unfold X7L at st;generalize a0.getD i.toNat ([],[])=s at*;have b1:=X7J s.2;have v1:=X0x s.1.length;have v2:=X0x t.length;have v3:=X0x (X04 s.2).length;have v4:=X0x (s.2.getD 0 (0,0)).1;have v5:=X0x (s.2.getD (s.2.length - 1) (0,0)).1;have v6:=Xaj hs.2.2.2;have e1:((s.2.length:Int) - 1).toNat=s.2.length - 1:=by omega
   have e0:(0:Int).toNat=0:=rfl;simp (disch:=omega) only[w64,e1,e0]
   repeat' (with_reducible (first | (refine And.intro ?_ ?_) | intro _))
   all_goals (first | omega | exact dn _ _ | (refine st _ _ ?_ ?_<;>simp only[Yam]) | skip)
 . have f1:=X4v t.length 4;have he:=XvE hI hi;have f2:=X4v (XjL (t++(x++X18 t.length 4))) 4;have c1:=Xkc (t++(x++X18 t.length 4));simp only[<-Yam]at he f2 c1 ⊢
   repeat' (with_reducible (first | (refine And.intro ?_ ?_) | intro _))
   all_goals (first | omega | exact he | (unfold Xrk maxLen;simp only[Yab];omega) | skip)
def X2f.e:GE:=mE X9S func191 [9] [X2c.e,X1z.e,X5y.e,X4S.e,X6J.e] [] (λi x=>X2f.L x) (λi x=>X2f.F x) λi x h _ _=>X2f.p x h
def dec:List UInt8->Nat
 | []=>0
 | b::l=>b.toNat % 128+128*dec l
theorem XkM(l:List UInt8)(b:UInt8):dec (l++[b])=dec l+(b.toNat % 128)*128 ^ l.length:=by
 induction l with
 | nil=>simp[dec]
 | cons c l ih=>
   simp only[Ybc,dec,ih,Yad,Ydc];rw[Nat.mul_add];have:128*(b.toNat % 128*128 ^ l.length)=b.toNat % 128*(128 ^ l.length*128):=by rw[Nat.mul_comm 128,Nat.mul_assoc]
   omega
theorem XpL(l:List UInt8):dec l<128 ^ l.length:=by
 induction l with
 | nil=>simp[dec]
 | cons c l ih=>
   simp only[dec,Yad,Ydc];omega
theorem Xf6(a:Int)(l:List Int):X3A (a::l)=UInt8.ofNat a.toNat::X3A l:=rfl
theorem Xpt{n:Nat}{b:UInt8}(h:n<256):UInt8.ofNat n=b↔n=b.toNat:=by
 constructor
 . intro e;rw[<-e];simp[Ycl h]
 . intro e;rw[e];simp
def XeV(l:List UInt8):Prop:=X3A (vb (dec l))=l
theorem Xn4(b:UInt8):XeV [b]↔b.toNat<128:=by
 unfold XeV;have hb:=b.toNat_lt;rw[show dec [b]=b.toNat % 128 by simp[dec],Xce (by omega)];rw[Xf6];simp only[X3A,YaI,Ycr,Ybm,YaG];rw[Xpt (by omega)];omega
theorem Xls(b c:UInt8)(r:List UInt8):XeV (b::c::r)↔128<=b.toNat/\dec (c::r)≠0/\XeV (c::r):=by
 have hb:=b.toNat_lt;unfold XeV;rw[show dec (b::c::r)=b.toNat % 128+128*dec (c::r) from rfl];generalize hd:dec (c::r)=d;by_cases h0:d=0
 . subst h0;rw[Xce (by omega)];constructor
   . intro h;have:=Ybh List.length h;simp[X3A]at this
   . intro h;exact absurd rfl h.2.1
 . rw[Xlx (by omega),Xf6];have e1:(b.toNat % 128+128*d) / 128=d:=by omega
   have e2:(b.toNat % 128+128*d) % 128=b.toNat % 128:=by omega
   rw[e1,e2];simp only[Ycr,YaG];rw[Xpt (by omega)];constructor
   . rintro⟨h1,h2⟩;exact⟨by omega,h0,h2⟩
   . rintro⟨h1,_,h2⟩;exact⟨by omega,h2⟩
theorem Xev(x:UInt8):∀(pre:List UInt8),XeV (pre++[x])↔x.toNat<128/\(∀b∈pre,128<=b.toNat)/\(pre=[]\/x.toNat≠0)
 | []=>by simp[Xn4]
 | [b]=>by
   show XeV [b,x]↔_;rw[Xls,Xn4];have:dec [x]=x.toNat % 128:=by simp[dec]
   rw[this];simp;omega
 | b::c::r=>by
   show XeV (b::c::(r++[x]))↔_;rw[Xls];have ih:=Xev x (c::r);rw[show c::(r++[x])=(c::r)++[x] from rfl,ih];have hd:x.toNat<128->x.toNat≠0->dec ((c::r)++[x])≠0:=by
    intro h1 h2;rw[XkM];have:0<x.toNat % 128*128 ^ (c::r).length:=Nat.mul_pos (by omega) (Nat.pow_pos (by omega));omega
   simp;constructor
   . rintro⟨h1,h2,h3,⟨h4,h5⟩,h6⟩;exact⟨h3,⟨h1,h4,h5⟩,h6⟩
   . rintro⟨h3,⟨h1,h4,h5⟩,h6⟩;exact⟨h1,hd h3 h6,h3,⟨h4,h5⟩,h6⟩
instance (l:List UInt8):Decidable (XeV l):=inferInstanceAs (Decidable (X3A (vb (dec l))=l))
def Xkr(s:List UInt8)(k:Nat):Bool:=decide (k<=s.length)&&decide (XeV (s.take k))
def X0k(s:List UInt8):Int×Int:=match (List.range 7).find? (λj=>Xkr s (j+1)) with
 | some j=>((dec (s.take (j+1)):Int),(j:Int)+1)
 | none=>(0,0)
theorem Xcu{s:List UInt8}{j:Nat}(hj:j<7)(h:Xkr s (j+1)=true)(hn:∀i,i<j->Xkr s (i+1)=false):X0k s=((dec (s.take (j+1)):Int),(j:Int)+1):=by
 unfold X0k;rw[(List.find?_range_eq_some (p:=λj=>Xkr s (j+1))).2 ⟨h,by simpa using hj,λi hi=>by simp[hn i hi]⟩]
theorem Xb5{s:List UInt8}(hn:∀i,i<7->Xkr s (i+1)=false):X0k s=(0,0):=by
 unfold X0k;rw[List.find?_eq_none.2 λi hi=>by simp[hn i (by simpa using hi)]]
theorem XpD{l:List UInt8}(h:l.length<=7):X28 (dec l:Int)=X3A (vb (dec l)):=by
 have:=XpL l;have h2:128 ^ l.length<=128 ^ 7:=Yck (by omega) h;unfold X28;rw[Yah (by simp[fIn];omega)];simp
theorem Xqp{s:List UInt8}{i k:Nat}(hi:i<s.length)(hb:(s.getD i 0).toNat<128)(hik:i+1<k):Xkr s k=false:=by
 unfold Xkr;cases hk:decide (k<=s.length) with
 | false=>rfl
 | true=>
   simp only[YaQ,Yaw];have hk':k<=s.length:=by simpa using hk
   intro hc;have e:s.take k=s.take (k - 1)++[s.getD (k - 1) 0]:=by
    rw[show k=(k - 1)+1 by omega,Yb6 (by omega)];simp[Yar,Yax (show k - 1<s.length by omega)]
   rw[e,Xev]at hc;have:=hc.2.1 (s.getD i 0) (by
    rw[Yar,Yax hi];simp only[Option.getD_some];exact List.mem_take_iff_getElem.2 ⟨i,by omega,rfl⟩)
   omega
theorem XnC{s:List UInt8}{i:Nat}(hi:i<s.length)(hb:128<=(s.getD i 0).toNat):Xkr s (i+1)=false:=by
 unfold Xkr;simp only[Yc6,Yaw];right;have e:s.take (i+1)=s.take i++[s.getD i 0]:=by
  rw[Yb6 hi];simp[Yar,Yax hi]
 rw[e,Xev];omega
theorem XcP{s:List UInt8}{i:Nat}(hi:i<s.length):s.take (i+1)=s.take i++[s.getD i 0]:=by
 rw[Yb6 hi];simp[Yar,Yax hi]
theorem XnB{s:List UInt8}{k:Nat}(h:s.length<k):Xkr s k=false:=by
 unfold Xkr;simp;omega
theorem X4t(s:List UInt8):0<=(X0k s).1/\(X0k s).1<=562949953421311/\0<=(X0k s).2/\(X0k s).2<=s.length/\(X0k s).2<=7:=by
 unfold X0k;split
 . rename_i j hj;obtain⟨h1,h2,_⟩:=List.find?_range_eq_some.1 hj;have h3:j<7:=by simpa using h2
   simp only[Xkr,Yac,Yaj]at h1;have:=XpL (s.take (j+1));have h4:128 ^ (s.take (j+1)).length<=128 ^ 7:=Yck (by omega) (by simp;omega);simp only;omega
 . simp
def rvO(s:List UInt8)(k:Int):Prop:=1<=k/\k<=8/\∀i:Nat,(i:Int)+1<k->Xkr s (i+1)=false
def rvOm(s:List UInt8)(k:Int):Nat:=(8 - k).toNat
def rvI(s:List UInt8)(k n i:Int):Prop:=-1<=i/\i<k/\1<=k/\k<=7/\k<=(s.length:Int)/\n=((dec ((s.take k.toNat).drop (i+1).toNat):Nat):Int)
def rvIm(s:List UInt8)(k n i:Int):Nat:=(i+1).toNat
theorem Xjm(l:List UInt8)(k:Nat)(h:l.length<=7):dec (l.drop k)<128 ^ 7:=
 Ybe (XpL _) (Yck (by omega) (by simp;omega))
def XaQ:Con:=cQ .str [.one] T0q [(false,1),(false,1)] (λ_=>True) λa=>(X0k a)
def X2D.F(a0:U7q):Prop:=eQ [(0,vS a0)]/\rvO a0 1/\∀(y1:Int),rvO a0 y1->dC (y1<=7) (dC (y1<=ln a0) (eQ [(0,vS a0),(4,vI y1),(10,vI y1),(11,vS a0),(12,vI (ln a0)),(13,.val false [.bool (decide (y1<=ln a0))])]/\rvI a0 y1 0 (wI (y1 - 1))/\∀(y2:Int×Int),rvI a0 y1 y2.1 y2.2->dC (y2.2>=0) (iB y2.2 a0 ((128:Int)≠0/\eQ [(0,vS a0),(4,vI y1),(10,vI y1),(11,vS a0),(12,vI (ln a0)),(13,.val false [.bool (decide (y1<=ln a0))])]/\rvI a0 y1 (wI (wI (y2.1*128)+Int.tmod (wI ((UInt8.toNat (gA a0 y2.2 0):Nat):Int)) (128:Int))) (wI (y2.2 - 1))/\rvIm a0 y1 (wI (wI (y2.1*128)+Int.tmod (wI ((UInt8.toNat (gA a0 y2.2 0):Nat):Int)) (128:Int))) (wI (y2.2 - 1))<rvIm a0 y1 y2.1 y2.2)) (True/\∀r3,rU r3 (X28 y2.1)->0<=y1/\y1<=ln a0/\X00 (r3.1==List.take (tN y1) a0) (rE (y2.1,y1) (X0k a0)) (eQ [(0,vS a0)]/\rvO a0 (wI (y1+1))/\rvOm a0 (wI (y1+1))<rvOm a0 y1))) (rE (0,0) (X0k a0))) (rE (0,0) (X0k a0))
def X2D.L(a0:U7q):Nat->Option X0f:=XLK [(26,⟨⟨[0],[4],[],[]⟩,(.int .i64),λst y=>rvO a0 y,λst y=>rvOm a0 y⟩),(6730,⟨⟨[0,4,10,11,12,13],[5,6],[],[]⟩,T0q,λst y=>rvI a0 (Xvd (Xi2 st 4 0)) y.1 y.2,λst y=>rvIm a0 (Xvd (Xi2 st 4 0)) y.1 y.2⟩)]
theorem X2D.p(a0:U7q)(h:True):X2D.F a0:=by
 delta X2D.F ln tN wI dC eQ gA iB rE rU vI vS;simp only[YbN,Ybw,Ybm,X01,Yaa,Yaj,Yaw];refine⟨⟨by omega,by omega,λi hi=>by omega⟩,λk hk=>?_⟩;obtain⟨hk1,hk8,hno⟩:=hk;refine⟨λh7=>⟨λhl=>⟨?_,λy hy=>?_⟩,λhl=>?_⟩,λh7=>?_⟩
 . rw[Yau _ (by omega)];refine⟨by omega,by omega,by omega,by omega,by omega,?_⟩;rw[show(k - 1+1).toNat=k.toNat by omega,List.drop_eq_nil_of_le (by simp;omega)];rfl
 . obtain⟨n,i⟩:=y;obtain⟨h1,h2,h3,h4,h5,h6⟩:=hy;simp only at h1 h2 h6 ⊢;have hb:=Xjm (a0.take k.toNat) (i+1).toNat (by simp;omega);refine⟨λh0=>⟨by omega,by omega,by omega,?_,?_⟩,λh0=>?_⟩
   . have hx:=(a0.getD i.toNat 0).toNat_lt;have e1:IntKind.wrap .i64 (((a0.getD i.toNat 0).toNat:Nat):Int)=(((a0.getD i.toNat 0).toNat:Nat):Int):=Yau _ (by omega);have hcons:(a0.take k.toNat).drop i.toNat=a0.getD i.toNat 0::(a0.take k.toNat).drop (i+1).toNat:=by
      rw[show(i+1).toNat=i.toNat+1 by omega,YbD (by simp;omega)];simp[Yar,Yax (show i.toNat<a0.length by omega)]
     have hb2:=Xjm (a0.take k.toNat) i.toNat (by simp;omega);have hdec:dec ((a0.take k.toNat).drop i.toNat)=(a0.getD i.toNat 0).toNat % 128+128*dec ((a0.take k.toNat).drop (i+1).toNat):=by rw[hcons];rfl
     have e2:Int.tmod (((a0.getD i.toNat 0).toNat:Nat):Int) 128=(((a0.getD i.toNat 0).toNat:Nat):Int) % 128:=YaA (by omega);rw[e1,e2,Yau (n*128) (by omega),Yau (n*128+_) (by omega),Yau (i - 1) (by omega)];refine⟨by omega,by omega,h3,h4,h5,?_⟩;rw[show(i - 1+1).toNat=i.toNat by omega,hdec];omega
   . rw[Yau (i - 1) (by omega)];show(i - 1+1).toNat<(i+1).toNat;omega
   . have hi:i= -1:=by omega
     subst hi;have e0:((-1:Int)+1).toNat=0:=rfl;rw[e0,YbK]at h6;have hv:X28 n=X3A (vb (dec (a0.take k.toNat))):=by rw[h6];exact XpD (by simp;omega)
     have hok:Xkr a0 k.toNat=(X28 n==a0.take k.toNat):=by
      have hlk:decide (k.toNat<=a0.length)=true:=by simp;omega
      unfold Xkr;rw[hlk,hv,YaQ];by_cases hc:XeV (a0.take k.toNat)
      . rw[Yaz hc];unfold XeV at hc;rw[hc];simp
      . rw[Yav hc];unfold XeV at hc;symm;simp[hc]
     refine⟨by omega,by omega,λhy=>?_,λhn=>⟨?_,?_⟩⟩
     . rw[hy]at hok;rw[Xcu (j:=k.toNat - 1) (by omega) (by rw[show k.toNat - 1+1=k.toNat by omega];exact hok) (λi hi=>hno i (by omega))];rw[show k.toNat - 1+1=k.toNat by omega,h6];simp only[Yaa,Ybw];omega
     . rw[Yau _ (by omega)];refine⟨by omega,by omega,λi hi=>?_⟩;by_cases he:(i:Int)+1<k
       . exact hno i he
       . rw[show i+1=k.toNat by omega,hok];exact hn
     . rw[Yau _ (by omega)];show(8 - (k+1)).toNat<(8 - k).toNat;omega
 . exact (Xb5 λi hi=>by
    by_cases he:(i:Int)+1<k
    . exact hno i he
    . exact XnB (by omega)).symm
 . exact(Xb5 λi hi=>hno i (by omega)).symm
def X2D.e:GE:=mE XaQ func116 [3,3] [X5l.e] [] (λi x=>X2D.L x) (λi x=>X2D.F x) λi x h _ _=>X2D.p x h
def rwI(s:List UInt8)(n i:Int):Prop:=0<=i/\i<=7/\i<=(s.length:Int)/\n=((dec (s.take i.toNat):Nat):Int)/\∀j:Nat,(j:Int)<i->128<=(s.getD j 0).toNat
def rwM(s:List UInt8)(n i:Int):Nat:=(8 - i).toNat
theorem Xwn(i:Nat):(2:Int) ^ (7*i)=((128 ^ i:Nat):Int):=by
 rw[Int.pow_mul];simp
theorem XiZ{s:List UInt8}{i:Nat}(hi:i<s.length)(hb:(s.getD i 0).toNat<128)(hp:∀j:Nat,j<i->128<=(s.getD j 0).toNat):Xkr s (i+1)=(decide (i=0)||decide ((s.getD i 0).toNat≠0)):=by
 unfold Xkr;rw[show decide (i+1<=s.length)=true by simp;omega,YaQ,XcP hi];have hpre:∀b∈s.take i,128<=b.toNat:=by
  intro b hm;obtain⟨j,hj,e⟩:=List.mem_take_iff_getElem.1 hm;have:=hp j (by omega);rw[Yar,Yax (by omega)]at this;rw[<-e];exact this
 have hnil:s.take i=[]↔i=0:=by
  constructor
  . intro e;have:=Ybh List.length e;simp at this;rcases this with h | h
    . exact h
    . rw[h]at hi;simp at hi
  . intro e;subst e;rfl
 have hiff:=Xev (s.getD i 0) (s.take i);by_cases hc:i=0\/(s.getD i 0).toNat≠0
 . have:XeV (s.take i++[s.getD i 0]):=hiff.2 ⟨hb,hpre,hc.imp hnil.2 id⟩;rw[Yaz this];rcases hc with h | h
   . rw[Yaz h,Ydp]
   . rw[Yaz h,Ycv]
 . have:¬XeV (s.take i++[s.getD i 0]):=λh=>hc ((hiff.1 h).2.2.imp hnil.1 id);rw[Yav this];have h1:¬i=0:=λh=>hc (.inl h);have h2:(s.getD i 0).toNat=0:=Ydl.1 λh=>hc (.inr h);rw[Yav h1,Yav (λh=>h h2)];rfl
def XaA:Con:=cQ .str [.one] T0q [(false,1),(false,1)] (λ_=>True) λa=>(X0k a)
def X30.F(a0:U7q):Prop:=eQ [(0,vS a0)]/\rwI a0 0 0/\∀(y1:Int×Int),rwI a0 y1.1 y1.2->dC (y1.2<7) (dC (y1.2<ln a0) (iB y1.2 a0 ((128:Int)≠0/\0<=wI (7*y1.2)/\iB y1.2 a0 (dC (((UInt8.toNat (gA a0 y1.2 0):Nat):Int)>=(128:Int)) (eQ [(0,vS a0)]/\rwI a0 (wI (y1.1+wI (wI (Int.tmod ((UInt8.toNat (gA a0 y1.2 0):Nat):Int) (128:Int))*2^min (tN (wI (7*y1.2))) (IntKind.bits .i64)))) (wI (y1.2+1))/\rwM a0 (wI (y1.1+wI (wI (Int.tmod ((UInt8.toNat (gA a0 y1.2 0):Nat):Int) (128:Int))*2^min (tN (wI (7*y1.2))) (IntKind.bits .i64)))) (wI (y1.2+1))<rwM a0 y1.1 y1.2) (iB y1.2 a0 (X00 (((UInt8.toNat (gA a0 y1.2 0):Nat):Int)==(0:Int)) (dC (y1.2>0) (rE (0,0) (X0k a0)) (rE (wI (y1.1+wI (wI (Int.tmod ((UInt8.toNat (gA a0 y1.2 0):Nat):Int) (128:Int))*2^min (tN (wI (7*y1.2))) (IntKind.bits .i64))),wI (y1.2+1)) (X0k a0))) (rE (wI (y1.1+wI (wI (Int.tmod ((UInt8.toNat (gA a0 y1.2 0):Nat):Int) (128:Int))*2^min (tN (wI (7*y1.2))) (IntKind.bits .i64))),wI (y1.2+1)) (X0k a0))))))) (rE (0,0) (X0k a0))) (rE (0,0) (X0k a0))
def X30.L(a0:U7q):Nat->Option X0f:=XLK [(58,⟨⟨[0],[4,5],[],[]⟩,T0q,λst y=>rwI a0 y.1 y.2,λst y=>rwM a0 y.1 y.2⟩)]
theorem X30.p(a0:U7q)(h:True):X30.F a0:=by
 delta X30.F ln tN wI dC eQ gA iB rE vS;simp only[YbN,Ybw,Ybm,X01,Yaa,Yaj,Yaw,YbW,YbG];refine⟨⟨by omega,by omega,by omega,rfl,λj hj=>by omega⟩,λy hy=>?_⟩;obtain⟨n,i⟩:=y;obtain⟨h1,h2,h3,h4,h5⟩:=hy;simp only at h1 h2 h3 h4 h5 ⊢;have hlast:∀j:Nat,(j:Int)<i->Xkr a0 (j+1)=false:=λj hj=>XnC (by omega) (h5 j hj);refine⟨λh7=>⟨λhl=>?_,λhl=>?_⟩,λh7=>?_⟩
 . have hx:=(a0.getD i.toNat 0).toNat_lt;have e2:Int.tmod (((a0.getD i.toNat 0).toNat:Nat):Int) 128=(((a0.getD i.toNat 0).toNat % 128:Nat):Int):=by
    rw[YaA (by omega)];omega
   have e7:IntKind.wrap .i64 (7*i)=7*i:=Yau _ (by omega);have eb:IntKind.bits .i64=64:=rfl;have em:min (7*i).toNat 64=7*i.toNat:=by omega
   have hdl:=XpL (a0.take i.toNat);have htl:(a0.take i.toNat).length=i.toNat:=by simp;omega
   rw[htl]at hdl;have hpw:128 ^ i.toNat<=128 ^ 6:=Yck (by omega) (by omega);have hmul:(a0.getD i.toNat 0).toNat % 128*128 ^ i.toNat<=127*128 ^ 6:=Nat.mul_le_mul (by omega) hpw;have hdec:dec (a0.take (i.toNat+1))=dec (a0.take i.toNat)+(a0.getD i.toNat 0).toNat % 128*128 ^ i.toNat:=by
    rw[XcP (by omega),XkM,htl]
   have en:IntKind.wrap .i64 (n+IntKind.wrap .i64 (IntKind.wrap .i64 (((a0.getD i.toNat 0).toNat % 128:Nat):Int)*2 ^ (7*i.toNat)))=((dec (a0.take (i.toNat+1)):Nat):Int):=by
    rw[Xwn,Yau (((a0.getD i.toNat 0).toNat % 128:Nat):Int) (by omega),<-Int.natCast_mul,Yau (((a0.getD i.toNat 0).toNat % 128*128 ^ i.toNat:Nat):Int) (by omega),Yau _ (by omega),hdec];omega
   have ei:IntKind.wrap .i64 (i+1)=i+1:=Yau _ (by omega);simp only[e2,e7,eb,em,en,ei];refine⟨by omega,by omega,by omega,by omega,by omega,by omega,λhb=>⟨⟨by omega,by omega,by omega,?_,λj hj=>?_⟩,?_⟩,λhb=>⟨by omega,by omega,λhz=>⟨λhp=>?_,λhp=>?_⟩,λhz=>?_⟩⟩
   . rw[show(i+1).toNat=i.toNat+1 by omega]
   . by_cases he:(j:Int)<i
     . exact h5 j he
     . rw[show j=i.toNat by omega];omega
   . show(8 - (i+1)).toNat<(8 - i).toNat;omega
   . refine(Xb5 λk hk=>?_).symm;by_cases he:(k:Int)<i
     . exact hlast k he
     . by_cases he2:k=i.toNat
       . rw[he2,XiZ (by omega) (by omega) (λj hj=>h5 j (by omega)),Yav (by omega),Yav (by omega)];rfl
       . exact Xqp (i:=i.toNat) (by omega) (by omega) (by omega)
   . have:=Xcu (s:=a0) (j:=i.toNat) (by omega) (by rw[XiZ (by omega) (by omega) (λj hj=>h5 j (by omega)),Yaz (show i.toNat=0 by omega),Ydp]) (λk hk=>hlast k (by omega));rw[this];simp only[Yaa,Ybw];omega
   . have:=Xcu (s:=a0) (j:=i.toNat) (by omega) (by rw[XiZ (by omega) (by omega) (λj hj=>h5 j (by omega)),Yaz (show(a0.getD i.toNat 0).toNat≠0 by omega),Ycv]) (λk hk=>hlast k (by omega));rw[this];simp only[Yaa,Ybw];omega
 . refine(Xb5 λk hk=>?_).symm;by_cases he:(k:Int)<i
   . exact hlast k he
   . exact XnB (by omega)
 . exact(Xb5 λk hk=>hlast k (by omega)).symm
def X30.e:GE:=mE XaA func167 [3,3] [] [] (λi x=>X30.L x) (λi x=>X30.F x) λi x h _ _=>X30.p x h
theorem Xsf:∀(k n:Nat),n<128 ^ (k+1)->dec (X3A (vb n))=n
 | 0,n,h=>by
   rw[Xce (by simpa using h)];have h':n<128:=by simpa using h
   simp only[X3A,Yas,YaI,dec];simp;omega
 | k+1,n,h=>by
   by_cases hn:n<128
   . exact Xsf 0 n (by simpa using hn)
   . rw[Xlx hn,Xf6];have h2:=Xsf k (n / 128) (by rw[Nat.div_lt_iff_lt_mul (by omega)];rw[Ydc]at h;exact h);simp only[dec];rw[h2];have:(UInt8.ofNat (((128+n % 128:Nat):Int)).toNat).toNat=128+n % 128:=by
      simp only[YaG,UInt8.toNat_ofNat'];omega
     rw[this];omega
def X6r(v:Int):Prop:=0<=v/\v<=562949953421311
theorem Xpa{v:Int}(h:X6r v):X28 v=X3A (vb v.toNat):=by
 unfold X28;rw[Yah];simp[fIn];exact h
theorem Xns{v:Int}(h:X6r v):dec (X28 v)=v.toNat:=by
 rw[Xpa h];exact Xsf 6 _ (by have:=h.2;omega)
theorem vb_ne(n:Nat):vb n≠[]:=by
 by_cases h:n<128
 . rw[Xce h];simp
 . rw[Xlx h];simp
theorem XbG{v:Int}(h:X6r v):0<(X28 v).length:=by
 rw[Xpa h];unfold X3A;rw[YcG];exact Ybj.2 (vb_ne _)
theorem Xlz{v:Int}(h:X6r v):XeV (X28 v):=by
 unfold XeV;rw[Xns h,<-Xpa h]
theorem Xqi{v:Int}(h:X6r v)(t:List UInt8):X0k (X28 v++t)=(v,((X28 v).length:Int)):=by
 have hp:=XbG h;have hl:=X0x v;have hc:=Xlz h;obtain⟨pre,x,he⟩:∃pre x,X28 v=pre++[x]:=⟨_,_,(List.dropLast_concat_getLast (Ybj.1 hp)).symm⟩
 rw[he]at hc;have hci:=(Xev x pre).1 hc;have hlen:(X28 v).length=pre.length+1:=by rw[he];simp
 have htake:(X28 v++t).take (pre.length+1)=X28 v:=by rw[<-hlen];simp
 have hv:=Xcu (s:=X28 v++t) (j:=pre.length) (by omega) (by
  unfold Xkr;rw[htake];simp only[Yac,Yaj];exact⟨by simp;omega,Xlz h⟩) (λi hi=>XnC (by simp;omega) (by
   have:(X28 v++t).getD i 0=pre[i]:=by
    rw[he,Yar,Yam,YbR (by omega),Yax (by omega)];rfl
   rw[this];exact hci.2.1 _ (Yc3 _)))
 rw[hv,htake,Xns h,hlen];have:=h.1;simp only[Yaa];omega
theorem XrY{s:List UInt8}(h:(X0k s).2≠0):s.take (X0k s).2.toNat=X28 (X0k s).1/\X6r (X0k s).1:=by
 have hb:=X4t s;refine⟨?_,hb.1,hb.2.1⟩;unfold X0k at h ⊢;cases hf:(List.range 7).find? (λj=>Xkr s (j+1)) with
 | none=>rw[hf]at h;exact absurd rfl h
 | some j=>
   have h1:=List.find?_some hf;have h2:=YbV.1 (List.mem_of_find?_eq_some hf);simp only[Xkr,Yac,Yaj]at h1;have e:((j:Int)+1).toNat=j+1:=by omega
   simp only[e];rw[XpD (by rw[Yal];omega)];exact h1.2.symm
def enc(vs:List Int):List UInt8:=vs.flatMap X28
theorem Xmg(v:Int)(vs:List Int):enc (v::vs)=X28 v++enc vs:=rfl
abbrev Rd:=List UInt8×Bool
def X6T(i:Rd):Int×Rd:=if i.2=true/\(X0k i.1).2>0 then((X0k i.1).1,(i.1.drop (X0k i.1).2.toNat,true)) else(0,(i.1,false))
def X9E:Con:={io:=true,I:=(.pair .str .bool),A:=.unit,shA:=[],R:=(.int .i64),shR:=[(false,1)],pre:=λi _=>True,f:=some λi a=>((X6T i).1,((X6T i).2,()))}
def X40.F(i0:(U7q×Bool)):Prop:=True/\∀r1,Eq r1 (X0k i0.1,(),())->X00 i0.2 (X00 (!decide (r1.1.2>(0:Int))) (Eq (0,(i0.1,decide (r1.1.2>(0:Int))),()) ((X6T i0).1,(X6T i0).2,())) (0<=r1.1.2/\r1.1.2<=ln i0.1/\Eq (r1.1.1,(List.drop (tN r1.1.2) i0.1,decide (r1.1.2>(0:Int))),()) ((X6T i0).1,(X6T i0).2,()))) (Eq (0,(i0.1,false),()) ((X6T i0).1,(X6T i0).2,()))
theorem X40.p(i0:(U7q×Bool))(h:True):X40.F i0:=by
 delta X40.F ln tN;simp only[YbN,Ybw,Ybm,X01,Yaa,Yaj,Yaw,YaS,Ybo];have hb:=X4t i0.1;refine⟨λh1=>⟨λh2=>?_,λh2=>⟨by omega,by omega,?_⟩⟩,λh1=>?_⟩
 . have:¬(i0.2=true/\(X0k i0.1).2>0):=λh=>h2 h.2;simp only[X6T,Yae this,Yav h2,and_self]
 . have h3:(X0k i0.1).2>0:=by
    by_cases h4:(X0k i0.1).2>0
    . exact h4
    . simp[h4]at h2
   simp only[X6T,Yah (And.intro h1 h3),Yaz h3,and_self]
 . have:¬(i0.2=true/\(X0k i0.1).2>0):=λh=>by rw[h1]at h;cases h.1
   simp only[X6T,Yae this,and_self]
def X40.e:GE:=mE X9E func190 [3] [X30.e] [] noL (λi x=>X40.F i) λi x h _ _=>X40.p i h
def Xpw(s:List UInt8):Nat->Int->List Int->List Int×Int
 | 0,p,out=>(out,p)
 | n+1,p,out=>if (X0k (s.drop p.toNat)).2=0 then(out,-1) else Xpw s n (p+(X0k (s.drop p.toNat)).2) (out++[(X0k (s.drop p.toNat)).1])
def X0W(s:List UInt8)(n:Int):List Int×Int:=Xpw s n.toNat 0 []
def p7(s:List UInt8)(n:Int):Prop:=s.length<=9223372036854775807/\0<=n/\n<=1000
def v7I(s:List UInt8)(n p i:Int)(out:List Int):Prop:=0<=i/\i<=n/\0<=p/\p<=s.length/\(out.length:Int)=i/\Xpw s (n - i).toNat p out=X0W s n
def v7M(s:List UInt8)(n p i:Int)(out:List Int):Nat:=(n - i).toNat
def XbC:Con:=cW Xrr [.one,.one] (.pair XfJ (.int .i64)) [(false,1),(false,1)] [(0,3)] (λa=>(p7 a.1 a.2)) λa=>(X0W a.1 a.2)
def X3n.F(a0:U7q)(a1:Int):Prop:=eQ [(0,vS a0),(1,vI a1)]/\v7I a0 a1 0 0 ([]:List Int)/\∀(y1:Int×Int×List Int),v7I a0 a1 y1.1 y1.2.1 y1.2.2->dC (y1.2.1<a1) (0<=y1.1/\y1.1<=ln a0/\True/\∀r2,rU r2 (X0k (List.drop (tN y1.1) a0))->X00 (r2.1.2==0) (rE (y1.2.2,-1) (X0W a0 a1)) (lE y1.2.2 [r2.1.1]/\(List.length y1.2.2+List.length [r2.1.1])*8<=140737488355328/\eQ [(0,vS a0),(1,vI a1)]/\v7I a0 a1 (wI (y1.1+r2.1.2)) (wI (y1.2.1+1)) (y1.2.2++[r2.1.1])/\v7M a0 a1 (wI (y1.1+r2.1.2)) (wI (y1.2.1+1)) (y1.2.2++[r2.1.1])<v7M a0 a1 y1.1 y1.2.1 y1.2.2)) (rE (y1.2.2,y1.1) (X0W a0 a1))
def X3n.L(a0:U7q)(a1:Int):Nat->Option X0f:=XLK [(122,⟨⟨[0,1],[6,7,8],[],[kC 6 0 1000771 3]⟩,(.pair (.int .i64) (.pair (.int .i64) XfJ)),λst y=>v7I a0 a1 y.1 y.2.1 y.2.2,λst y=>v7M a0 a1 y.1 y.2.1 y.2.2⟩)]
theorem X3n.p(a0:U7q)(a1:Int)(h:(p7 a0 a1)):X3n.F a0 a1:=by
 delta X3n.F ln tN wI dC eQ lE rE rU vI vS;obtain⟨q1,q2,q3⟩:=h;simp only[YbN,Ybw,Ybm,X01,Yaa,Yaj,Yaw,YaS,Ybo];refine⟨⟨by omega,by omega,by omega,by omega,rfl,by simp[X0W]⟩,?_⟩;rintro⟨p,i,out⟩ ⟨h1,h2,h3,h4,h5,h6⟩;simp only at h1 h2 h3 h4 h5 h6 ⊢;have hb:=X4t (a0.drop p.toNat);rw[Yap]at hb;refine⟨λhi=>⟨h3,h4,λhz=>?_,λhz=>?_⟩,λhi=>?_⟩
 . have e:(a1 - i).toNat=(a1 - i - 1).toNat+1:=by omega
   rw[e]at h6;have hz':(X0k (a0.drop p.toNat)).2=0:=by simpa using hz
   rw[Xpw,Yah hz']at h6;exact h6
 . have hz':¬(X0k (a0.drop p.toNat)).2=0:=by simpa using hz
   have e:(a1 - i).toNat=(a1 - (i+1)).toNat+1:=by omega
   rw[e,Xpw,Yae hz']at h6;have e1:IntKind.wrap .i64 (i+1)=i+1:=Yau _ (by omega);have e2:IntKind.wrap .i64 (p+(X0k (a0.drop p.toNat)).2)=p+(X0k (a0.drop p.toNat)).2:=Yau _ (by omega);rw[e1,e2];exact⟨by simp;omega,by simp;omega,⟨by omega,by omega,by omega,by omega,by simp;omega,h6⟩,by unfold v7M;omega⟩
 . have e:(a1 - i).toNat=0:=by omega
   rw[e,Xpw]at h6;exact h6
def X3n.e:GE:=mE XbC func151 [147,3] [X2D.e] [] (λi x=>X3n.L x.1 x.2) (λi x=>X3n.F x.1 x.2) λi x h _ _=>X3n.p x.1 x.2 h
def cat(W:Nat->Int):Nat->List UInt8
 | 0=>[]
 | i+1=>cat W i++X28 (W i)
theorem XmZ(W:Nat->Int){i:Nat}:∀{n:Nat},i<n->∃r,cat W n=cat W i++(X28 (W i)++r)
 | 0,h=>by omega
 | n+1,h=>by
   by_cases e:i=n
   . subst e;exact⟨[],by simp[cat]⟩
   . obtain⟨r,hr⟩:=XmZ W (i:=i) (n:=n) (by omega);exact⟨r++X28 (W n),by simp only[cat];rw[hr];simp[Yam]⟩
theorem Xg8{W:Nat->Int}(h:X6r (W 0)):∀n,0<n->0<(cat W n).length
 | 1,_=>by simp only[cat,YaV];exact XbG h
 | n+2,_=>by have:=Xg8 h (n+1) (by omega);simp only[cat,Yab]at this ⊢;omega
theorem Xpo{W:Nat->Int}{n i:Nat}{s:List UInt8}(hw:∀j,j<n->X6r (W j))(hs:s.take (cat W n).length=cat W n)(hi:i<n):
 X0k (s.drop (cat W i).length)=(W i,((X28 (W i)).length:Int))/\(s.drop (cat W i).length).drop (X28 (W i)).length=s.drop (cat W (i+1)).length:=by
 obtain⟨r,hr⟩:=XmZ W hi;have e:s=cat W i++(X28 (W i)++(r++s.drop (cat W n).length)):=by
  have:=YaJ (cat W n).length s;rw[hs]at this;rw[hr]at this;rw[hr]
  conv=>lhs;rw[<-this]
  simp[Yam]
 refine⟨?_,?_⟩
 . have e2:s.drop (cat W i).length=X28 (W i)++(r++s.drop (cat W n).length):=by
    conv=>lhs;rw[e]
    rw[Ya4]
   rw[e2,Xqi (hw i hi)]
 . rw[YaH]
   congr 1
   simp[cat]
def vals(W:Nat->Int)(n:Nat):List Int:=(List.range n).map W
theorem XsU(W:Nat->Int)(n:Nat):vals W (n+1)=vals W n++[W n]:=by simp[vals,List.range_succ]
theorem Xoa(W:Nat->Int)(n:Nat):(vals W n).length=n:=by simp[vals]
theorem XuF(W:Nat->Int){n i:Nat}(h:i<n):(vals W n).getD i 0=W i:=by
 rw[X0O (by rw[Xoa];exact h)];simp[vals]
theorem Xvk{W:Nat->Int}{n:Nat}{s:List UInt8}(hw:∀j,j<n->X6r (W j))(hs:s.take (cat W n).length=cat W n):∀(k i:Nat),i+k=n->Xpw s k ((cat W i).length:Int) (vals W i)=(vals W n,((cat W n).length:Int))
 | 0,i,h=>by
   have:i=n:=by omega
   subst this;rfl
 | k+1,i,h=>by
   obtain⟨h1,h2⟩:=Xpo hw hs (i:=i) (by omega);have hp:=XbG (hw i (by omega));rw[Xpw,YaG,h1];simp only;rw[Yae (by omega),<-XsU,show((cat W i).length:Int)+((X28 (W i)).length:Int)=((cat W (i+1)).length:Int) by simp[cat]];exact Xvk hw hs k (i+1) (by omega)
theorem XmM{W:Nat->Int}{n:Nat}{s:List UInt8}(hw:∀j,j<n->X6r (W j))(hs:s.take (cat W n).length=cat W n):X0W s n=(vals W n,((cat W n).length:Int)):=by
 unfold X0W;rw[YaG];exact Xvk hw hs n 0 (by omega)
theorem XsX{s:List UInt8}:∀(k:Nat) (p:Int) (out:List Int),0<=p->p<=s.length->(Xpw s k p out).2<0\/∃vs:List Int,(Xpw s k p out).1=out++vs/\vs.length=k/\(∀v∈vs,X6r v)/\(Xpw s k p out).2=p+((enc vs).length:Int)/\(s.drop p.toNat).take (enc vs).length=enc vs
 | 0,p,out,h,h'=>.inr ⟨[],by simp[Xpw],rfl,by simp,by simp[Xpw,enc],by simp[enc]⟩
 | k+1,p,out,h,h'=>by
   rw[Xpw];split
   . left;exact(by decide:(-1:Int)<0)
   . rename_i h0;obtain⟨q1,q2⟩:=XrY h0;have hb:=X4t (s.drop p.toNat);rw[Yap]at hb;rcases XsX (s:=s) k (p+(X0k (s.drop p.toNat)).2) (out++[(X0k (s.drop p.toNat)).1]) (by omega) (by omega) with h1 | ⟨vs,k1,k2,k3,k4,k5⟩
     . exact .inl h1
     . right;have hl:(X28 (X0k (s.drop p.toNat)).1).length=(X0k (s.drop p.toNat)).2.toNat:=by
        have q1':=Ybh List.length q1;rw[Yal,Yap]at q1';omega
       refine⟨(X0k (s.drop p.toNat)).1::vs,by rw[k1];simp,by simp[k2],λv hv=>?_,?_,?_⟩
       . rcases Yak.1 hv with e | hv
         . rw[e];exact q2
         . exact k3 v hv
       . rw[k4,Xmg,Yab,hl];omega
       . rw[Xmg,Yab,YcY,hl,q1,YaH]
         congr 1
         rw[show p.toNat+(X0k (s.drop p.toNat)).2.toNat=(p+(X0k (s.drop p.toNat)).2).toNat by omega];exact k5
theorem Xri{s:List UInt8}{n:Nat}(h:¬(X0W s n).2<0):(X0W s n).1.length=n/\(∀v∈(X0W s n).1,X6r v)/\(X0W s n).2=((enc (X0W s n).1).length:Int)/\s.take (enc (X0W s n).1).length=enc (X0W s n).1:=by
 unfold X0W at h ⊢;rw[YaG]at h ⊢;rcases XsX (s:=s) n 0 [] (by omega) (by omega) with h1 | ⟨vs,k1,k2,k3,k4,k5⟩
 . exact absurd h1 h
 . rw[YaV]at k1;rw[k1];refine⟨k2,k3,by rw[k4];omega,?_⟩;simpa using k5
def X5F(z:Int):Int×Bool:=if fIn z 0 281474976710656 then((if z % 2=1 then -(z+1) / 2 else z / 2),true) else(0,false)
theorem Xjc{d:Int}(h:fIn d (-140737488355328) 140737488355328=true):X5F (Xhh d)=(d,true):=by
 rw[X0R]at h;unfold Xhh;rw[Yah (X0R.2 h)];unfold X5F;split
 . rw[Yah (X0R.2 (by omega)),Yah (by omega)];simp only[Yaa,Ybm];omega
 . rw[Yah (X0R.2 (by omega)),Yae (by omega)];simp only[Yaa,Ybm];omega
theorem Xsl{d:Int}(h:fIn d (-140737488355328) 140737488355328=true):X6r (Xhh d):=by
 rw[X0R]at h;unfold Xhh X6r;rw[Yah (X0R.2 h)]
 split<;>omega
theorem Xn6(z:Int):-140737488355329<=(X5F z).1/\(X5F z).1<=140737488355328:=by
 unfold X5F;split
 . rename_i h;rw[X0R]at h;simp only;split<;>omega
 . simp
def Xih(i:Rd):Int×Rd:=((X5F (X6T i).1).1,((X6T i).2.1,(X6T i).2.2&&(X5F (X6T i).1).2))
theorem XpQ(i:Rd):0<=(X6T i).1/\(X6T i).1<=562949953421311:=by
 have:=X4t i.1;unfold X6T;split<;>simp<;>omega
def Xam(s t:List UInt8):Bool:=s.take t.length==t
def Xa8(s t:List UInt8):Int×Bool:=((t.length:Int),decide (t≠[])&&Xam s t)
def Xrs(z:Int):Int:=(X5F z).1
theorem Xt4(i:Rd):-140737488355329<=(Xih i).1/\(Xih i).1<=140737488355328:=Xn6 _
theorem Xwi{a:Int}(h:0<=a):Int.tdiv a 2=a / 2:=Yba h
theorem Xyo{a:Int}(h:0<=a)(h2:a % 2=0):Int.tdiv (0 - a) 2= -a / 2:=by
 rw[Int.zero_sub,Int.neg_tdiv,Xwi h];omega
theorem XyE{a:Int}(h:0<=a):Int.tmod a 2=a % 2:=YaA h
def Xcn:Con:=cQ (.int .i64) [.one] Xpe [(false,1),(false,1)] (λ_=>True) λa=>(X5F a)
def X5N.F(a0:Int):Prop:=X00 (decide (a0<(0:Int))) (Eq ((0,false),(),()) (X5F a0,(),())) (X00 (decide (a0>(281474976710656:Int))) (Eq ((0,false),(),()) (X5F a0,(),())) ((2:Int)≠0/\(2:Int)≠0/\X00 (Int.tmod a0 (2:Int)==(1:Int)) (True/\∀r1,Eq r1 (Xhh (wI (wI (0 - wI (Int.tdiv a0 (2:Int))) - (1:Int))),(),())->Eq ((wI (wI (0 - wI (Int.tdiv a0 (2:Int))) - (1:Int)),r1.1==a0),(),()) (X5F a0,(),())) (True/\∀r2,Eq r2 (Xhh (wI (Int.tdiv a0 (2:Int))),(),())->Eq ((wI (Int.tdiv a0 (2:Int)),r2.1==a0),(),()) (X5F a0,(),()))))
theorem X5N.p(a0:Int)(h:True):X5N.F a0:=by
 delta X5N.F wI;simp only[Bs,B0,B1,Yaa,X01];refine⟨λh1=>?_,λh1=>⟨λh2=>?_,λh2=>?_⟩⟩
 . unfold X5F;rw[Yae (by rw[X0R];omega)]
 . unfold X5F;rw[Yae (by rw[X0R];omega)]
 rw[XyE (by omega),Xwi (by omega),w64 (x:=a0 / 2) (by omega) (by omega),w64 (x:=0 - a0 / 2) (by omega) (by omega),w64 (x:=0 - a0 / 2 - 1) (by omega) (by omega)];have hp:fIn a0 0 281474976710656=true:=X0R.2 (by omega);refine⟨by omega,by omega,λh3=>?_,λh3=>?_⟩
 . unfold X5F Xhh;rw[Yah hp,Yah h3,Yah (X0R.2 (by omega)),Yah (by omega)];simp;omega
 . unfold X5F Xhh;rw[Yah hp,Yae h3,Yah (X0R.2 (by omega)),Yae (by omega)];simp;omega
def X5N.e:GE:=mE Xcn func187 [3,4] [X4m.e] [] noL (λi x=>X5N.F x) λi x h _ _=>X5N.p x h
def Xct:Con:=cQ (.int .i64) [.one] Xpe [(false,1),(false,1)] (λ_=>True) λa=>(X5F a)
def X5P.F(a0:Int):Prop:=True/\∀r1,Eq r1 (fIn a0 0 281474976710656,(),())->X00 (!r1.1) (Eq ((0,false),(),()) (X5F a0,(),())) ((2:Int)≠0/\X00 (Int.tmod a0 (2:Int)==(1:Int)) ((2:Int)≠0/\Eq ((wI (Int.tdiv (wI (0 - wI (a0+(1:Int)))) (2:Int)),true),(),()) (X5F a0,(),())) ((2:Int)≠0/\Eq ((wI (Int.tdiv a0 (2:Int)),true),(),()) (X5F a0,(),())))
theorem X5P.p(a0:Int)(h:True):X5P.F a0:=by
 delta X5P.F wI;simp only[Bs,B0,B1,Yaa,X01];refine⟨λh1=>by simp[X5F,h1],λh1=>?_⟩;have hp:=X0R.1 h1;rw[XyE hp.1,Xwi hp.1,w64 (x:=a0 / 2) (by omega) (by omega),w64 (x:=a0+1) (by omega) (by omega),w64 (x:=0 - (a0+1)) (by omega) (by omega)];refine⟨by omega,λh3=>⟨by omega,?_⟩,λh3=>⟨by omega,?_⟩⟩
 . rw[Xyo (by omega) (by omega),w64 (by omega) (by omega)];simp[X5F,h1,h3]
 . simp[X5F,h1,h3]
def X5P.e:GE:=mE Xct func218 [3,4] [X0X.e] [] noL (λi x=>X5P.F x) λi x h _ _=>X5P.p x h
def X9J:Con:={io:=true,I:=(.pair .str .bool),A:=.unit,shA:=[],R:=(.int .i64),shR:=[(false,1)],pre:=λi _=>True,f:=some λi a=>((Xih i).1,((Xih i).2,()))}
def X4Z.F(i0:(U7q×Bool)):Prop:=True/\∀r1,Eq r1 ((X6T (i0.1,i0.2)).1,(X6T (i0.1,i0.2)).2,())->True/\∀r2,Eq r2 (X5F r1.1,(),())->X00 r1.2.1.2 (Eq (r2.1.1,(r1.2.1.1,r2.1.2),()) ((Xih i0).1,(Xih i0).2,())) (Eq (r2.1.1,(r1.2.1.1,false),()) ((Xih i0).1,(Xih i0).2,()))
theorem X4Z.p(i0:(U7q×Bool))(h:True):X4Z.F i0:=by
 unfold X4Z.F;simp only[Bs,B0,B1,Yaa,X01];exact⟨λh1=>by simp[Xih,h1],λh1=>by simp[Xih,h1]⟩
def X4Z.e:GE:=mE X9J func194 [3] [X40.e,X5P.e] [] noL (λi x=>X4Z.F i) λi x h _ _=>X4Z.p i h
def Xek:Con:=cQ (.int .i64) [.one] (.int .i64) [(false,1)] (λ_=>True) λa=>(Xrs a)
def X6s.F(a0:Int):Prop:=True/\∀r1,Eq r1 (X5F a0,(),())->Eq (r1.1.1,(),()) (Xrs a0,(),())
theorem X6s.p(a0:Int)(h:True)(hw:Wf Xek.A a0):X6s.F a0:=by
 unfold X6s.F;simp only[Bs,B0,B1,Yaa,X01]
 repeat' (with_reducible (first | (refine And.intro ?_ ?_) | intro _))
 all_goals (try simp (disch:=omega) only[w64,wu8,tn0,tn1,tm1,tm2,Yab,Yad,Yai]at*)
 all_goals (try simp (disch:=omega) only[w64,wu8,tn0,tn1,tm1,tm2,Yab,Yad,Yai]at*)
 all_goals (try omega)
 all_goals (try grind[Xrs])
def X6s.e:GE:=mE Xek func152 [3] [X5N.e] [] noL (λi x=>X6s.F x) λi x h _ hw=>X6s.p x h hw
def X2B:Con:=cQ (.pair .str .str) [.one,.one] .bool [(false,1)] (λ_=>True) λa=>(Xam a.1 a.2)
def X0p.F(a0:U7q)(a1:U7q):Prop:=X00 (decide (ln a0>=ln a1)) (0<=ln a1/\ln a1<=ln a0/\Eq (List.take (tN (ln a1)) a0==a1,(),()) (Xam a0 a1,(),())) (Eq (false,(),()) (Xam a0 a1,(),()))
theorem X0p.p(a0:U7q)(a1:U7q)(h:True):X0p.F a0 a1:=by
 delta X0p.F ln tN;simp only[Bs,B0,B1,Yaa,X01];refine⟨λh1=>⟨by omega,by omega,by rw[show((a1.length:Nat):Int).toNat=a1.length by omega];rfl⟩,λh1=>?_⟩
 symm;unfold Xam;rw[YbG];intro e
 have:=Ybh List.length e;simp at this;omega
def X0p.e:GE:=mE X2B func227 [4] [] [] noL (λi x=>X0p.F x.1 x.2) λi x h _ _=>X0p.p x.1 x.2 h
def X6l:Con:=cQ (.pair .str .str) [.one,.one] .bool [(false,1)] (λ_=>True) λa=>(Xam a.1 a.2)
def X1T.F(a0:U7q)(a1:U7q):Prop:=True/\∀r1,Eq r1 (Xam a0 a1,(),())->Eq (r1.1,(),()) (Xam a0 a1,(),())
theorem X1T.p(a0:U7q)(a1:U7q)(h:True)(hw:Wf X6l.A (a0,a1)):X1T.F a0 a1:=by
 unfold X1T.F;simp only[Bs,B0,B1,Yaa,X01]
 repeat' (with_reducible (first | (refine And.intro ?_ ?_) | intro _))
 all_goals (try simp (disch:=omega) only[w64,wu8,tn0,tn1,tm1,tm2,Yab,Yad,Yai]at*)
 all_goals (try simp (disch:=omega) only[w64,wu8,tn0,tn1,tm1,tm2,Yab,Yad,Yai]at*)
 all_goals (try omega)
 all_goals (try grind[])
def X1T.e:GE:=mE X6l func219 [4] [X0p.e] [] noL (λi x=>X1T.F x.1 x.2) λi x h _ hw=>X1T.p x.1 x.2 h hw
def Xcc:Con:=cQ (.pair .str .str) [.one,.one] Xpe [(false,1),(false,1)] (λ_=>True) λa=>(Xa8 a.1 a.2)
def X5p.F(a0:U7q)(a1:U7q):Prop:=X00 (!a1==[]) (True/\∀r1,Eq r1 (Xam a0 a1,(),())->Eq ((ln a1,r1.1),(),()) (Xa8 a0 a1,(),())) (Eq ((ln a1,false),(),()) (Xa8 a0 a1,(),()))
theorem X5p.p(a0:U7q)(a1:U7q)(h:True)(hw:Wf Xcc.A (a0,a1)):X5p.F a0 a1:=by
 delta X5p.F ln;simp only[Bs,B0,B1,Yaa,X01]
 repeat' (with_reducible (first | (refine And.intro ?_ ?_) | intro _))
 all_goals (try simp (disch:=omega) only[w64,wu8,tn0,tn1,tm1,tm2,Yab,Yad,Yai]at*)
 all_goals (try simp (disch:=omega) only[w64,wu8,tn0,tn1,tm1,tm2,Yab,Yad,Yai]at*)
 all_goals (try omega)
 all_goals (try grind[Xa8])
def X5p.e:GE:=mE Xcc func195 [3,4] [X1T.e] [] noL (λi x=>X5p.F x.1 x.2) λi x h _ hw=>X5p.p x.1 x.2 h hw
theorem XdG{l:List Int}{i:Nat}(hi:i<l.length):l.take (i+1)=l.take i++[l.getD i 0]:=by
 rw[Ydo,Yar,Yax hi];rfl
theorem XeK{l:List Int}{i j:Nat}(h:j<i):(l.take i).getD j 0=l.getD j 0:=by
 simp[Yar,YaE,h]
theorem Xo2{l:List Int}{i:Nat}{x:Int}(h:i=l.length):(l++[x]).getD i 0=x:=by subst h;simp[Yar]
theorem Xqx{l:List Int}{i:Nat}{x:Int}(h:i<l.length):(l++[x]).getD i 0=l.getD i 0:=by simp[Yar,YbR h]
section
variable (ok:List Int->Bool) (W:List Int->Nat->Int) (nx:List Int->List Int->Nat->Int)
def RW(s:List UInt8)(n:Int)(l:List Int):Prop:=(l.length:Int)=n/\ok l=true/\s.take (cat (W l) l.length).length=cat (W l) l.length
def XtN(v:List Int):Nat->List Int
 | 0=>[]
 | i+1=>XtN v i++[nx (XtN v i) v i]
instance (s:List UInt8) (n:Int) (l:List Int):Decidable (RW ok W s n l):=by unfold RW;infer_instance
def Xjx(s:List UInt8)(n:Int):List Int×Int:=
 if RW ok W s n (XtN nx (X0W s n).1 n.toNat) then(XtN nx (X0W s n).1 n.toNat,((cat (W (XtN nx (X0W s n).1 n.toNat)) (XtN nx (X0W s n).1 n.toNat).length).length:Int)) else([],0)
variable {ok W nx} (hW:∀l,ok l=true->∀i,i<l.length->X6r (W l i))
include hW
theorem RW.vars{s:List UInt8}{n:Int}{l:List Int}(h:RW ok W s n l):X0W s n=(vals (W l) l.length,((cat (W l) l.length).length:Int)):=by
 have e:=XmM (W:=W l) (n:=l.length) (s:=s) (hW l h.2.1) h.2.2;rw[h.1]at e;exact e
theorem RW.at{s:List UInt8}{n:Int}{l:List Int}(h:RW ok W s n l){i:Nat}(hi:i<l.length):(X0W s n).1.getD i 0=W l i:=by
 rw[RW.vars hW h];exact XuF _ hi
variable (hn:∀l,ok l=true->∀(v:List Int) i,i<l.length->v.getD i 0=W l i->nx (l.take i) v i=l.getD i 0)
include hn
theorem RW.dec{s:List UInt8}{n:Int}{l:List Int}(h:RW ok W s n l):∀i,i<=l.length->XtN nx (X0W s n).1 i=l.take i
 | 0,_=>by simp[XtN]
 | i+1,hi=>by
   rw[XtN,RW.dec h i (by omega),XdG (by omega),hn l h.2.1 _ i (by omega) (RW.at hW h (by omega))]
theorem RW.yes{s:List UInt8}{n:Int}{l:List Int}(h:RW ok W s n l):Xjx ok W nx s n=(l,((cat (W l) l.length).length:Int)):=by
 have e:XtN nx (X0W s n).1 n.toNat=l:=by rw[RW.dec hW hn h _ (by have:=h.1;omega),show n.toNat=l.length by have:=h.1;omega,Yat]
 unfold Xjx;rw[e,Yah h]
theorem RW.get{s:List UInt8}{n:Int}(h0:ok []=false):Xjx ok W nx s n=([],0)/\(∀l,¬RW ok W s n l)\/∃l,RW ok W s n l/\Xjx ok W nx s n=(l,((cat (W l) l.length).length:Int)):=by
 by_cases h:∃l,RW ok W s n l
 . obtain⟨l,h⟩:=h;exact .inr ⟨l,h,RW.yes hW hn h⟩
 . refine .inl ⟨?_,λl hl=>h ⟨l,hl⟩⟩;unfold Xjx;rw[Yae λhl=>h ⟨_,hl⟩]
end
def tmW(l:List Int)(i:Nat):Int:=if i=0 then l.getD 0 0 else if i=1 then l.getD 1 0 - l.getD 0 0 else Xhh (l.getD i 0 - l.getD (i - 1) 0 - (l.getD (i - 1) 0 - l.getD (i - 2) 0))
def vlW(l:List Int)(i:Nat):Int:=Xhh (l.getD i 0 - (if i=0 then 0 else l.getD (i - 1) 0))
theorem XvA(l:List Int):∀i,tmS l i=cat (tmW l) i
 | 0=>rfl
 | i+1=>by
   rw[Xph,XvA l i,cat]
   congr 1
   unfold XfX tmW;split
   . rfl
   . split<;>rfl
theorem XvP(l:List Int):∀i,vlS l i=cat (vlW l) i
 | 0=>rfl
 | i+1=>by rw[XpV,XvP l i,cat];rfl
theorem XtD{l:List Int}(h:Xd0 l=true){i:Nat}(hi:i<l.length)(h2:2<=i):fIn (l.getD i 0 - l.getD (i - 1) 0 - (l.getD (i - 1) 0 - l.getD (i - 2) 0)) (-140737488355328) 140737488355328=true:=by
 have h1:=XgW h hi;have h2:=XgW h (i:=i - 1) (by omega);have h3:=XgW h (i:=i - 2) (by omega);rw[X0R];omega
theorem XfE(l:List Int)(h:Xd0 l=true)(i:Nat)(hi:i<l.length):X6r (tmW l i):=by
 have h0:=XgW h (i:=0) (by omega);unfold tmW;split
 . unfold X6r;omega
 . split
   . have h1:=XbN.1 ((X6q.1 h).2 1 (by omega));simp only[show(1:Nat) - 1=0 from rfl]at h1;unfold X6r;omega
   . exact Xsl (XtD h hi (by omega))
theorem XsA{l:List Int}(h:Xdv l=true){i:Nat}(hi:i<l.length):fIn (l.getD i 0 - (if i=0 then 0 else l.getD (i - 1) 0)) (-140737488355328) 140737488355328=true:=by
 have h1:=XoX h hi;rw[X0R];split
 . omega
 . have h2:=XoX h (i:=i - 1) (by omega);omega
theorem XgG(l:List Int)(h:Xdv l=true)(i:Nat)(hi:i<l.length):X6r (vlW l i):=Xsl (XsA h hi)
def nxT(o v:List Int)(i:Nat):Int:=if i=0 then v.getD 0 0 else if i=1 then o.getD 0 0+v.getD 1 0 else o.getD (i - 1) 0+(o.getD (i - 1) 0 - o.getD (i - 2) 0+(X5F (v.getD i 0)).1)
def nxV(o v:List Int)(i:Nat):Int:=(if i=0 then 0 else o.getD (i - 1) 0)+(X5F (v.getD i 0)).1
theorem Xtx(l:List Int)(h:Xd0 l=true)(v:List Int)(i:Nat)(hi:i<l.length)(hv:v.getD i 0=tmW l i):nxT (l.take i) v i=l.getD i 0:=by
 unfold nxT;unfold tmW at hv;by_cases h0:i=0
 . subst h0;simpa using hv
 rw[Yae h0]at hv ⊢;by_cases h1:i=1
 . subst h1;rw[Yah rfl]at hv;rw[Yah rfl,XeK (by omega),hv];omega
 rw[Yae h1]at hv ⊢;rw[hv,Xjc (XtD h hi (by omega)),XeK (by omega),XeK (by omega)];simp only;omega
theorem XsK(l:List Int)(h:Xdv l=true)(v:List Int)(i:Nat)(hi:i<l.length)(hv:v.getD i 0=vlW l i):nxV (l.take i) v i=l.getD i 0:=by
 unfold nxV;rw[hv,vlW,Xjc (XsA h hi)];split
 . simp
 . rw[XeK (by omega)];simp only;omega
def X4V(s:List UInt8)(n:Int):List Int×Int:=Xjx Xd0 tmW nxT s n
def X53(s:List UInt8)(n:Int):List Int×Int:=Xjx Xdv vlW nxV s n
abbrev RT:=RW Xd0 tmW
abbrev RV:=RW Xdv vlW
theorem XaO{l:List Int}(h:Xd0 l=true):X0u l=cat (tmW l) l.length:=by unfold X0u;rw[Yah h,XvA]
theorem XaN{l:List Int}(h:Xdv l=true):X0q l=cat (vlW l) l.length:=by unfold X0q;rw[Yah h,XvP]
theorem XjG(s:List UInt8)(n:Int):X4V s n=([],0)/\(∀l,¬RT s n l)\/∃l,RT s n l/\X4V s n=(l,((cat (tmW l) l.length).length:Int)):=RW.get XfE Xtx rfl
theorem XjJ(s:List UInt8)(n:Int):X53 s n=([],0)/\(∀l,¬RV s n l)\/∃l,RV s n l/\X53 s n=(l,((cat (vlW l) l.length).length:Int)):=RW.get XgG XsK rfl
theorem Xge{s:List UInt8}{n:Int}{l:List Int}(h:RT s n l):X4V s n=(l,((cat (tmW l) l.length).length:Int)):=RW.yes XfE Xtx h
theorem XgK{s:List UInt8}{n:Int}{l:List Int}(h:RV s n l):X53 s n=(l,((cat (vlW l) l.length).length:Int)):=RW.yes XgG XsK h
def pRd(s:List UInt8)(n:Int):Prop:=s.length<=9223372036854775807
theorem XsY{s:List UInt8}{n:Int}(hn:1<=n)(h:¬(X0W s n).2<0):((X0W s n).1.length:Int)=n/\(∀j:Nat,0<=(X0W s n).1.getD j 0/\(X0W s n).1.getD j 0<=562949953421311)/\0<(X0W s n).2/\(X0W s n).2<=s.length:=by
 obtain⟨k,rfl⟩:∃k:Nat,n=k:=⟨n.toNat,by omega⟩
 obtain⟨h1,h2,h3,h4⟩:=Xri h;have h5:=Ybh List.length h4;rw[Yal]at h5;refine⟨by omega,λj=>?_,?_,by omega⟩
 . by_cases hj:j<(X0W s k).1.length
   . have:=h2 _ (X10 (l:=(X0W s k).1) (d:=0) hj);exact this
   . rw[Yar,Ycg (by omega)];simp
 . rw[h3];cases e:(X0W s k).1 with
   | nil=>rw[e]at h1;simp at h1;omega
   | cons v r=>
     have:=XbG (h2 v (by rw[e];simp));rw[Xmg,Yab];omega
def rsI(s:List UInt8)(n i:Int)(out:List Int):Prop:=1<=i/\i<=n/\(out.length:Int)=i/\((0<=out.getD (i.toNat - 1) 0/\out.getD (i.toNat - 1) 0<=562949953421311)/\(2<=i->0<=out.getD (i.toNat - 2) 0/\out.getD (i.toNat - 2) 0<=562949953421311))/\∀l,RT s n l->out=l.take i.toNat
def rsM(s:List UInt8)(n i:Int)(out:List Int):Nat:=(n - i).toNat
def vsI(s:List UInt8)(n last i:Int)(out:List Int):Prop:=0<=i/\i<=n/\(out.length:Int)=i/\(-1099511627776<=last/\last<=1099511627776)/\last=(if i=0 then 0 else out.getD (i.toNat - 1) 0)/\∀l,RV s n l->out=l.take i.toNat
def vsM(s:List UInt8)(n last i:Int)(out:List Int):Nat:=(n - i).toNat
theorem XsF(z:Int):-140737488355329<=Xrs z/\Xrs z<=140737488355328:=Xn6 z
theorem RT.val{s:List UInt8}{n:Int}{l:List Int}(h:RT s n l){i:Nat}(hi:i<l.length):(X0W s n).1.getD i 0=tmW l i:=RW.at XfE h hi
theorem RV.val{s:List UInt8}{n:Int}{l:List Int}(h:RV s n l){i:Nat}(hi:i<l.length):(X0W s n).1.getD i 0=vlW l i:=RW.at XgG h hi
theorem rt_of{s:List UInt8}{n k:Int}{out:List Int}(h1:(out.length:Int)=n)(hk:0<k)(hk2:k<=s.length)(h:X0u out=s.take k.toNat):RT s n out/\k=((cat (tmW out) out.length).length:Int):=by
 by_cases hr:Xd0 out=true
 . rw[XaO hr]at h;have h2:=Ybh List.length h;rw[Yal]at h2;refine⟨⟨h1,hr,?_⟩,by omega⟩;rw[show(cat (tmW out) out.length).length=k.toNat by omega,<-h]
 . unfold X0u at h;rw[Yae hr]at h;have h2:=Ybh List.length h;rw[Yal]at h2;simp at h2;omega
theorem rv_of{s:List UInt8}{n k:Int}{out:List Int}(h1:(out.length:Int)=n)(hk:0<k)(hk2:k<=s.length)(h:X0q out=s.take k.toNat):RV s n out/\k=((cat (vlW out) out.length).length:Int):=by
 by_cases hr:Xdv out=true
 . rw[XaN hr]at h;have h2:=Ybh List.length h;rw[Yal]at h2;refine⟨⟨h1,hr,?_⟩,by omega⟩;rw[show(cat (vlW out) out.length).length=k.toNat by omega,<-h]
 . unfold X0q at h;rw[Yae hr]at h;have h2:=Ybh List.length h;rw[Yal]at h2;simp at h2;omega
theorem Xec{s:List UInt8}{n:Int}(h:∀l,¬RT s n l):([],0)=X4V s n:=by
 rcases XjG s n with⟨e,_⟩ | ⟨l,hl,_⟩
 . exact e.symm
 . exact absurd hl (h l)
theorem XdJ{s:List UInt8}{n:Int}(h:∀l,¬RV s n l):([],0)=X53 s n:=by
 rcases XjJ s n with⟨e,_⟩ | ⟨l,hl,_⟩
 . exact e.symm
 . exact absurd hl (h l)
theorem RT.len{s:List UInt8}{n:Int}{l:List Int}(h:RT s n l):fIn n 1 60=true:=by
 rw[X0R];have h1:=(X6q.1 h.2.1).1;have:=h.1;omega
theorem RV.len{s:List UInt8}{n:Int}{l:List Int}(h:RV s n l):fIn n 1 60=true:=by
 rw[X0R];have h1:=(X72.1 h.2.1).1;have:=h.1;omega
theorem RT.pos{s:List UInt8}{n:Int}{l:List Int}(h:RT s n l):¬(X0W s n).2<0:=by
 rw[RW.vars XfE h];simp only;omega
theorem RV.pos{s:List UInt8}{n:Int}{l:List Int}(h:RV s n l):¬(X0W s n).2<0:=by
 rw[RW.vars XgG h];simp only;omega
theorem XuG{s:List UInt8}{n:Int}(hn:1<=n)(hv:∀j:Nat,0<=(X0W s n).1.getD j 0/\(X0W s n).1.getD j 0<=562949953421311):rsI s n 1 [(X0W s n).1.getD (Int.toNat 0) 0]:=by
 refine⟨by omega,hn,rfl,⟨hv 0,λh=>by omega⟩,λl hl=>?_⟩;have h1:=hl.1;rw[show(1:Int).toNat=0+1 from rfl,XdG (by omega),show Int.toNat 0=0 from rfl,RT.val hl (by omega)];rfl
theorem XvY{s:List UInt8}{n x i:Int}{out:List Int}(hI:rsI s n i out)(hi:i<n)(hx:∀l,RT s n l->x=l.getD i.toNat 0)(h:fIn x 0 1099511627776=false):([],0)=X4V s n:=by
 refine Xec λl hl=>?_;have h1:=hl.1;have h2:=hI.1;have:=XgW hl.2.1 (i:=i.toNat) (by omega);rw[hx l hl,X0R.2 this]at h;cases h
theorem Xs2{s:List UInt8}{n x i:Int}{out:List Int}(hI:rsI s n i out)(hi:i<n)(hx:∀l,RT s n l->x=l.getD i.toNat 0)(h:fIn x 0 1099511627776=true):rsI s n (i+1) (out++[x]):=by
 obtain⟨h1,h2,h3,h4,h5⟩:=hI;rw[X0R]at h;refine⟨by omega,by omega,by simp;omega,⟨?_,λ_=>?_⟩,λl hl=>?_⟩
 . rw[Xo2 (by omega)];omega
 . rw[Xqx (by omega),show(i+1).toNat - 2=i.toNat - 1 by omega];exact h4.1
 . have:=hl.1;rw[show(i+1).toNat=i.toNat+1 by omega,XdG (by omega),<-h5 l hl,hx l hl]
theorem XxO{s:List UInt8}{n i:Int}{out:List Int}(hI:rsI s n i out)(hi:i<n)(h0:¬i>1):∀l,RT s n l->out.getD (i.toNat - 1) 0+(X0W s n).1.getD i.toNat 0=l.getD i.toNat 0:=λl hl=>by
 have h1:=hl.1;have h2:=hI.1;rw[RT.val hl (by omega),hI.2.2.2.2 l hl,show i=1 by omega,show(1:Int).toNat - 1=0 from rfl,show(1:Int).toNat=1 from rfl,XeK (by omega)];unfold tmW;simp;omega
theorem XxI{s:List UInt8}{n i:Int}{out:List Int}(hI:rsI s n i out)(hi:i<n)(h0:i>1):∀l,RT s n l->out.getD (i.toNat - 1) 0+(out.getD (i.toNat - 1) 0 - out.getD (i.toNat - 2) 0+Xrs ((X0W s n).1.getD i.toNat 0))=l.getD i.toNat 0:=λl hl=>by
 have h1:=hl.1;have h2:=hI.1;have:=Xtx l hl.2.1 (X0W s n).1 i.toNat (by omega) (RT.val hl (by omega));rw[nxT,Yae (by omega),Yae (by omega),<-hI.2.2.2.2 l hl]at this;exact this
theorem XxJ{s:List UInt8}{n i:Int}{out:List Int}(hI:rsI s n i out)(hi:¬i<n)(hk:0<(X0W s n).2)(hk2:(X0W s n).2<=s.length):(¬X0u out=s.take (X0W s n).2.toNat->([],0)=X4V s n)/\(X0u out=s.take (X0W s n).2.toNat->(out,(X0W s n).2)=X4V s n):=by
 obtain⟨h1,h2,h3,_,h5⟩:=hI;refine⟨λh=>Xec λl hl=>h ?_,λh=>?_⟩
 . have:=hl.1;rw[h5 l hl,show i.toNat=l.length by omega,Yat,RW.vars XfE hl,XaO hl.2.1];simp only[YaG];exact hl.2.2.symm
 . obtain⟨q1,q2⟩:=rt_of (n:=n) (by omega) hk hk2 h;rw[Xge q1,<-q2]
theorem XyW{s:List UInt8}{n x i last:Int}{out:List Int}(hI:vsI s n last i out)(hi:i<n)(hx:∀l,RV s n l->x=l.getD i.toNat 0)(h:fIn x (-1099511627776) 1099511627776=false):([],0)=X53 s n:=by
 refine XdJ λl hl=>?_;have h1:=hl.1;have h2:=hI.1;have:=XoX hl.2.1 (i:=i.toNat) (by omega);rw[hx l hl,X0R.2 this]at h;cases h
theorem Xwk{s:List UInt8}{n x i last:Int}{out:List Int}(hI:vsI s n last i out)(hi:i<n)(hx:∀l,RV s n l->x=l.getD i.toNat 0)(h:fIn x (-1099511627776) 1099511627776=true):vsI s n x (i+1) (out++[x]):=by
 obtain⟨h1,h2,h3,h4,h5,h6⟩:=hI;rw[X0R]at h;refine⟨by omega,by omega,by simp;omega,h,?_,λl hl=>?_⟩
 . rw[Yae (by omega),Xo2 (by omega)]
 . have:=hl.1;rw[show(i+1).toNat=i.toNat+1 by omega,XdG (by omega),<-h6 l hl,hx l hl]
theorem XyC{s:List UInt8}{n i last:Int}{out:List Int}(hI:vsI s n last i out)(hi:i<n):∀l,RV s n l->last+Xrs ((X0W s n).1.getD i.toNat 0)=l.getD i.toNat 0:=λl hl=>by
 obtain⟨h1,h2,h3,h4,h5,h6⟩:=hI;have h1:=hl.1;have:=XsK l hl.2.1 (X0W s n).1 i.toNat (by omega) (RV.val hl (by omega));rw[nxV,<-h6 l hl]at this;rw[h5,<-this];by_cases h0:i=0
 . rw[Yah h0,Yah (by omega)];rfl
 . rw[Yae h0,Yae (by omega)];rfl
theorem Xyk{s:List UInt8}{n i last:Int}{out:List Int}(hI:vsI s n last i out)(hi:¬i<n)(hk:0<(X0W s n).2)(hk2:(X0W s n).2<=s.length):(¬X0q out=s.take (X0W s n).2.toNat->([],0)=X53 s n)/\(X0q out=s.take (X0W s n).2.toNat->(out,(X0W s n).2)=X53 s n):=by
 obtain⟨h1,h2,h3,_,_,h5⟩:=hI;refine⟨λh=>XdJ λl hl=>h ?_,λh=>?_⟩
 . have:=hl.1;rw[h5 l hl,show i.toNat=l.length by omega,Yat,RW.vars XgG hl,XaN hl.2.1];simp only[YaG];exact hl.2.2.symm
 . obtain⟨q1,q2⟩:=rv_of (n:=n) (by omega) hk hk2 h;rw[XgK q1,<-q2]
def X8c:Con:=cQ Xrr [.one,.one] (.pair XfJ (.int .i64)) [(false,1),(false,1)] (λa=>(pRd a.1 a.2)) λa=>(X4V a.1 a.2)
def X2v.F(a0:U7q)(a1:Int):Prop:=True/\∀r1,rU r1 (fIn a1 1 60)->X00 (!r1.1) (rE (([]:List Int),0) (X4V a0 a1)) (p7 a0 a1/\∀r2,rU r2 (X0W a0 a1)->dC (r2.1.2<0) (rE (([]:List Int),0) (X4V a0 a1)) (0<=(0:Int)/\0<ln r2.1.1/\eQ [(0,vS a0),(1,vI a1),(6,vL (.int .i64) []),(7,vL (.int .i64) r2.1.1),(8,vI r2.1.2)]/\rsI a0 a1 1 [gA r2.1.1 0 0]/\∀(y3:Int×List Int),rsI a0 a1 y3.1 y3.2->dC (y3.1<a1) (iB y3.1 r2.1.1 (dC (y3.1>1) (iB (wI (y3.1 - 1)) y3.2 (iB (wI (y3.1 - 2)) y3.2 (iB y3.1 r2.1.1 (True/\∀r4,rU r4 (Xrs (gA r2.1.1 y3.1 0))->iB (wI (y3.1 - 1)) y3.2 (True/\∀r5,rU r5 (fIn (wI (gA y3.2 (wI (y3.1 - 1)) 0+wI (wI (gA y3.2 (wI (y3.1 - 1)) 0 - gA y3.2 (wI (y3.1 - 2)) 0)+r4.1))) 0 1099511627776)->X00 (!r5.1) (rE (([]:List Int),0) (X4V a0 a1)) (lE y3.2 [wI (gA y3.2 (wI (y3.1 - 1)) 0+wI (wI (gA y3.2 (wI (y3.1 - 1)) 0 - gA y3.2 (wI (y3.1 - 2)) 0)+r4.1))]/\(List.length y3.2+List.length [wI (gA y3.2 (wI (y3.1 - 1)) 0+wI (wI (gA y3.2 (wI (y3.1 - 1)) 0 - gA y3.2 (wI (y3.1 - 2)) 0)+r4.1))])*8<=140737488355328/\eQ [(0,vS a0),(1,vI a1),(6,vL (.int .i64) []),(7,vL (.int .i64) r2.1.1),(8,vI r2.1.2)]/\rsI a0 a1 (wI (y3.1+1)) (y3.2++[wI (gA y3.2 (wI (y3.1 - 1)) 0+wI (wI (gA y3.2 (wI (y3.1 - 1)) 0 - gA y3.2 (wI (y3.1 - 2)) 0)+r4.1))])/\rsM a0 a1 (wI (y3.1+1)) (y3.2++[wI (gA y3.2 (wI (y3.1 - 1)) 0+wI (wI (gA y3.2 (wI (y3.1 - 1)) 0 - gA y3.2 (wI (y3.1 - 2)) 0)+r4.1))])<rsM a0 a1 y3.1 y3.2)))))) (iB (wI (y3.1 - 1)) y3.2 (True/\∀r6,rU r6 (fIn (wI (gA y3.2 (wI (y3.1 - 1)) 0+gA r2.1.1 y3.1 0)) 0 1099511627776)->X00 (!r6.1) (rE (([]:List Int),0) (X4V a0 a1)) (lE y3.2 [wI (gA y3.2 (wI (y3.1 - 1)) 0+gA r2.1.1 y3.1 0)]/\(List.length y3.2+List.length [wI (gA y3.2 (wI (y3.1 - 1)) 0+gA r2.1.1 y3.1 0)])*8<=140737488355328/\eQ [(0,vS a0),(1,vI a1),(6,vL (.int .i64) []),(7,vL (.int .i64) r2.1.1),(8,vI r2.1.2)]/\rsI a0 a1 (wI (y3.1+1)) (y3.2++[wI (gA y3.2 (wI (y3.1 - 1)) 0+gA r2.1.1 y3.1 0)])/\rsM a0 a1 (wI (y3.1+1)) (y3.2++[wI (gA y3.2 (wI (y3.1 - 1)) 0+gA r2.1.1 y3.1 0)])<rsM a0 a1 y3.1 y3.2))))) (True/\∀r7,rU r7 (X0u y3.2)->0<=r2.1.2/\r2.1.2<=ln a0/\X00 (!r7.1==List.take (tN r2.1.2) a0) (rE (([]:List Int),0) (X4V a0 a1)) (rE (y3.2,r2.1.2) (X4V a0 a1)))))
def X2v.L(a0:U7q)(a1:Int):Nat->Option X0f:=XLK [(1018,⟨⟨[0,1,6,7,8],[9,10],[],[kC 9 0 1001155 3]⟩,(.pair (.int .i64) XfJ),λst y=>rsI a0 a1 y.1 y.2,λst y=>rsM a0 a1 y.1 y.2⟩)]
theorem X2v.p(a0:U7q)(a1:Int)(h:(pRd a0 a1)):X2v.F a0 a1:=by
 delta X2v.F ln tN wI dC eQ gA iB lE rE rU vI vL vS;simp only[Bs,B0,B1,Yaa,X01];have hp:a0.length<=9223372036854775807:=h;refine⟨λh1=>Xec λl hl=>(by rw[RT.len hl]at h1;cases h1),λh1=>?_⟩;rw[X0R]at h1;refine⟨⟨hp,by omega,by omega⟩,λh2=>Xec λl hl=>RT.pos hl h2,λh2=>?_⟩;obtain⟨k1,k2,k3,k4⟩:=XsY (by omega) h2;refine⟨by omega,by omega,XuG (by omega) k2,λy hI=>?_⟩;obtain⟨i,out⟩:=y;simp only at hI ⊢;have g1:=hI.1;have g2:=hI.2.2.1;have g3:=hI.2.2.2.1.1;have g4:=hI.2.2.2.1.2;have g5:=hI.2.1;have e1:IntKind.wrap .i64 (i+1)=i+1:=w64 (by omega) (by omega);have e2:IntKind.wrap .i64 (i - 1)=i - 1:=w64 (by omega) (by omega);have e3:IntKind.wrap .i64 (i - 2)=i - 2:=w64 (by omega) (by omega);have kv:=k2 i.toNat;refine⟨λhi=>⟨by omega,by omega,λh3=>?_,λh3=>?_⟩,λhi=>⟨by omega,k4,XxJ hI hi k3 k4⟩⟩
 . have ku:=XsF ((X0W a0 a1).1.getD i.toNat 0);have g4:=g4 (by omega);have hx:=XxI hI hi h3;rw[e1,e2,e3,show(i - 1).toNat=i.toNat - 1 by omega,show(i - 2).toNat=i.toNat - 2 by omega,w64 (x:=out.getD (i.toNat - 1) 0 - out.getD (i.toNat - 2) 0) (by omega) (by omega),w64 (x:=out.getD (i.toNat - 1) 0 - out.getD (i.toNat - 2) 0+Xrs ((X0W a0 a1).1.getD i.toNat 0)) (by omega) (by omega),w64 (x:=out.getD (i.toNat - 1) 0+(out.getD (i.toNat - 1) 0 - out.getD (i.toNat - 2) 0+Xrs ((X0W a0 a1).1.getD i.toNat 0))) (by omega) (by omega)];exact⟨by omega,by omega,by omega,by omega,by omega,by omega,by omega,by omega,XvY hI hi hx,λh4=>⟨by omega,by omega,Xs2 hI hi hx h4,by unfold rsM;omega⟩⟩
 . have hx:=XxO hI hi h3;rw[e1,e2,show(i - 1).toNat=i.toNat - 1 by omega,w64 (x:=out.getD (i.toNat - 1) 0+(X0W a0 a1).1.getD i.toNat 0) (by omega) (by omega)];exact⟨by omega,by omega,XvY hI hi hx,λh4=>⟨by omega,by omega,Xs2 hI hi hx h4,by unfold rsM;omega⟩⟩
def X2v.e:GE:=mE X8c func117 [147,3] [X26.e,X22.e,X3n.e,X6s.e] [] (λi x=>X2v.L x.1 x.2) (λi x=>X2v.F x.1 x.2) λi x h _ _=>X2v.p x.1 x.2 h
def X7A:Con:=cQ Xrr [.one,.one] (.pair XfJ (.int .i64)) [(false,1),(false,1)] (λa=>(pRd a.1 a.2)) λa=>(X53 a.1 a.2)
def X1X.F(a0:U7q)(a1:Int):Prop:=True/\∀r1,rU r1 (fIn a1 1 60)->X00 (!r1.1) (rE (([]:List Int),0) (X53 a0 a1)) (p7 a0 a1/\∀r2,rU r2 (X0W a0 a1)->dC (r2.1.2<0) (rE (([]:List Int),0) (X53 a0 a1)) (eQ [(0,vS a0),(1,vI a1),(6,vL (.int .i64) []),(7,vL (.int .i64) r2.1.1),(8,vI r2.1.2)]/\vsI a0 a1 0 0 ([]:List Int)/\∀(y3:Int×Int×List Int),vsI a0 a1 y3.1 y3.2.1 y3.2.2->dC (y3.2.1<a1) (iB y3.2.1 r2.1.1 (True/\∀r4,rU r4 (Xrs (gA r2.1.1 y3.2.1 0))->True/\∀r5,rU r5 (fIn (wI (y3.1+r4.1)) (-1099511627776) 1099511627776)->X00 (!r5.1) (rE (([]:List Int),0) (X53 a0 a1)) (lE y3.2.2 [wI (y3.1+r4.1)]/\(List.length y3.2.2+List.length [wI (y3.1+r4.1)])*8<=140737488355328/\eQ [(0,vS a0),(1,vI a1),(6,vL (.int .i64) []),(7,vL (.int .i64) r2.1.1),(8,vI r2.1.2)]/\vsI a0 a1 (wI (y3.1+r4.1)) (wI (y3.2.1+1)) (y3.2.2++[wI (y3.1+r4.1)])/\vsM a0 a1 (wI (y3.1+r4.1)) (wI (y3.2.1+1)) (y3.2.2++[wI (y3.1+r4.1)])<vsM a0 a1 y3.1 y3.2.1 y3.2.2))) (True/\∀r6,rU r6 (X0q y3.2.2)->0<=r2.1.2/\r2.1.2<=ln a0/\X00 (!r6.1==List.take (tN r2.1.2) a0) (rE (([]:List Int),0) (X53 a0 a1)) (rE (y3.2.2,r2.1.2) (X53 a0 a1)))))
def X1X.L(a0:U7q)(a1:Int):Nat->Option X0f:=XLK [(2042,⟨⟨[0,1,6,7,8],[9,10,11],[],[kC 9 0 1001155 3]⟩,(.pair (.int .i64) (.pair (.int .i64) XfJ)),λst y=>vsI a0 a1 y.1 y.2.1 y.2.2,λst y=>vsM a0 a1 y.1 y.2.1 y.2.2⟩)]
theorem X1X.p(a0:U7q)(a1:Int)(h:(pRd a0 a1)):X1X.F a0 a1:=by
 delta X1X.F ln tN wI dC eQ gA iB lE rE rU vI vL vS;simp only[Bs,B0,B1,Yaa,X01];have hp:a0.length<=9223372036854775807:=h;refine⟨λh1=>XdJ λl hl=>(by rw[RV.len hl]at h1;cases h1),λh1=>?_⟩;rw[X0R]at h1;refine⟨⟨hp,by omega,by omega⟩,λh2=>XdJ λl hl=>RV.pos hl h2,λh2=>?_⟩;obtain⟨k1,k2,k3,k4⟩:=XsY (by omega) h2;refine⟨⟨by omega,by omega,rfl,by omega,rfl,λl hl=>by simp⟩,λy hI=>?_⟩;obtain⟨last,i,out⟩:=y;simp only at hI ⊢;have g1:=hI.1;have g2:=hI.2.2.1;have g3:=hI.2.2.2.1;have g5:=hI.2.1;have e1:IntKind.wrap .i64 (i+1)=i+1:=w64 (by omega) (by omega);refine⟨λhi=>⟨by omega,by omega,?_⟩,λhi=>⟨by omega,k4,Xyk hI hi k3 k4⟩⟩;have ku:=XsF ((X0W a0 a1).1.getD i.toNat 0);have hx:=XyC hI hi;rw[e1,w64 (x:=last+Xrs ((X0W a0 a1).1.getD i.toNat 0)) (by omega) (by omega)];exact⟨XyW hI hi hx,λh4=>⟨by omega,by omega,Xwk hI hi hx h4,by unfold vsM;omega⟩⟩
def X1X.e:GE:=mE X7A func118 [147,3] [X26.e,X1t.e,X3n.e,X6s.e] [] (λi x=>X1X.L x.1 x.2) (λi x=>X1X.F x.1 x.2) λi x h _ _=>X1X.p x.1 x.2 h
def dT(l:List Int)(j:Nat):Int:=if j=0 then l.getD 0 0 else l.getD j 0 - l.getD (j - 1) 0
def laT(l:List Int)(j:Nat):Int:=if j=0 then 0 else l.getD (j - 1) 0
def riI(s:List UInt8)(n step last i:Int)(rest:List UInt8)(ok:Bool)(out:List Int):Prop:=(0<=i/\i<=n/\n<=60/\(out.length:Int)=i)/\(-(1125899906842624*i)<=step/\step<=1125899906842624*i/\-(70000000000000000*i)<=last/\last<=70000000000000000*i)/\∀l,RT s n l->ok=true/\rest=s.drop (cat (tmW l) i.toNat).length/\out=l.take i.toNat/\last=laT l i.toNat/\(1<=i->step=dT l (i.toNat - 1))
def riM(s:List UInt8)(n step last i:Int)(rest:List UInt8)(ok:Bool)(out:List Int):Nat:=(n - i).toNat
def viI(s:List UInt8)(n last i:Int)(rest:List UInt8)(ok:Bool)(out:List Int):Prop:=(0<=i/\i<=n/\n<=60/\(out.length:Int)=i)/\(-(70000000000000000*i)<=last/\last<=70000000000000000*i)/\∀l,RV s n l->ok=true/\rest=s.drop (cat (vlW l) i.toNat).length/\out=l.take i.toNat/\last=laT l i.toNat
def viM(s:List UInt8)(n last i:Int)(rest:List UInt8)(ok:Bool)(out:List Int):Nat:=(n - i).toNat
theorem XvG{W:Nat->Int}{n i:Nat}{s:List UInt8}(hw:∀j,j<n->X6r (W j))(hs:s.take (cat W n).length=cat W n)(hi:i<n):X6T (s.drop (cat W i).length,true)=(W i,(s.drop (cat W (i+1)).length,true)):=by
 obtain⟨h1,h2⟩:=Xpo hw hs hi;have hp:=XbG (hw i hi);unfold X6T;simp only;rw[h1];simp only;rw[Yah ⟨trivial,by omega⟩,YaG,h2]
theorem XvQ{W:Nat->Int}{n i:Nat}{s:List UInt8}{d:Int}(hw:∀j,j<n->X6r (W j))(hs:s.take (cat W n).length=cat W n)(hi:i<n)(hd:fIn d (-140737488355328) 140737488355328=true)(he:W i=Xhh d):Xih (s.drop (cat W i).length,true)=(d,(s.drop (cat W (i+1)).length,true)):=by
 unfold Xih;rw[XvG hw hs hi];simp only;rw[he,Xjc hd];rfl
theorem Xto{s:List UInt8}{n step last i step':Int}{rest:List UInt8}{ok:Bool}{out:List Int}{r:Rd}(hI:riI s n step last i rest ok out)(hi:i<n)(hb:-(1125899906842624*(i+1))<=step'/\step'<=1125899906842624*(i+1))(hs:∀l,RT s n l->ok=true->rest=s.drop (cat (tmW l) i.toNat).length->(1<=i->step=dT l (i.toNat - 1))->step'=dT l i.toNat/\r=(s.drop (cat (tmW l) (i.toNat+1)).length,true)):riI s n step' (last+step') (i+1) r.1 r.2 (out++[last+step']):=by
 obtain⟨⟨h1,h2,h3,h4⟩,⟨h5,h6,h7,h8⟩,h9⟩:=hI;refine⟨⟨by omega,by omega,h3,by simp;omega⟩,⟨by omega,by omega,by omega,by omega⟩,λl hl=>?_⟩;obtain⟨k1,k2,k3,k4,k5⟩:=h9 l hl;obtain⟨j1,j2⟩:=hs l hl k1 k2 k5;have hll:=hl.1;have e:(i+1).toNat=i.toNat+1:=by omega
 have hx:last+step'=l.getD i.toNat 0:=by
  rw[k4,j1];unfold laT dT;split
  . rename_i h0;rw[h0];omega
  . omega
 rw[e,j2];refine⟨rfl,rfl,by rw[k3,hx,XdG (by omega)],by rw[hx];rfl,λ_=>j1⟩
theorem Xyq{s:List UInt8}{n step i:Int}{rest:List UInt8}{ok:Bool}(h0:0<=i)(hi:i<n)(h2:i<2):∀l,RT s n l->ok=true->rest=s.drop (cat (tmW l) i.toNat).length->(1<=i->step=dT l (i.toNat - 1))->(X6T (rest,ok)).1=dT l i.toNat/\(X6T (rest,ok)).2=(s.drop (cat (tmW l) (i.toNat+1)).length,true):=λl hl k1 k2 _=>by
 have hll:=hl.1;rw[k1,k2,XvG (XfE l hl.2.1) hl.2.2 (by omega)];refine⟨?_,rfl⟩;show tmW l i.toNat=dT l i.toNat;unfold tmW dT;split
 . rfl
 . rw[Yah (by omega),show i.toNat=1 by omega]
theorem XyR{s:List UInt8}{n step i:Int}{rest:List UInt8}{ok:Bool}(hi:i<n)(h2:¬i<2):∀l,RT s n l->ok=true->rest=s.drop (cat (tmW l) i.toNat).length->(1<=i->step=dT l (i.toNat - 1))->step+(Xih (rest,ok)).1=dT l i.toNat/\(Xih (rest,ok)).2=(s.drop (cat (tmW l) (i.toNat+1)).length,true):=λl hl k1 k2 k3=>by
 have hll:=hl.1;rw[k1,k2,XvQ (XfE l hl.2.1) hl.2.2 (by omega) (XtD hl.2.1 (i:=i.toNat) (by omega) (by omega)) (by unfold tmW;rw[Yae (by omega),Yae (by omega)])];refine⟨?_,rfl⟩;rw[k3 (by omega)];unfold dT;rw[Yae (by omega),Yae (by omega),show i.toNat - 1 - 1=i.toNat - 2 by omega];simp only;omega
theorem Xxi{s:List UInt8}{n last i:Int}{rest:List UInt8}{ok:Bool}{out:List Int}(hI:viI s n last i rest ok out)(hi:i<n):viI s n (last+(Xih (rest,ok)).1) (i+1) (Xih (rest,ok)).2.1 (Xih (rest,ok)).2.2 (out++[last+(Xih (rest,ok)).1]):=by
 obtain⟨⟨h1,h2,h3,h4⟩,⟨h7,h8⟩,h9⟩:=hI;have hz:=Xt4 (rest,ok);refine⟨⟨by omega,by omega,h3,by simp;omega⟩,⟨by omega,by omega⟩,λl hl=>?_⟩;obtain⟨k1,k2,k3,k4⟩:=h9 l hl;have hll:=hl.1;have e:(i+1).toNat=i.toNat+1:=by omega
 rw[k1,k2,XvQ (XgG l hl.2.1) hl.2.2 (by omega) (XsA hl.2.1 (i:=i.toNat) (by omega)) rfl];have hx:last+(l.getD i.toNat 0 - (if i.toNat=0 then 0 else l.getD (i.toNat - 1) 0))=l.getD i.toNat 0:=by
  rw[k4];unfold laT
  split<;>omega
 simp only;rw[hx,e];exact⟨trivial,rfl,by rw[k3,XdG (by omega)],rfl⟩
theorem XpG{s t:List UInt8}(h:Xam s t=true):s.take t.length=t:=by simpa [Xam] using h
theorem Xy9{s:List UInt8}{n step last i:Int}{rest:List UInt8}{ok:Bool}{out:List Int}(hI:riI s n step last i rest ok out)(hi:¬i<n):(ok=false->([],0)=X4V s n)/\(ok=true->((Xa8 s (X0u out)).2=false->([],0)=X4V s n)/\((Xa8 s (X0u out)).2=true->(out,(Xa8 s (X0u out)).1)=X4V s n)):=by
 obtain⟨⟨h1,h2,h3,h4⟩,_,h9⟩:=hI;refine⟨λh=>Xec λl hl=>?_,λh=>⟨λh5=>Xec λl hl=>?_,λh5=>?_⟩⟩
 . rw[(h9 l hl).1]at h;cases h
 . have hll:=hl.1;have e:out=l:=by rw[(h9 l hl).2.2.1,show i.toNat=l.length by omega,Yat]
   have hp:0<(cat (tmW l) l.length).length:=Xg8 (XfE l hl.2.1 0 (by have:=(X6q.1 hl.2.1).1;omega)) _ (by have:=(X6q.1 hl.2.1).1;omega);rw[e]at h5;simp only[Xa8,Yc6,Yaw,Xam,YbG,ne_eq,Ydl,XaO hl.2.1]at h5;rcases h5 with h5 | h5
   . rw[h5]at hp;simp at hp
   . exact h5 hl.2.2
 . simp only[Xa8,Yac,Yaj,ne_eq]at h5;have hr:Xd0 out=true:=by
    by_cases hr:Xd0 out=true
    . exact hr
    . exact absurd (by unfold X0u;rw[Yae hr]) h5.1
   have hR:RT s n out:=⟨by omega,hr,by have:=XpG h5.2;rw[XaO hr]at this;exact this⟩
   rw[Xge hR];simp only[Xa8,XaO hr]
theorem Xy4{s:List UInt8}{n last i:Int}{rest:List UInt8}{ok:Bool}{out:List Int}(hI:viI s n last i rest ok out)(hi:¬i<n):(ok=false->([],0)=X53 s n)/\(ok=true->((Xa8 s (X0q out)).2=false->([],0)=X53 s n)/\((Xa8 s (X0q out)).2=true->(out,(Xa8 s (X0q out)).1)=X53 s n)):=by
 obtain⟨⟨h1,h2,h3,h4⟩,_,h9⟩:=hI;refine⟨λh=>XdJ λl hl=>?_,λh=>⟨λh5=>XdJ λl hl=>?_,λh5=>?_⟩⟩
 . rw[(h9 l hl).1]at h;cases h
 . have hll:=hl.1;have e:out=l:=by rw[(h9 l hl).2.2.1,show i.toNat=l.length by omega,Yat]
   have hp:0<(cat (vlW l) l.length).length:=Xg8 (XgG l hl.2.1 0 (by have:=(X72.1 hl.2.1).1;omega)) _ (by have:=(X72.1 hl.2.1).1;omega);rw[e]at h5;simp only[Xa8,Yc6,Yaw,Xam,YbG,ne_eq,Ydl,XaN hl.2.1]at h5;rcases h5 with h5 | h5
   . rw[h5]at hp;simp at hp
   . exact h5 hl.2.2
 . simp only[Xa8,Yac,Yaj,ne_eq]at h5;have hr:Xdv out=true:=by
    by_cases hr:Xdv out=true
    . exact hr
    . exact absurd (by unfold X0q;rw[Yae hr]) h5.1
   have hR:RV s n out:=⟨by omega,hr,by have:=XpG h5.2;rw[XaN hr]at this;exact this⟩
   rw[XgK hR];simp only[Xa8,XaN hr]
def X7V:Con:=cW Xrr [.one,.one] (.pair XfJ (.int .i64)) [(false,1),(false,1)] [(0,3)] (λ_=>True) λa=>(X4V a.1 a.2)
def X2m.F(a0:U7q)(a1:Int):Prop:=True/\∀r1,Eq r1 (fIn a1 1 60,(),())->X00 (!r1.1) (Eq ((([]:List Int),0),(),()) (X4V a0 a1,(),())) (eS [(0,.val false [.str a0]),(6,.box 19 0),(20,.val false [.int .i64 a1])] [(0,.val false [.str a0]),(6,.box 19 0),(20,.val false [.int .i64 a1])]/\riI a0 a1 0 0 0 a0 true ([]:List Int)/\∀(y2:Int×Int×Int×U7q×Bool×List Int),riI a0 a1 y2.1 y2.2.1 y2.2.2.1 y2.2.2.2.1 y2.2.2.2.2.1 y2.2.2.2.2.2->X00 (decide (y2.2.2.1<a1)) (X00 (decide (y2.2.2.1<(2:Int))) (True/\∀r3,Eq r3 ((X6T (y2.2.2.2.1,y2.2.2.2.2.1)).1,(X6T (y2.2.2.2.1,y2.2.2.2.2.1)).2,())->List.length y2.2.2.2.2.2+List.length [wI (y2.2.1+r3.1)]<=9223372036854775807/\(List.length y2.2.2.2.2.2+List.length [wI (y2.2.1+r3.1)])*8<=140737488355328/\eS [(0,.val false [.str a0]),(6,.box 19 0),(20,.val false [.int .i64 a1])] [(0,.val false [.str a0]),(6,.box 19 0),(20,.val false [.int .i64 a1])]/\riI a0 a1 r3.1 (wI (y2.2.1+r3.1)) (wI (y2.2.2.1+(1:Int))) r3.2.1.1 r3.2.1.2 (y2.2.2.2.2.2++[wI (y2.2.1+r3.1)])/\riM a0 a1 r3.1 (wI (y2.2.1+r3.1)) (wI (y2.2.2.1+(1:Int))) r3.2.1.1 r3.2.1.2 (y2.2.2.2.2.2++[wI (y2.2.1+r3.1)])<riM a0 a1 y2.1 y2.2.1 y2.2.2.1 y2.2.2.2.1 y2.2.2.2.2.1 y2.2.2.2.2.2) (True/\∀r4,Eq r4 ((Xih (y2.2.2.2.1,y2.2.2.2.2.1)).1,(Xih (y2.2.2.2.1,y2.2.2.2.2.1)).2,())->List.length y2.2.2.2.2.2+List.length [wI (y2.2.1+wI (y2.1+r4.1))]<=9223372036854775807/\(List.length y2.2.2.2.2.2+List.length [wI (y2.2.1+wI (y2.1+r4.1))])*8<=140737488355328/\eS [(0,.val false [.str a0]),(6,.box 19 0),(20,.val false [.int .i64 a1])] [(0,.val false [.str a0]),(6,.box 19 0),(20,.val false [.int .i64 a1])]/\riI a0 a1 (wI (y2.1+r4.1)) (wI (y2.2.1+wI (y2.1+r4.1))) (wI (y2.2.2.1+(1:Int))) r4.2.1.1 r4.2.1.2 (y2.2.2.2.2.2++[wI (y2.2.1+wI (y2.1+r4.1))])/\riM a0 a1 (wI (y2.1+r4.1)) (wI (y2.2.1+wI (y2.1+r4.1))) (wI (y2.2.2.1+(1:Int))) r4.2.1.1 r4.2.1.2 (y2.2.2.2.2.2++[wI (y2.2.1+wI (y2.1+r4.1))])<riM a0 a1 y2.1 y2.2.1 y2.2.2.1 y2.2.2.2.1 y2.2.2.2.2.1 y2.2.2.2.2.2)) (Xjn y2.2.2.2.2.2/\∀r5,Eq r5 (X0u y2.2.2.2.2.2,(),())->True/\∀r6,Eq r6 (Xa8 a0 r5.1,(),())->X00 (!y2.2.2.2.2.1) (Eq ((([]:List Int),0),(),()) (X4V a0 a1,(),())) (X00 (!r6.1.2) (Eq ((([]:List Int),0),(),()) (X4V a0 a1,(),())) (Eq ((y2.2.2.2.2.2,r6.1.1),(),()) (X4V a0 a1,(),())))))
def X2m.L(a0:U7q)(a1:Int):Nat->Option X0f:=XLK [(1018,⟨⟨[0,6,20],[7,8,9,21],[19],[kC 7 0 1000899 3]⟩,(.pair (.int .i64) (.pair (.int .i64) (.pair (.int .i64) (.pair .str (.pair .bool XfJ))))),λst y=>riI a0 a1 y.1 y.2.1 y.2.2.1 y.2.2.2.1 y.2.2.2.2.1 y.2.2.2.2.2,λst y=>riM a0 a1 y.1 y.2.1 y.2.2.1 y.2.2.2.1 y.2.2.2.2.1 y.2.2.2.2.2⟩)]
theorem X2m.p(a0:U7q)(a1:Int)(h:True):X2m.F a0 a1:=by
 delta X2m.F wI eS;simp only[Bs,B0,B1,Yaa,X01];refine⟨λh1=>Xec λl hl=>(by rw[RT.len hl]at h1;cases h1),λh1=>?_⟩;rw[X0R]at h1;refine⟨⟨⟨by omega,by omega,by omega,rfl⟩,⟨by omega,by omega,by omega,by omega⟩,λl hl=>⟨rfl,by simp[cat],by simp,rfl,λh=>by omega⟩⟩,λy hI=>?_⟩;obtain⟨step,last,i,rest,ok,out⟩:=y;simp only at hI ⊢;have g1:=hI.1;have g2:=hI.2.1;have e1:IntKind.wrap .i64 (i+1)=i+1:=w64 (by omega) (by omega);refine⟨λhi=>⟨λh2=>?_,λh2=>?_⟩,λhi=>⟨by unfold Xjn;omega,Xy9 hI hi⟩⟩
 . have hn:=XpQ (rest,ok);rw[e1,w64 (x:=last+(X6T (rest,ok)).1) (by omega) (by omega)];exact⟨by omega,by omega,Xto hI hi (by omega) (Xyq (by omega) hi h2),by unfold riM;omega⟩
 . have hn:=Xt4 (rest,ok);rw[e1,w64 (x:=step+(Xih (rest,ok)).1) (by omega) (by omega),w64 (x:=last+(step+(Xih (rest,ok)).1)) (by omega) (by omega)];exact⟨by omega,by omega,Xto hI hi (by omega) (XyR hi h2),by unfold riM;omega⟩
def X2m.e:GE:=mE X7V func168 [147,3] [X0X.e,X1Z.e,X40.e,X4Z.e,X5p.e] [] (λi x=>X2m.L x.1 x.2) (λi x=>X2m.F x.1 x.2) λi x h _ _=>X2m.p x.1 x.2 h
def X7m:Con:=cW Xrr [.one,.one] (.pair XfJ (.int .i64)) [(false,1),(false,1)] [(0,3)] (λ_=>True) λa=>(X53 a.1 a.2)
def X1M.F(a0:U7q)(a1:Int):Prop:=True/\∀r1,Eq r1 (fIn a1 1 60,(),())->X00 (!r1.1) (Eq ((([]:List Int),0),(),()) (X53 a0 a1,(),())) (eS [(0,.val false [.str a0]),(6,.box 17 0),(18,.val false [.int .i64 a1])] [(0,.val false [.str a0]),(6,.box 17 0),(18,.val false [.int .i64 a1])]/\viI a0 a1 0 0 a0 true ([]:List Int)/\∀(y2:Int×Int×U7q×Bool×List Int),viI a0 a1 y2.1 y2.2.1 y2.2.2.1 y2.2.2.2.1 y2.2.2.2.2->X00 (decide (y2.2.1<a1)) (True/\∀r3,Eq r3 ((Xih (y2.2.2.1,y2.2.2.2.1)).1,(Xih (y2.2.2.1,y2.2.2.2.1)).2,())->List.length y2.2.2.2.2+List.length [wI (y2.1+r3.1)]<=9223372036854775807/\(List.length y2.2.2.2.2+List.length [wI (y2.1+r3.1)])*8<=140737488355328/\eS [(0,.val false [.str a0]),(6,.box 17 0),(18,.val false [.int .i64 a1])] [(0,.val false [.str a0]),(6,.box 17 0),(18,.val false [.int .i64 a1])]/\viI a0 a1 (wI (y2.1+r3.1)) (wI (y2.2.1+(1:Int))) r3.2.1.1 r3.2.1.2 (y2.2.2.2.2++[wI (y2.1+r3.1)])/\viM a0 a1 (wI (y2.1+r3.1)) (wI (y2.2.1+(1:Int))) r3.2.1.1 r3.2.1.2 (y2.2.2.2.2++[wI (y2.1+r3.1)])<viM a0 a1 y2.1 y2.2.1 y2.2.2.1 y2.2.2.2.1 y2.2.2.2.2) (Xjn y2.2.2.2.2/\∀r4,Eq r4 (X0q y2.2.2.2.2,(),())->True/\∀r5,Eq r5 (Xa8 a0 r4.1,(),())->X00 (!y2.2.2.2.1) (Eq ((([]:List Int),0),(),()) (X53 a0 a1,(),())) (X00 (!r5.1.2) (Eq ((([]:List Int),0),(),()) (X53 a0 a1,(),())) (Eq ((y2.2.2.2.2,r5.1.1),(),()) (X53 a0 a1,(),())))))
def X1M.L(a0:U7q)(a1:Int):Nat->Option X0f:=XLK [(506,⟨⟨[0,6,18],[7,8,19],[17],[kC 7 0 1000899 3]⟩,(.pair (.int .i64) (.pair (.int .i64) (.pair .str (.pair .bool XfJ)))),λst y=>viI a0 a1 y.1 y.2.1 y.2.2.1 y.2.2.2.1 y.2.2.2.2,λst y=>viM a0 a1 y.1 y.2.1 y.2.2.1 y.2.2.2.1 y.2.2.2.2⟩)]
theorem X1M.p(a0:U7q)(a1:Int)(h:True):X1M.F a0 a1:=by
 delta X1M.F wI eS;simp only[Bs,B0,B1,Yaa,X01];refine⟨λh1=>XdJ λl hl=>(by rw[RV.len hl]at h1;cases h1),λh1=>?_⟩;rw[X0R]at h1;refine⟨⟨⟨by omega,by omega,by omega,rfl⟩,⟨by omega,by omega⟩,λl hl=>⟨rfl,by simp[cat],by simp,rfl⟩⟩,λy hI=>?_⟩;obtain⟨last,i,rest,ok,out⟩:=y;simp only at hI ⊢;have g1:=hI.1;have g2:=hI.2.1;have e1:IntKind.wrap .i64 (i+1)=i+1:=w64 (by omega) (by omega);refine⟨λhi=>?_,λhi=>⟨by unfold Xjn;omega,Xy4 hI hi⟩⟩;have hn:=Xt4 (rest,ok);rw[e1,w64 (x:=last+(Xih (rest,ok)).1) (by omega) (by omega)];exact⟨by omega,by omega,Xxi hI hi,by unfold viM;omega⟩
def X1M.e:GE:=mE X7m func169 [147,3] [X0X.e,X1w.e,X4Z.e,X5p.e] [] (λi x=>X1M.L x.1 x.2) (λi x=>X1M.F x.1 x.2) λi x h _ _=>X1M.p x.1 x.2 h
def be(l:List UInt8):Int:=l.foldl (λn b=>n*256+(b.toNat:Int)) 0
theorem XoA(l:List UInt8)(b:UInt8):be (l++[b])=be l*256+(b.toNat:Int):=by simp[be]
theorem Xyt(w:Nat):∀(l:List UInt8),l.length=w->0<=be l/\be l<256 ^ w:=by
 induction w with
 | zero=>intro l hl;rw[YaL.1 hl];decide
 | succ w ih=>
   intro l hl;obtain⟨r,b,rfl⟩:∃r b,l=r++[b]:=by
    rcases List.eq_nil_or_concat l with h | ⟨r,b,h⟩
    . rw[h]at hl;simp at hl
    . exact⟨r,b,by rw[h,List.concat_eq_append]⟩
   have:=ih r (by simpa using hl);have hb:=b.toNat_lt;rw[XoA,Int.pow_succ];generalize (256:Int) ^ w=p at*;omega
theorem Xxk:∀(w n:Nat),n<256 ^ w->be (X3A (fx w n))=n
 | 0,n,h=>by have:n=0:=by omega
             subst this;rfl
 | w+1,n,h=>by
   have h1:n / 256<256 ^ w:=by rw[Ydc]at h;omega
   rw[fx,XfG,show X3A [((n % 256:Nat):Int)]=[UInt8.ofNat (n % 256)] from rfl,XoA,Xxk w _ h1,UInt8.toNat_ofNat'];omega
def X0E(s:List UInt8)(w:Int):Int×Bool:=if fIn w 1 7=true/\w<=(s.length:Int) then(be (s.take w.toNat),true) else(0,false)
def rfI(s:List UInt8)(w n i:Int):Prop:=0<=i/\i<=w/\1<=w/\w<=7/\w<=(s.length:Int)/\n=be (s.take i.toNat)
def rfM(s:List UInt8)(w n i:Int):Nat:=(w - i).toNat
theorem XmL{i:Nat}(h:i<=6):(256:Int) ^ i<=281474976710656:=by
 have h1:i=0\/i=1\/i=2\/i=3\/i=4\/i=5\/i=6:=by omega
 rcases h1 with h | h | h | h | h | h | h<;>subst h<;>decide
theorem Xs6{s:List UInt8}{w n i:Int}(h:rfI s w n i)(hi:i<w):(0<=n/\n<281474976710656)/\rfI s w (n*256+((s.getD i.toNat 0).toNat:Int)) (i+1):=by
 obtain⟨h1,h2,h3,h4,h5,h6⟩:=h;have hb:=Xyt i.toNat (s.take i.toNat) (by rw[Yal];omega);have hp:=XmL (i:=i.toNat) (by omega);refine⟨by omega,by omega,by omega,h3,h4,h5,?_⟩;rw[show(i+1).toNat=i.toNat+1 by omega,XcP (by omega),XoA,h6]
theorem or256{n:Int}{b:Nat}(h:0<=n)(h2:n<281474976710656)(hb:b<256):IntKind.wrap .i64 (BitVec.toNat (BitVec.ofInt (IntKind.bits .i64) (n*256)|||BitVec.ofInt (IntKind.bits .i64) (b:Int)))=n*256+b:=by
 obtain⟨k,rfl⟩:∃k:Nat,n=k:=⟨n.toNat,by omega⟩
 have e1:BitVec.ofInt (IntKind.bits .i64) (((k:Int))*256)=BitVec.ofNat 64 (k*256):=by
  show BitVec.ofInt 64 (((k:Int))*256)=_;rw[show((k:Int)*256)=((k*256:Nat):Int) by omega,BitVec.ofInt_natCast]
 have e2:BitVec.ofInt (IntKind.bits .i64) (b:Int)=BitVec.ofNat 64 b:=BitVec.ofInt_natCast 64 b;rw[e1,e2];have e3:(BitVec.ofNat 64 (k*256)|||BitVec.ofNat 64 b).toNat=k*256+b:=by
  rw[BitVec.toNat_or,YcJ,YcJ,Ycl (by omega),Ycl (by omega),Nat.mul_comm];exact(Nat.two_pow_add_eq_or_of_lt (i:=8) (by omega) k).symm
 show IntKind.wrap .i64 (((BitVec.ofNat 64 (k*256)|||BitVec.ofNat 64 b).toNat:Nat):Int)=_;rw[e3,w64 (by omega) (by omega)];omega
def X7Z:Con:=cQ Xrr [.one,.one] Xpe [(false,1),(false,1)] (λ_=>True) λa=>(X0E a.1 a.2)
def X20.F(a0:U7q)(a1:Int):Prop:=True/\∀r1,rU r1 (fIn a1 1 7)->X00 (!r1.1) (rE (0,false) (X0E a0 a1)) (dC (ln a0<a1) (rE (0,false) (X0E a0 a1)) (eQ [(0,vS a0),(1,vI a1)]/\rfI a0 a1 0 0/\∀(y2:Int×Int),rfI a0 a1 y2.1 y2.2->dC (y2.2<a1) (iB y2.2 a0 (eQ [(0,vS a0),(1,vI a1)]/\rfI a0 a1 (wI (wI (y2.1*256)+wI ((UInt8.toNat (gA a0 y2.2 0):Nat):Int))) (wI (y2.2+1))/\rfM a0 a1 (wI (wI (y2.1*256)+wI ((UInt8.toNat (gA a0 y2.2 0):Nat):Int))) (wI (y2.2+1))<rfM a0 a1 y2.1 y2.2)) (rE (y2.1,true) (X0E a0 a1))))
def X20.L(a0:U7q)(a1:Int):Nat->Option X0f:=XLK [(122,⟨⟨[0,1],[6,7],[],[]⟩,T0q,λst y=>rfI a0 a1 y.1 y.2,λst y=>rfM a0 a1 y.1 y.2⟩)]
theorem X20.p(a0:U7q)(a1:Int)(h:True):X20.F a0 a1:=by
 delta X20.F ln wI dC eQ gA iB rE rU vI vS tN;simp only[Bs,B0,B1,Yaa,X01];refine⟨λh1=>by simp[X0E,h1],λh1=>⟨λh2=>by unfold X0E;rw[Yae (by omega)],λh2=>?_⟩⟩;have hw7:=X0R.1 h1;refine⟨⟨by omega,by omega,by omega,by omega,by omega,rfl⟩,λy hI=>?_⟩;obtain⟨n,i⟩:=y;simp only at hI ⊢;have g1:=hI.1;have g2:=hI.2.1;have hx:=(a0.getD i.toNat 0).toNat_lt;refine⟨λhi=>?_,λhi=>?_⟩
 . obtain⟨hn,step⟩:=Xs6 hI hi;rw[w64 (x:=((a0.getD i.toNat 0).toNat:Int)) (by omega) (by omega),w64 (x:=n*256) (by omega) (by omega),w64 (x:=n*256+((a0.getD i.toNat 0).toNat:Int)) (by omega) (by omega),w64 (x:=i+1) (by omega) (by omega)];exact⟨by omega,by omega,step,by unfold rfM;omega⟩
 . have e:i=a1:=by omega
   unfold X0E;rw[Yah ⟨h1,by omega⟩,hI.2.2.2.2.2,e]
def X20.e:GE:=mE X7Z func150 [3,4] [X26.e] [] (λi x=>X20.L x.1 x.2) (λi x=>X20.F x.1 x.2) λi x h _ _=>X20.p x.1 x.2 h
def X8v:Con:=cQ Xrr [.one,.one] Xpe [(false,1),(false,1)] (λ_=>True) λa=>(X0E a.1 a.2)
def X24.F(a0:U7q)(a1:Int):Prop:=True/\∀r1,rU r1 (fIn a1 1 7)->X00 (!r1.1) (rE (0,false) (X0E a0 a1)) (dC (ln a0<a1) (rE (0,false) (X0E a0 a1)) (eQ [(0,vS a0),(17,vI a1)]/\rfI a0 a1 0 0/\∀(y2:Int×Int),rfI a0 a1 y2.1 y2.2->dC (y2.2<a1) (0<=(8:Int)/\iB y2.2 a0 (eQ [(0,vS a0),(17,vI a1)]/\rfI a0 a1 (IntKind.wrap .i64 (BitVec.toNat (BitVec.ofInt (IntKind.bits .i64) (wI (y2.1*2^min (tN 8) (IntKind.bits .i64)))|||BitVec.ofInt (IntKind.bits .i64) (wI ((UInt8.toNat (gA a0 y2.2 0):Nat):Int))))) (wI (y2.2+1))/\rfM a0 a1 (IntKind.wrap .i64 (BitVec.toNat (BitVec.ofInt (IntKind.bits .i64) (wI (y2.1*2^min (tN 8) (IntKind.bits .i64)))|||BitVec.ofInt (IntKind.bits .i64) (wI ((UInt8.toNat (gA a0 y2.2 0):Nat):Int))))) (wI (y2.2+1))<rfM a0 a1 y2.1 y2.2)) (rE (y2.1,true) (X0E a0 a1))))
def X24.L(a0:U7q)(a1:Int):Nat->Option X0f:=XLK [(122,⟨⟨[0,17],[6,18],[],[]⟩,T0q,λst y=>rfI a0 a1 y.1 y.2,λst y=>rfM a0 a1 y.1 y.2⟩)]
theorem X24.p(a0:U7q)(a1:Int)(h:True):X24.F a0 a1:=by
 delta X24.F ln tN wI dC eQ gA iB rE rU vI vS;simp only[Bs,B0,B1,Yaa,X01];refine⟨λh1=>by simp[X0E,h1],λh1=>⟨λh2=>by unfold X0E;rw[Yae (by omega)],λh2=>?_⟩⟩;have hw7:=X0R.1 h1;refine⟨⟨by omega,by omega,by omega,by omega,by omega,rfl⟩,λy hI=>?_⟩;obtain⟨n,i⟩:=y;simp only at hI ⊢;have g1:=hI.1;have g2:=hI.2.1;have hx:=(a0.getD i.toNat 0).toNat_lt;refine⟨λhi=>?_,λhi=>?_⟩
 . obtain⟨hn,step⟩:=Xs6 hI hi;rw[show(min (Int.toNat 8) (IntKind.bits .i64))=8 from rfl,show(2:Int) ^ 8=256 from rfl,w64 (x:=((a0.getD i.toNat 0).toNat:Int)) (by omega) (by omega),w64 (x:=n*256) (by omega) (by omega),or256 hn.1 hn.2 hx,w64 (x:=i+1) (by omega) (by omega)];exact⟨by omega,by omega,by omega,step,by unfold rfM;omega⟩
 . have e:i=a1:=by omega
   unfold X0E;rw[Yah ⟨h1,by omega⟩,hI.2.2.2.2.2,e]
def X24.e:GE:=mE X8v func188 [3,4] [X0X.e] [] (λi x=>X24.L x.1 x.2) (λi x=>X24.F x.1 x.2) λi x h _ _=>X24.p x.1 x.2 h
def X0n(s:List UInt8):List UInt8×(Int×Int):=
 if (X0E s 4).2=false then([],0,1)
 else if fIn (X0E s 4).1 1 2000=false then([],0,2)
 else if (s.length:Int)<(X0E s 4).1+8 then([],0,1)
 else if X4d ((s.take ((X0E s 4).1+8).toNat).drop 8)=s.take ((X0E s 4).1+8).toNat then((s.take ((X0E s 4).1+8).toNat).drop 8,(X0E s 4).1+8,0)
 else([],0,2)
theorem XuT{s:List UInt8}{w:Int}:0<=(X0E s w).1/\(X0E s w).1<72057594037927936:=by
 unfold X0E;split
 . rename_i h;have h1:=X0R.1 h.1;have hb:=Xyt w.toNat (s.take w.toNat) (by rw[Yal];omega);have:(256:Int) ^ w.toNat<=72057594037927936:=by
    by_cases h7:w.toNat<=6
    . have:=XmL h7;omega
    . rw[show w.toNat=7 by omega];decide
   simp only;omega
 . simp
theorem XtA{n:Nat}(h:n<=2000):X18 n 4=X3A (fx 4 n):=by
 unfold X18;rw[Yah ⟨by decide,by omega,by rw[show(4:Int).toNat=4 from rfl];omega⟩];rfl
theorem Xd1(l:List Int):(X3A l).length=l.length:=by simp[X3A]
theorem XjE(s:List UInt8):(X18 (XjL s) 4).length=4:=by
 have:=Xkc s;unfold X18;rw[Yah ⟨by decide,by omega,by rw[show(4:Int).toNat=4 from rfl];omega⟩,Xd1,Xdj];rfl
theorem XlG{b:List UInt8}(h:1<=b.length/\b.length<=2000):(X4d b).length=b.length+8/\X0n (X4d b)=(b,((b.length:Int)+8,0)):=by
 have e:X4d b=X18 b.length 4++X18 (XjL (X18 b.length 4++b)) 4++b:=by
  unfold X4d;rw[Yah (X0R.2 (by omega))]
 have l1:(X18 b.length 4).length=4:=by rw[XtA h.2,Xd1,Xdj]
 have l2:=XjE (X18 b.length 4++b);have hl:(X4d b).length=b.length+8:=by rw[e,Yab,Yab,l1,l2];omega
 have hr:X0E (X4d b) 4=((b.length:Int),true):=by
  unfold X0E;rw[Yah ⟨by decide,by omega⟩,e,Yam,show(4:Int).toNat=(X18 b.length 4).length from l1.symm,Ybl,XtA h.2,Xxk 4 _ (by omega)]
 refine⟨hl,?_⟩;have hb:(X4d b).drop 8=b:=by
  rw[e,show 8=(X18 b.length 4++X18 (XjL (X18 b.length 4++b)) 4).length by rw[Yab,l1,l2],Ya4]
 unfold X0n;rw[hr];simp only;have e8:((b.length:Int)+8).toNat=(X4d b).length:=by rw[hl];omega
 rw[Yae (by decide),Yae (by rw[X0R.2 (by omega)];decide),Yae (by omega),e8,Yat,hb,Yah rfl]
theorem XfI(s:List UInt8):X0n s=([],0,1)\/X0n s=([],0,2)\/((X0n s).2.2=0/\1<=(X0n s).1.length/\(X0n s).1.length<=2000/\(X0n s).2.1=(X0n s).1.length+8/\(X0n s).2.1<=s.length/\X4d (X0n s).1=s.take (X0n s).2.1.toNat):=by
 unfold X0n;split
 . exact .inl rfl
 split
 . exact .inr (.inl rfl)
 split
 . exact .inl rfl
 split
 . rename_i h1 h2 h3 h4;have h5:=X0R.1 (show fIn (X0E s 4).1 1 2000=true by cases e:fIn (X0E s 4).1 1 2000;exact absurd e h2;rfl);refine .inr (.inr ⟨rfl,?_,?_,?_,by simp only;omega,h4⟩)<;>simp only[Yap,Yal]<;>omega
 . exact .inr (.inl rfl)
theorem XhM(s:List UInt8):(X0n s).1.length<=2000:=by
 rcases XfI s with h | h | h
 . rw[h];simp
 . rw[h];simp
 . exact h.2.2.1
def XaJ:Con:=cQ .str [.one] (.pair .str T0q) [(false,1),(false,1),(false,1)] (λ_=>True) λa=>(X0n a)
def X4K.F(a0:U7q):Prop:=True/\∀r1,Eq r1 (X0E a0 4,(),())->X00 (!r1.1.2) (Eq (([],0,1),(),()) (X0n a0,(),())) (X00 (r1.1.1==(0:Int)) (Eq (([],0,2),(),()) (X0n a0,(),())) (X00 (decide (r1.1.1>(2000:Int))) (Eq (([],0,2),(),()) (X0n a0,(),())) (X00 (decide (ln a0<wI ((8:Int)+r1.1.1))) (Eq (([],0,1),(),()) (X0n a0,(),())) (0<=(8:Int)/\(8:Int)<=wI ((8:Int)+r1.1.1)/\wI ((8:Int)+r1.1.1)<=ln a0/\True/\∀r2,Eq r2 (X4d (List.drop (tN (8:Int)) (List.take (tN (wI ((8:Int)+r1.1.1))) a0)),(),())->0<=wI ((8:Int)+r1.1.1)/\wI ((8:Int)+r1.1.1)<=ln a0/\X00 (!r2.1==List.take (tN (wI ((8:Int)+r1.1.1))) a0) (Eq (([],0,2),(),()) (X0n a0,(),())) (Eq ((List.drop (tN (8:Int)) (List.take (tN (wI ((8:Int)+r1.1.1))) a0),wI ((8:Int)+r1.1.1),0),(),()) (X0n a0,(),()))))))
theorem X4K.p(a0:U7q)(h:True)(hw:Wf XaJ.A a0):X4K.F a0:=by
 delta X4K.F ln tN wI;have hb:=XuT (s:=a0) (w:=4);simp only[Bs,B0,B1,Yaa,X01]
 repeat' (with_reducible (first | (refine And.intro ?_ ?_) | intro _))
 all_goals (try simp (disch:=omega) only[w64,wu8,tn0,tn1,tm1,tm2,Yab,Yad,Yai]at*)
 all_goals (try simp (disch:=omega) only[w64,wu8,tn0,tn1,tm1,tm2,Yab,Yad,Yai]at*)
 all_goals (try omega)
 all_goals (try grind[X0n,X0R])
def X4K.e:GE:=mE XaJ func115 [9,3,3] [X5q.e,X20.e] [] noL (λi x=>X4K.F x) λi x h _ hw=>X4K.p x h hw
def Xav:Con:=cQ .str [.one] (.pair .str T0q) [(false,1),(false,1),(false,1)] (λ_=>True) λa=>(X0n a)
def X4O.F(a0:U7q):Prop:=True/\∀r1,Eq r1 (X0E a0 4,(),())->X00 (!r1.1.2) (Eq (([],0,1),(),()) (X0n a0,(),())) (True/\∀r2,Eq r2 (fIn r1.1.1 1 2000,(),())->X00 (!r2.1) (Eq (([],0,2),(),()) (X0n a0,(),())) (X00 (decide (ln a0<wI (r1.1.1+(8:Int)))) (Eq (([],0,1),(),()) (X0n a0,(),())) (0<=(8:Int)/\(8:Int)<=wI (r1.1.1+(8:Int))/\wI (r1.1.1+(8:Int))<=ln a0/\True/\∀r3,Eq r3 (X4d (List.drop (tN (8:Int)) (List.take (tN (wI (r1.1.1+(8:Int)))) a0)),(),())->0<=wI (r1.1.1+(8:Int))/\wI (r1.1.1+(8:Int))<=ln a0/\X00 (!r3.1==List.take (tN (wI (r1.1.1+(8:Int)))) a0) (Eq (([],0,2),(),()) (X0n a0,(),())) (Eq ((List.drop (tN (8:Int)) (List.take (tN (wI (r1.1.1+(8:Int)))) a0),wI (r1.1.1+(8:Int)),0),(),()) (X0n a0,(),())))))
theorem X4O.p(a0:U7q)(h:True)(hw:Wf Xav.A a0):X4O.F a0:=by
 delta X4O.F ln tN wI;have hb:=XuT (s:=a0) (w:=4);simp only[Bs,B0,B1,Yaa,X01]
 repeat' (with_reducible (first | (refine And.intro ?_ ?_) | intro _))
 all_goals (try simp (disch:=omega) only[w64,wu8,tn0,tn1,tm1,tm2,Yab,Yad,Yai]at*)
 all_goals (try simp (disch:=omega) only[w64,wu8,tn0,tn1,tm1,tm2,Yab,Yad,Yai]at*)
 all_goals (try omega)
 all_goals (try grind[X0n,X0R])
def X4O.e:GE:=mE Xav func166 [9,3,3] [X0X.e,X5r.e,X24.e] [] noL (λi x=>X4O.F x) λi x h _ hw=>X4O.p x h hw
theorem XnU(l:List Pt)(i:Nat):(l.map (·.1)).getD i 0=(l.getD i (0,0)).1:=by
 simp only[Yar,Ycj];cases l[i]?<;>rfl
theorem Xtg(l:List Pt)(i:Nat):(l.map (·.2)).getD i 0=(l.getD i (0,0)).2:=by
 simp only[Yar,Ycj];cases l[i]?<;>rfl
theorem XkN{l:List Pt}:X0N l=true↔l.length<=60/\∀j,j<l.length->Xig l j=true:=by
 simp only[X0N,Yac,Yaj,XiB]
theorem Xqk{l:List Pt}{i:Nat}:Xig l i=true↔Xeq (l.map (·.1)) i=true/\Xbv (l.map (·.2)) i=true:=by
 simp only[Xig,Xeq,Xbv,XnU,Xtg,Yac];exact⟨λh=>⟨⟨h.1,h.2.2⟩,h.2.1⟩,λh=>⟨h.1.1,h.2,h.1.2⟩⟩
theorem XrK{l:List Pt}:(X0N l=true/\l≠[])↔Xd0 (l.map (·.1))=true/\Xdv (l.map (·.2))=true:=by
 rw[XkN,X6q,X72];simp only[YcG,Xqk];constructor
 . rintro⟨⟨h1,h2⟩,h3⟩;have:=Ybj.2 h3;exact⟨⟨⟨by omega,h1⟩,λj hj=>(h2 j hj).1⟩,⟨by omega,h1⟩,λj hj=>(h2 j hj).2⟩
 . rintro⟨⟨h1,h2⟩,h3,h4⟩;exact⟨⟨h1.2,λj hj=>⟨h2 j hj,h4 j hj⟩⟩,Ybj.1 (by omega)⟩
def Xdl(l:List Pt):List UInt8:=X28 l.length++X0u (l.map (·.1))++X0q (l.map (·.2))
def RB(s:List UInt8)(l:List Pt):Prop:=(X0N l=true/\l≠[])/\X4d (Xdl l)=s
instance (s:List UInt8) (l:List Pt):Decidable (RB s l):=by unfold RB;infer_instance
def bN(s:List UInt8):Int:=(X0k (X0n s).1).1
def bA(s:List UInt8):Int:=(X0k (X0n s).1).2
def bT(s:List UInt8):List Int×Int:=X4V ((X0n s).1.drop (bA s).toNat) (bN s)
def bV(s:List UInt8):List Int×Int:=X53 ((X0n s).1.drop (bA s+(bT s).2).toNat) (bN s)
def bC(s:List UInt8):List Pt:=(bT s).1.zip (bV s).1
def X0s(s:List UInt8):List Pt×Bool:=if RB s (bC s) then(bC s,true) else([],false)
theorem Xsg{l:List Pt}(h:X0N l=true/\l≠[]):1<=(Xdl l).length/\(Xdl l).length<=2000:=by
 have h1:=Xaj h.1;have h2:=Ybj.2 h.2;have h3:=XbG (v:=(l.length:Int)) (by unfold X6r;omega);have h4:=X0x l.length;have h5:=Xac (l.map (·.1));have h6:=X9U (l.map (·.2));simp only[Xdl,Yab];omega
structure RBf (s:List UInt8) (l:List Pt):Prop where
 h1:X0n s=(Xdl l,((s.length:Int),0))
 h2:bN s=l.length
 h3:bA s=(X28 l.length).length
 h3':0<(X28 l.length).length
 h4:bT s=(l.map (·.1),((X0u (l.map (·.1))).length:Int))
 h4':0<(X0u (l.map (·.1))).length
 h5:bV s=(l.map (·.2),((X0q (l.map (·.2))).length:Int))
 h5':0<(X0q (l.map (·.2))).length
 h6:bC s=l
theorem Xpm:∀l:List Pt,(l.map (·.1)).zip (l.map (·.2))=l
 | []=>rfl
 | x::l=>by simp only[Yas,Ybp];rw[Xpm l]
theorem RB.facts{s:List UInt8}{l:List Pt}(h:RB s l):RBf s l:=by
 obtain⟨h0,rfl⟩:=h;have hb:=Xsg h0;obtain⟨hl,hu⟩:=XlG hb;have h1:=Xaj h0.1;have h2:=Ybj.2 h0.2;have hv:X6r (l.length:Int):=by unfold X6r;omega
 have h3:=XbG hv;obtain⟨k1,k2⟩:=XrK.1 h0;have q1:X0n (X4d (Xdl l))=(Xdl l,(((X4d (Xdl l)).length:Int),0)):=by rw[hu,hl];rfl
 have qv:X0k (Xdl l)=((l.length:Int),((X28 l.length).length:Int)):=by
  unfold Xdl;rw[Yam];exact Xqi hv _
 have q2:bN (X4d (Xdl l))=l.length:=by unfold bN;rw[q1,qv]
 have q3:bA (X4d (Xdl l))=(X28 l.length).length:=by unfold bA;rw[q1,qv]
 have e1:(Xdl l).drop (X28 l.length).length=X0u (l.map (·.1))++X0q (l.map (·.2)):=by
  unfold Xdl;rw[Yam,Ya4]
 have rt:RT (X0u (l.map (·.1))++X0q (l.map (·.2))) l.length (l.map (·.1)):=⟨by simp,k1,by rw[<-XaO k1,Ybl]⟩
 have q4:bT (X4d (Xdl l))=(l.map (·.1),((X0u (l.map (·.1))).length:Int)):=by
  unfold bT;rw[q1,q2,q3,YaG,e1,Xge rt,XaO k1]
 have e2:(Xdl l).drop ((X28 l.length).length+(X0u (l.map (·.1))).length)=X0q (l.map (·.2)):=by
  rw[<-YaH,e1,Ya4]
 have rv:RV (X0q (l.map (·.2))) l.length (l.map (·.2)):=⟨by simp,k2,by rw[<-XaN k2,Yat]⟩
 have q5:bV (X4d (Xdl l))=(l.map (·.2),((X0q (l.map (·.2))).length:Int)):=by
  unfold bV;rw[q1,q2,q3,q4];simp only;rw[show(((X28 l.length).length:Int)+((X0u (l.map (·.1))).length:Int)).toNat=(X28 l.length).length+(X0u (l.map (·.1))).length by omega,e2,XgK rv,XaN k2]
 have m1:(l.map (·.1)).length=l.length:=by simp
 have m2:(l.map (·.2)).length=l.length:=by simp
 exact⟨q1,q2,q3,h3,q4,by rw[XaO k1];exact Xg8 (XfE _ k1 0 (by omega)) _ (by omega),q5,by rw[XaN k2];exact Xg8 (XgG _ k2 0 (by omega)) _ (by omega),by unfold bC;rw[q4,q5];exact Xpm l⟩
theorem Xjz{s:List UInt8}{l:List Pt}(h:RB s l):(l,true)=X0s s:=by
 unfold X0s;rw[h.facts.h6,Yah h]
theorem XaH{s:List UInt8}(h:∀l,¬RB s l):([],false)=X0s s:=by
 unfold X0s;rw[Yae (h _)]
theorem RB.show{s:List UInt8}{l:List Pt}(h:RB s l):X04 l=s:=by
 unfold X04;rw[Yah h.1];exact h.2
theorem RB_of{s:List UInt8}{l:List Pt}(h:X04 l=s)(h2:s≠[]):RB s l:=by
 unfold X04 at h;split at h
 . rename_i h3;exact⟨h3,h⟩
 . exact absurd h.symm h2
theorem Xm5(s:List UInt8)(n:Int):0<=(X4V s n).2/\(X4V s n).2<=s.length/\((X4V s n).2=0->(X4V s n).1=[])/\((X4V s n).2≠0->RT s n (X4V s n).1):=by
 rcases XjG s n with⟨e,_⟩ | ⟨l,hl,e⟩
 . rw[e];simp
 . have h:=hl.2.2;have h2:=Ybh List.length h;rw[Yal]at h2;have h1:=(X6q.1 hl.2.1).1;have hp:=Xg8 (XfE l hl.2.1 0 (by omega)) l.length (by omega);rw[e];simp only;exact⟨by omega,by omega,λh=>by omega,λ_=>hl⟩
theorem Xm2(s:List UInt8)(n:Int):0<=(X53 s n).2/\(X53 s n).2<=s.length/\((X53 s n).2=0->(X53 s n).1=[])/\((X53 s n).2≠0->RV s n (X53 s n).1):=by
 rcases XjJ s n with⟨e,_⟩ | ⟨l,hl,e⟩
 . rw[e];simp
 . have h:=hl.2.2;have h2:=Ybh List.length h;rw[Yal]at h2;have h1:=(X72.1 hl.2.1).1;have hp:=Xg8 (XgG l hl.2.1 0 (by omega)) l.length (by omega);rw[e];simp only;exact⟨by omega,by omega,λh=>by omega,λ_=>hl⟩
theorem Xtd(s:List UInt8)(n:Int):(X4V s n).1.length<=60:=by
 rcases XjG s n with⟨e,_⟩ | ⟨l,hl,e⟩
 . rw[e];simp
 . rw[e];exact(X6q.1 hl.2.1).1.2
theorem Xrw(s:List UInt8)(n:Int):(X53 s n).1.length<=60:=by
 rcases XjJ s n with⟨e,_⟩ | ⟨l,hl,e⟩
 . rw[e];simp
 . rw[e];exact(X72.1 hl.2.1).1.2
theorem XtP{s:List UInt8}(h1:bA s≠0)(h2:(X0n s).2.1=s.length)(h3:(bT s).2≠0)(h4:(bV s).2≠0)(h5:bA s+(bT s).2+(bV s).2=(X0n s).1.length):RB s (bC s)/\((bC s).length:Int)=bN s/\((bT s).1.length:Int)=bN s/\((bV s).1.length:Int)=bN s:=by
 have hu:X4d (X0n s).1=s:=by
  rcases XfI s with h | h | h
  . exfalso;apply h1;unfold bA;rw[h];rfl
  . exfalso;apply h1;unfold bA;rw[h];rfl
  . rw[h.2.2.2.2.2,h2,YaG,Yat]
 obtain⟨v1,v2⟩:=XrY (s:=(X0n s).1) h1;have vb:=X4t (X0n s).1;have rt:RT ((X0n s).1.drop (bA s).toNat) (bN s) (bT s).1:=(Xm5 ((X0n s).1.drop (bA s).toNat) (bN s)).2.2.2 h3;have rv:RV ((X0n s).1.drop (bA s+(bT s).2).toNat) (bN s) (bV s).1:=(Xm2 ((X0n s).1.drop (bA s+(bT s).2).toNat) (bN s)).2.2.2 h4;have t1:=rt.1;have t2:=rv.1;have z1:((bC s).length:Int)=bN s:=by
  unfold bC;rw[YcH];change ((min (bT s).1.length (bV s).1.length:Nat):Int)=bN s;have e1:((bT s).1.length:Int)=bN s:=t1;have e2:((bV s).1.length:Int)=bN s:=t2;omega
 have eT:(bC s).map (·.1)=(bT s).1:=by
  unfold bC;exact List.map_fst_zip (by have e1:((bT s).1.length:Int)=bN s:=t1;have e2:((bV s).1.length:Int)=bN s:=t2;omega)
 have eV:(bC s).map (·.2)=(bV s).1:=by
  unfold bC;exact List.map_snd_zip (by have e1:((bT s).1.length:Int)=bN s:=t1;have e2:((bV s).1.length:Int)=bN s:=t2;omega)
 refine⟨⟨XrK.2 ⟨by rw[eT];exact rt.2.1,by rw[eV];exact rv.2.1⟩,?_⟩,z1,t1,t2⟩;have kT:(bT s).2=((X0u (bT s).1).length:Int):=by
  rw[XaO rt.2.1];have:=Xge rt;exact Ybh Prod.snd this
 have kV:(bV s).2=((X0q (bV s).1).length:Int):=by
  rw[XaN rv.2.1];have:=XgK rv;exact Ybh Prod.snd this
 have gT:((X0n s).1.drop (bA s).toNat).take (bT s).2.toNat=X0u (bT s).1:=by
  rw[kT,YaG,XaO rt.2.1];exact rt.2.2
 have gV:((X0n s).1.drop (bA s+(bT s).2).toNat).take (bV s).2.toNat=X0q (bV s).1:=by
  rw[kV,YaG,XaN rv.2.1];exact rv.2.2
 have e:Xdl (bC s)=(X0n s).1:=by
  unfold Xdl;rw[z1,eT,eV];have gN:X28 (bN s)=(X0n s).1.take (bA s).toNat:=v1.symm;have b1:0<=bA s:=vb.2.2.1;rw[gN,<-gT,<-gV,show(bA s+(bT s).2).toNat=(bA s).toNat+(bT s).2.toNat by omega,<-YcY,<-YcY,Ya1 (by omega)]
 rw[e,hu]
def rbI(s:List UInt8)(i:Int)(out:List Pt):Prop:=0<=i/\i<=(bC s).length/\(out.length:Int)=i/\out=(bC s).take i.toNat
def rbM(s:List UInt8)(i:Int)(out:List Pt):Nat:=((bC s).length - i).toNat
theorem Xz0{s:List UInt8}{i:Nat}(h:i<(bC s).length):(bC s).getD i (0,0)=((bT s).1.getD i 0,(bV s).1.getD i 0):=by
 unfold bC at h ⊢;have h':=h;rw[YcH]at h;simp only[Yar];rw[Yax h',Yax (show i<(bT s).1.length by omega),Yax (show i<(bV s).1.length by omega)];simp
theorem Xrc{l:List Pt}{i:Nat}(hi:i<l.length):l.take (i+1)=l.take i++[l.getD i (0,0)]:=by
 rw[Ydo,Yar,Yax hi];rfl
theorem XrG{s:List UInt8}{i:Int}{out:List Pt}(h:rbI s i out)(hi:i<(bC s).length):rbI s (i+1) (out++[((bT s).1.getD i.toNat 0,(bV s).1.getD i.toNat 0)]):=by
 obtain⟨h1,h2,h3,h4⟩:=h;refine⟨by omega,by omega,by simp;omega,?_⟩;rw[show(i+1).toNat=i.toNat+1 by omega,Xrc (by omega),Xz0 (by omega),h4]
theorem Xt3{s:List UInt8}{i:Int}{out:List Pt}(h:rbI s i out)(hi:¬i<(bC s).length):out=bC s:=by
 obtain⟨h1,h2,h3,h4⟩:=h;rw[h4,Ya1 (by omega)]
def X8b:Con:=cW .str [.one] (.pair X7N .bool) [(false,1),(false,1)] [(0,112)] (λ_=>True) λa=>(X0s a)
def X1g.F(a0:U7q):Prop:=True/\∀r1,rU r1 (X0n a0)->True/\∀r2,rU r2 (X0k r1.1.1)->X00 (r2.1.2==0) (rE (([]:U8q),false) (X0s a0)) (X00 (r1.1.2.1 !=ln a0) (rE (([]:U8q),false) (X0s a0)) (0<=r2.1.2/\r2.1.2<=ln r1.1.1/\pRd (List.drop (tN r2.1.2) r1.1.1) r2.1.1/\∀r3,rU r3 (X4V (List.drop (tN r2.1.2) r1.1.1) r2.1.1)->X00 (r3.1.2==0) (rE (([]:U8q),false) (X0s a0)) (0<=wI (r2.1.2+r3.1.2)/\wI (r2.1.2+r3.1.2)<=ln r1.1.1/\pRd (List.drop (tN (wI (r2.1.2+r3.1.2))) r1.1.1) r2.1.1/\∀r4,rU r4 (X53 (List.drop (tN (wI (r2.1.2+r3.1.2))) r1.1.1) r2.1.1)->X00 (r4.1.2==0) (rE (([]:U8q),false) (X0s a0)) (X00 (wI (wI (r2.1.2+r3.1.2)+r4.1.2)!=ln r1.1.1) (rE (([]:U8q),false) (X0s a0)) (eQ [(8,vI r2.1.1),(10,vL (.int .i64) r3.1.1),(12,vL (.int .i64) r4.1.1)]/\rbI a0 0 ([]:List (Int×Int))/\∀(y5:Int×U8q),rbI a0 y5.1 y5.2->dC (y5.1<r2.1.1) (iB y5.1 r3.1.1 (iB y5.1 r4.1.1 (lE y5.2 [(gA r3.1.1 y5.1 0,gA r4.1.1 y5.1 0)]/\(List.length y5.2+List.length [(gA r3.1.1 y5.1 0,gA r4.1.1 y5.1 0)])*16<=140737488355328/\eQ [(8,vI r2.1.1),(10,vL (.int .i64) r3.1.1),(12,vL (.int .i64) r4.1.1)]/\rbI a0 (wI (y5.1+1)) (y5.2++[(gA r3.1.1 y5.1 0,gA r4.1.1 y5.1 0)])/\rbM a0 (wI (y5.1+1)) (y5.2++[(gA r3.1.1 y5.1 0,gA r4.1.1 y5.1 0)])<rbM a0 y5.1 y5.2))) (rE (y5.2,true) (X0s a0)))))))
def X1g.L(a0:U7q):Nat->Option X0f:=XLK [(16378,⟨⟨[8,10,12],[14,15],[],[kC 14 0 1001795 112]⟩,Xoh,λst y=>rbI a0 y.1 y.2,λst y=>rbM a0 y.1 y.2⟩)]
theorem X1g.p(a0:U7q)(h:True):X1g.F a0:=by
 delta X1g.F ln tN wI dC eQ gA iB lE rE rU vI vL;simp only[Bs,B0,B1,Yaa,X01];have u1:=XhM a0;have vb:=X4t (X0n a0).1;have tb:=Xm5 ((X0n a0).1.drop (bA a0).toNat) (bN a0);have wb:=Xm2 ((X0n a0).1.drop (bA a0+(bT a0).2).toNat) (bN a0);rw[Yap]at tb wb;change 0<=(bT a0).2/\(bT a0).2<=_/\((bT a0).2=0->(bT a0).1=[])/\((bT a0).2≠0->RT _ _ (bT a0).1) at tb;change 0<=(bV a0).2/\(bV a0).2<=_/\((bV a0).2=0->(bV a0).1=[])/\((bV a0).2≠0->RV _ _ (bV a0).1) at wb;have eN:(X0k (X0n a0).1).1=bN a0:=rfl;have eA:(X0k (X0n a0).1).2=bA a0:=rfl;rw[eN,eA]at vb;simp only[eN,eA];have eT:X4V ((X0n a0).1.drop (bA a0).toNat) (bN a0)=bT a0:=rfl;rw[eT,w64 (x:=bA a0+(bT a0).2) (by omega) (by omega)];have eV:X53 ((X0n a0).1.drop (bA a0+(bT a0).2).toNat) (bN a0)=bV a0:=rfl;rw[eV];rw[w64 (x:=bA a0+(bT a0).2+(bV a0).2) (by omega) (by omega)];refine⟨λh1=>XaH λl hl=>?_,λh1=>⟨λh2=>XaH λl hl=>?_,λh2=>⟨by omega,by omega,by unfold pRd;rw[Yap];omega,λh3=>XaH λl hl=>?_,λh3=>⟨by omega,by omega,by unfold pRd;rw[Yap];omega,λh4=>XaH λl hl=>?_,λh4=>⟨λh5=>XaH λl hl=>?_,λh5=>?_⟩⟩⟩⟩⟩
 . have f:=hl.facts;have:=f.h3;have:=f.h3';omega
 . have:=hl.facts.h1;rw[this]at h2;exact h2 rfl
 . have f:=hl.facts;have h6:=f.h4;have:=f.h4';rw[h6]at h3;simp only at h3;omega
 . have f:=hl.facts;have h6:=f.h5;have:=f.h5';rw[h6]at h4;simp only at h4;omega
 . have f:=hl.facts;rw[f.h1,f.h3,f.h4,f.h5]at h5;simp only[Xdl,Yab]at h5;omega
 . obtain⟨hR,z1,z2,z3⟩:=XtP h1 h2 h3 h4 h5;have h60:=Xaj hR.1.1;refine⟨⟨by omega,by omega,rfl,by simp⟩,λy hI=>?_⟩;obtain⟨i,out⟩:=y;simp only at hI ⊢;have g1:=hI.1;have g2:=hI.2.1;have g3:=hI.2.2.1;refine⟨λhi=>?_,λhi=>?_⟩
   . rw[w64 (x:=i+1) (by omega) (by omega)];exact⟨by omega,by omega,by omega,by omega,by omega,by omega,XrG hI (by omega),by unfold rbM;omega⟩
   . rw[Xt3 hI (by omega)];exact Xjz hR
def X1g.e:GE:=mE X8b func80 [113,4] [X4K.e,X2D.e,X2v.e,X1X.e] [] (λi x=>X1g.L x) (λi x=>X1g.F x) λi x h _ _=>X1g.p x h
def X8m:Con:=cW .str [.one] (.pair X7N .bool) [(false,1),(false,1)] [(0,112)] (λ_=>True) λa=>(X0s a)
def X1B.F(a0:U7q):Prop:=True/\∀r1,rU r1 (X0n a0)->True/\∀r2,rU r2 (X0k r1.1.1)->X00 (r1.1.2.2 !=0) (rE (([]:U8q),false) (X0s a0)) (X00 (r2.1.2==0) (rE (([]:U8q),false) (X0s a0)) (0<=r2.1.2/\r2.1.2<=ln r1.1.1/\True/\∀r3,rU r3 (X4V (List.drop (tN r2.1.2) r1.1.1) r2.1.1)->0<=wI (r2.1.2+r3.1.2)/\wI (r2.1.2+r3.1.2)<=ln r1.1.1/\True/\∀r4,rU r4 (X53 (List.drop (tN (wI (r2.1.2+r3.1.2))) r1.1.1) r2.1.1)->X00 (ln r3.1.1 !=r2.1.1) (rE (([]:U8q),false) (X0s a0)) (X00 (ln r4.1.1 !=r2.1.1) (rE (([]:U8q),false) (X0s a0)) (eQ [(0,vS a0),(11,vL (.int .i64) r4.1.1),(62,vL (.int .i64) r3.1.1),(63,vI (ln r3.1.1))]/\rbI a0 0 ([]:List (Int×Int))/\∀(y5:Int×U8q),rbI a0 y5.1 y5.2->dC (y5.1<ln r3.1.1) (iB y5.1 r3.1.1 (iB y5.1 r4.1.1 (lE y5.2 [(gA r3.1.1 y5.1 0,gA r4.1.1 y5.1 0)]/\(List.length y5.2+List.length [(gA r3.1.1 y5.1 0,gA r4.1.1 y5.1 0)])*16<=140737488355328/\eQ [(0,vS a0),(11,vL (.int .i64) r4.1.1),(62,vL (.int .i64) r3.1.1),(63,vI (ln r3.1.1))]/\rbI a0 (wI (y5.1+1)) (y5.2++[(gA r3.1.1 y5.1 0,gA r4.1.1 y5.1 0)])/\rbM a0 (wI (y5.1+1)) (y5.2++[(gA r3.1.1 y5.1 0,gA r4.1.1 y5.1 0)])<rbM a0 y5.1 y5.2))) (True/\∀r6,rU r6 (X04 y5.2)->X00 (!r6.1==a0) (rE (([]:U8q),false) (X0s a0)) (rE (y5.2,true) (X0s a0)))))))
def X1B.L(a0:U7q):Nat->Option X0f:=XLK [(4090,⟨⟨[0,11,62,63],[13,64],[],[kC 13 0 1001667 112]⟩,Xoh,λst y=>rbI a0 y.1 y.2,λst y=>rbM a0 y.1 y.2⟩)]
theorem X1B.p(a0:U7q)(h:True):X1B.F a0:=by
 delta X1B.F ln tN wI dC eQ gA iB lE rE rU vI vL vS;simp only[Bs,B0,B1,Yaa,X01];have u1:=XhM a0;have vb:=X4t (X0n a0).1;have tb:=Xm5 ((X0n a0).1.drop (bA a0).toNat) (bN a0);have wb:=Xm2 ((X0n a0).1.drop (bA a0+(bT a0).2).toNat) (bN a0);rw[Yap]at tb wb;change 0<=(bT a0).2/\(bT a0).2<=_/\((bT a0).2=0->(bT a0).1=[])/\((bT a0).2≠0->RT _ _ (bT a0).1) at tb;change 0<=(bV a0).2/\(bV a0).2<=_/\((bV a0).2=0->(bV a0).1=[])/\((bV a0).2≠0->RV _ _ (bV a0).1) at wb;have eN:(X0k (X0n a0).1).1=bN a0:=rfl;have eA:(X0k (X0n a0).1).2=bA a0:=rfl;rw[eN,eA]at vb;simp only[eN,eA];have eT:X4V ((X0n a0).1.drop (bA a0).toNat) (bN a0)=bT a0:=rfl;rw[eT,w64 (x:=bA a0+(bT a0).2) (by omega) (by omega)];have eV:X53 ((X0n a0).1.drop (bA a0+(bT a0).2).toNat) (bN a0)=bV a0:=rfl;rw[eV];have tl:(bT a0).1.length<=60:=Xtd _ _;have wl:(bV a0).1.length<=60:=Xrw _ _;refine⟨λh1=>XaH λl hl=>?_,λh1=>⟨λh2=>XaH λl hl=>?_,λh2=>⟨by omega,by omega,by omega,by omega,λh3=>XaH λl hl=>?_,λh3=>⟨λh4=>XaH λl hl=>?_,λh4=>?_⟩⟩⟩⟩
 . have:=hl.facts.h1;rw[this]at h1;exact h1 rfl
 . have f:=hl.facts;have:=f.h3;have:=f.h3';omega
 . have f:=hl.facts;rw[f.h4,f.h2]at h3;exact h3 (by simp)
 . have f:=hl.facts;rw[f.h5,f.h2]at h4;exact h4 (by simp)
 . have zl:(bC a0).length=(bT a0).1.length:=by unfold bC;rw[YcH];omega
   refine⟨⟨by omega,by omega,rfl,by simp⟩,λy hI=>?_⟩;obtain⟨i,out⟩:=y;simp only at hI ⊢;have g1:=hI.1;have g2:=hI.2.1;have g3:=hI.2.2.1;refine⟨λhi=>?_,λhi=>?_⟩
   . rw[w64 (x:=i+1) (by omega) (by omega)];exact⟨by omega,by omega,by omega,by omega,by omega,by omega,XrG hI (by omega),by unfold rbM;omega⟩
   . have e:=Xt3 hI (by omega);have hs:a0≠[]:=λh=>by
      subst h;have:X0n ([]:List UInt8)=([],0,1):=rfl;rw[this]at h1;exact absurd h1 (by decide)
     refine⟨λh5=>XaH λl hl=>h5 ?_,λh5=>Xjz (RB_of h5 hs)⟩;rw[e,hl.facts.h6];exact hl.show
def X1B.e:GE:=mE X8m func136 [113,4] [X1z.e,X4O.e,X30.e,X2m.e,X1M.e] [] (λi x=>X1B.L x) (λi x=>X1B.F x) λi x h _ _=>X1B.p x h
def Xbl(i:Rd)(n:Int):List UInt8×Rd:=if i.2=true/\n<=i.1.length then(i.1.take n.toNat,(i.1.drop n.toNat,true)) else([],(i.1,false))
def XmE(i:Rd)(n:Int):Prop:=0<=n
def X5A(i:Rd):List UInt8×Rd:=Xbl (X6T i).2 (X6T i).1
def Xoe(s:List UInt8):Prop:=s.length<=maxLen
def X7g:Con:={io:=true,I:=(.pair .str .bool),A:=(.int .i64),shA:=[.one],R:=.str,shR:=[(false,1)],pre:=λi a=>(XmE i a),f:=some λi a=>((Xbl i a).1,((Xbl i a).2,()))}
def X3Y.F(i0:(U7q×Bool))(a0:Int):Prop:=X00 (!i0.2) (Eq ([],(i0.1,false),()) ((Xbl i0 a0).1,(Xbl i0 a0).2,())) (X00 (decide (a0>ln i0.1)) (Eq ([],(i0.1,false),()) ((Xbl i0 a0).1,(Xbl i0 a0).2,())) (0<=a0/\a0<=ln i0.1/\0<=a0/\a0<=ln i0.1/\Eq (List.take (tN a0) i0.1,(List.drop (tN a0) i0.1,i0.2),()) ((Xbl i0 a0).1,(Xbl i0 a0).2,())))
theorem X3Y.p(i0:(U7q×Bool))(a0:Int)(h:(XmE i0 a0))(hi:Wf X7g.I i0)(hw:Wf X7g.A a0):X3Y.F i0 a0:=by
 delta X3Y.F ln tN;have h0:0<=a0:=h;simp only[Bs,B0,B1,Yaa,X01,XmE,Yay]
 repeat' (with_reducible (first | (refine And.intro ?_ ?_) | intro _))
 all_goals (try simp (disch:=omega) only[w64,wu8,tn0,tn1,tm1,tm2,Yab,Yad,Yai]at*)
 all_goals (try simp (disch:=omega) only[w64,wu8,tn0,tn1,tm1,tm2,Yab,Yad,Yai]at*)
 all_goals (try omega)
 all_goals (try grind[Xbl])
def X3Y.e:GE:=mE X7g func212 [9] [] [] noL (λi x=>X3Y.F i x) λi x h hi hw=>X3Y.p i x h (hi rfl) hw
def X6W:Con:={io:=true,I:=(.pair .str .bool),A:=.unit,shA:=[],R:=.str,shR:=[(false,1)],pre:=λi _=>True,f:=some λi a=>((X5A i).1,((X5A i).2,()))}
def X3X.F(i0:(U7q×Bool)):Prop:=True/\∀r1,Eq r1 ((X6T (i0.1,i0.2)).1,(X6T (i0.1,i0.2)).2,())->XmE (r1.2.1.1,r1.2.1.2) r1.1/\∀r2,Eq r2 ((Xbl (r1.2.1.1,r1.2.1.2) r1.1).1,(Xbl (r1.2.1.1,r1.2.1.2) r1.1).2,())->Eq (r2.1,(r2.2.1.1,r2.2.1.2),()) ((X5A i0).1,(X5A i0).2,())
theorem X3X.p(i0:(U7q×Bool))(h:True):X3X.F i0:=by
 unfold X3X.F;simp only[Bs,B0,B1,Yaa,X01,XmE,Yay];exact⟨(XpQ i0).1,rfl,rfl⟩
def X3X.e:GE:=mE X6W func189 [9] [X40.e,X3Y.e] [] noL (λi x=>X3X.F i) λi x h _ _=>X3X.p i h
theorem XrS(i:Rd)(n:Int):(Xbl i n).1.length<=i.1.length/\(Xbl i n).2.1.length<=i.1.length:=by
 unfold Xbl;split
 . simp only[Yal,Yap];omega
 . simp
theorem XjK(i:Rd):(X6T i).2.1.length<=i.1.length:=by
 unfold X6T;split
 . simp only[Yap];omega
 . simp
theorem XsV(i:Rd):(X5A i).1.length<=i.1.length/\(X5A i).2.1.length<=i.1.length:=by
 have h1:=XrS (X6T i).2 (X6T i).1;have h2:=XjK i;unfold X5A;omega
theorem Xwu{i:Rd}(h:i.2=true)(h2:(X0k i.1).2≠0):X6T i=((X0k i.1).1,(i.1.drop (X0k i.1).2.toNat,true)):=by
 have:=X4t i.1;unfold X6T;rw[Yah ⟨h,by omega⟩]
theorem Xky(s:List UInt8)(a b:Nat):(s.take (a+b)).drop a=(s.drop a).take b:=by
 rw[YbQ];congr 1;omega
end Go.Proofs.YthpdkligbfbjeaaGreat.B
