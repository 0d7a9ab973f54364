/- Part 4 of the walk: contracts of functions, their formulas and proofs. -/
import Derived.Shelf.Spec.SlicesInsertGrow
import Derived.Test.YthpdkligbfbjeaaGreatWD
import Derived.Test.YthpdkligbfbjeaaGreatXC
set_option maxRecDepth 100000
set_option linter.unusedVariables false
set_option linter.unusedSimpArgs false
namespace Go.Proofs.YthpdkligbfbjeaaGreat.B
open Go Go.Proofs.YthpdkligbfbjeaaGreat.Bv Go.Proofs.Tryz
def XfQ(c:Int×(Int×Int))(p:Bkt):Bool:=XdL p.1 c.2.2
def XhQ(l:List Bkt)(c:Int×(Int×Int)):Prop:=l.length<=1099511627776
def Xb0(l:List Bkt)(c:Int×(Int×Int)):Int:=if l.findIdx (XfQ c)<l.length then((l.findIdx (XfQ c):Nat):Int) else -1
def XqJ(l:List Bkt)(c:Int×(Int×Int))(i:Int):Prop:=0<=i/\i<=l.length/\∀j,j<i.toNat->XfQ c (l.getD j (0,0))=false
def XuK(l:List Bkt)(c:Int×(Int×Int))(i:Int):Nat:=(l.length - i).toNat
theorem XuN{l:List Bkt}{c:Int×(Int×Int)}{i:Int}(h:XqJ l c i)(hi:i<l.length)(hd:XfQ c (l.getD i.toNat (0,0))=true):i=Xb0 l c:=by
 obtain⟨h1,h2,h3⟩:=h;have e:l.findIdx (XfQ c)=i.toNat:=by
  refine(YcF (by omega)).2 ⟨by rw[X0O (by omega)]at hd;exact hd,λj hj=>?_⟩;have:=h3 j hj;rw[X0O (by omega)]at this;exact this
 unfold Xb0;rw[e,Yah (by omega)];omega
theorem XwM{l:List Bkt}{c:Int×(Int×Int)}{i:Int}(h:XqJ l c i)(hi:¬i<l.length):-1=Xb0 l c:=by
 obtain⟨h1,h2,h3⟩:=h;have e:¬l.findIdx (XfQ c)<l.length:=λhlt=>by
  have a:=Yby (w:=hlt);have b:=h3 (l.findIdx (XfQ c)) (by omega);rw[X0O hlt,a]at b;cases b
 unfold Xb0;rw[Yae e]
def XkS(l:List Bkt)(c:Int×(Int×Int)):List Bkt:=l.filter λp=>!XfQ c p
structure Xrp (l:List Bkt) (c:Int×(Int×Int)) (i j:Int) (s:List Bkt):Prop where
 h1:0<=i
 h2:i<j
 h3:j<=l.length
 h4:s.length=l.length
 h5:s.take i.toNat=(l.take j.toNat).filter λp=>!XfQ c p
 h6:s.drop j.toNat=l.drop j.toNat
def XwL(l:List Bkt)(c:Int×(Int×Int))(i j:Int)(s:List Bkt):Nat:=(l.length - j).toNat
theorem Xuo{l:List Bkt}{c:Int×(Int×Int)}(h:¬Xb0 l c= -1):0<=Xb0 l c/\Xb0 l c<l.length/\Xrp l c (Xb0 l c) (Xb0 l c+1) l:=by
 unfold Xb0 at h ⊢;split at h
 . rename_i hlt;rw[Yah hlt];refine⟨by omega,by omega,⟨by omega,by omega,by omega,rfl,?_,rfl⟩⟩;rw[tn1 (by omega),YaG,X0M (0,0) hlt,Ya2];have a:=Yby (w:=hlt);have hk:(l.take (l.findIdx (XfQ c))).filter (λp=>!XfQ c p)=l.take (l.findIdx (XfQ c)):=Yb0.2 λx hx=>by
    obtain⟨k,hk,e⟩:=YaM hx;rw[Yal]at hk;have:=YcW (xs:=l) (p:=XfQ c) (i:=k) (by omega);rw[YcS]at e;rw[<-e];simpa using this
   rw[hk,X0O hlt];simp[a]
 . exact absurd rfl h
theorem Xx7{l:List Bkt}{c:Int×(Int×Int)}(h:Xb0 l c= -1):l=XkS l c:=by
 unfold Xb0 at h;split at h
 . omega
 . rename_i hn;refine(Yb0.2 λx hx=>?_).symm;have:=YcU.1 (Ydv (YcV (p:=XfQ c)) (by omega)) x hx;simp[this]
theorem Xxj{l:List Bkt}{c:Int×(Int×Int)}{i j:Int}{s:List Bkt}(h:Xrp l c i j s)(hj:j<l.length):s.getD j.toNat (0,0)=l.getD j.toNat (0,0):=by
 obtain⟨h1,h2,h3,h4,h5,h6⟩:=h;have a:=X3J (0,0) (l:=s) (i:=j.toNat) (by omega);have b:=X3J (0,0) (l:=l) (i:=j.toNat) (by omega);rw[a,b]at h6;exact(List.cons.inj h6).1
theorem Xu3{l:List Bkt}{c:Int×(Int×Int)}{i j:Int}{s:List Bkt}(h:Xrp l c i j s)(hj:j<l.length)(hd:XfQ c (l.getD j.toNat (0,0))=false):Xrp l c (i+1) (j+1) (s.set i.toNat (l.getD j.toNat (0,0))):=by
 obtain⟨h1,h2,h3,h4,h5,h6⟩:=h;refine⟨by omega,by omega,by omega,by rw[YaX,h4],?_,?_⟩
 . rw[tn1 h1,tn1 (by omega:0<=j),X0M (0,0) (by omega:j.toNat<l.length),Ya2,<-h5];have:(s.set i.toNat (l.getD j.toNat (0,0))).take (i.toNat+1)=s.take i.toNat++[l.getD j.toNat (0,0)]:=by
    rw[X0M (0,0) (by rw[YaX];omega),Yco (YaC _)]
    congr 2
    rw[Yar,Yb2 (by omega)];rfl
   rw[this];generalize l.getD j.toNat (0,0)=x at hd ⊢;simp[hd]
 . rw[tn1 (by omega:0<=j),Ycn (by omega),<-YaH,h6,YaH]
theorem XuP{l:List Bkt}{c:Int×(Int×Int)}{i j:Int}{s:List Bkt}(h:Xrp l c i j s)(hj:j<l.length)(hd:XfQ c (l.getD j.toNat (0,0))=true):Xrp l c i (j+1) s:=by
 obtain⟨h1,h2,h3,h4,h5,h6⟩:=h;refine⟨by omega,by omega,by omega,h4,?_,?_⟩
 . rw[tn1 (by omega:0<=j),X0M (0,0) (by omega:j.toNat<l.length),Ya2,<-h5];generalize l.getD j.toNat (0,0)=x at hd ⊢;simp[hd]
 . rw[tn1 (by omega:0<=j),<-YaH,h6,YaH]
theorem Xwy{l:List Bkt}{c:Int×(Int×Int)}{i j:Int}{s r:List Bkt}(h:Xrp l c i j s)(hj:¬j<l.length):List.take i.toNat (List.take i.toNat s++r)=XkS l c:=by
 obtain⟨h1,h2,h3,h4,h5,h6⟩:=h;have e:j.toNat=l.length:=by omega
 rw[e,Yat]at h5;rw[YaZ (by rw[Yal];omega),YbL,Nat.min_self,h5];rfl
def XfR(c:Int×(Int×Int))(p:Int):Bool:=XdL p c.2.2
def Xi4(l:List Int)(c:Int×(Int×Int)):Prop:=l.length<=1099511627776
def XaZ(l:List Int)(c:Int×(Int×Int)):Int:=if l.findIdx (XfR c)<l.length then((l.findIdx (XfR c):Nat):Int) else -1
def XqC(l:List Int)(c:Int×(Int×Int))(i:Int):Prop:=0<=i/\i<=l.length/\∀j,j<i.toNat->XfR c (l.getD j 0)=false
def Xuu(l:List Int)(c:Int×(Int×Int))(i:Int):Nat:=(l.length - i).toNat
theorem Xvc{l:List Int}{c:Int×(Int×Int)}{i:Int}(h:XqC l c i)(hi:i<l.length)(hd:XfR c (l.getD i.toNat 0)=true):i=XaZ l c:=by
 obtain⟨h1,h2,h3⟩:=h;have e:l.findIdx (XfR c)=i.toNat:=by
  refine(YcF (by omega)).2 ⟨by rw[X0O (by omega)]at hd;exact hd,λj hj=>?_⟩;have:=h3 j hj;rw[X0O (by omega)]at this;exact this
 unfold XaZ;rw[e,Yah (by omega)];omega
theorem Xws{l:List Int}{c:Int×(Int×Int)}{i:Int}(h:XqC l c i)(hi:¬i<l.length):-1=XaZ l c:=by
 obtain⟨h1,h2,h3⟩:=h;have e:¬l.findIdx (XfR c)<l.length:=λhlt=>by
  have a:=Yby (w:=hlt);have b:=h3 (l.findIdx (XfR c)) (by omega);rw[X0O hlt,a]at b;cases b
 unfold XaZ;rw[Yae e]
def Xj6(l:List Int)(c:Int×(Int×Int)):List Int:=l.filter λp=>!XfR c p
structure Xrn (l:List Int) (c:Int×(Int×Int)) (i j:Int) (s:List Int):Prop where
 h1:0<=i
 h2:i<j
 h3:j<=l.length
 h4:s.length=l.length
 h5:s.take i.toNat=(l.take j.toNat).filter λp=>!XfR c p
 h6:s.drop j.toNat=l.drop j.toNat
def Xxg(l:List Int)(c:Int×(Int×Int))(i j:Int)(s:List Int):Nat:=(l.length - j).toNat
theorem XuY{l:List Int}{c:Int×(Int×Int)}(h:¬XaZ l c= -1):0<=XaZ l c/\XaZ l c<l.length/\Xrn l c (XaZ l c) (XaZ l c+1) l:=by
 unfold XaZ at h ⊢;split at h
 . rename_i hlt;rw[Yah hlt];refine⟨by omega,by omega,⟨by omega,by omega,by omega,rfl,?_,rfl⟩⟩;rw[tn1 (by omega),YaG,X0M 0 hlt,Ya2];have a:=Yby (w:=hlt);have hk:(l.take (l.findIdx (XfR c))).filter (λp=>!XfR c p)=l.take (l.findIdx (XfR c)):=Yb0.2 λx hx=>by
    obtain⟨k,hk,e⟩:=YaM hx;rw[Yal]at hk;have:=YcW (xs:=l) (p:=XfR c) (i:=k) (by omega);rw[YcS]at e;rw[<-e];simpa using this
   rw[hk,X0O hlt];simp[a]
 . exact absurd rfl h
theorem XwZ{l:List Int}{c:Int×(Int×Int)}(h:XaZ l c= -1):l=Xj6 l c:=by
 unfold XaZ at h;split at h
 . omega
 . rename_i hn;refine(Yb0.2 λx hx=>?_).symm;have:=YcU.1 (Ydv (YcV (p:=XfR c)) (by omega)) x hx;simp[this]
theorem Xwh{l:List Int}{c:Int×(Int×Int)}{i j:Int}{s:List Int}(h:Xrn l c i j s)(hj:j<l.length):s.getD j.toNat 0=l.getD j.toNat 0:=by
 obtain⟨h1,h2,h3,h4,h5,h6⟩:=h;have a:=X3J 0 (l:=s) (i:=j.toNat) (by omega);have b:=X3J 0 (l:=l) (i:=j.toNat) (by omega);rw[a,b]at h6;exact(List.cons.inj h6).1
theorem Xu0{l:List Int}{c:Int×(Int×Int)}{i j:Int}{s:List Int}(h:Xrn l c i j s)(hj:j<l.length)(hd:XfR c (l.getD j.toNat 0)=false):Xrn l c (i+1) (j+1) (s.set i.toNat (l.getD j.toNat 0)):=by
 obtain⟨h1,h2,h3,h4,h5,h6⟩:=h;refine⟨by omega,by omega,by omega,by rw[YaX,h4],?_,?_⟩
 . rw[tn1 h1,tn1 (by omega:0<=j),X0M 0 (by omega:j.toNat<l.length),Ya2,<-h5];have:(s.set i.toNat (l.getD j.toNat 0)).take (i.toNat+1)=s.take i.toNat++[l.getD j.toNat 0]:=by
    rw[X0M 0 (by rw[YaX];omega),Yco (YaC _)]
    congr 2
    rw[Yar,Yb2 (by omega)];rfl
   rw[this];generalize l.getD j.toNat 0=x at hd ⊢;simp[hd]
 . rw[tn1 (by omega:0<=j),Ycn (by omega),<-YaH,h6,YaH]
theorem Xua{l:List Int}{c:Int×(Int×Int)}{i j:Int}{s:List Int}(h:Xrn l c i j s)(hj:j<l.length)(hd:XfR c (l.getD j.toNat 0)=true):Xrn l c i (j+1) s:=by
 obtain⟨h1,h2,h3,h4,h5,h6⟩:=h;refine⟨by omega,by omega,by omega,h4,?_,?_⟩
 . rw[tn1 (by omega:0<=j),X0M 0 (by omega:j.toNat<l.length),Ya2,<-h5];generalize l.getD j.toNat 0=x at hd ⊢;simp[hd]
 . rw[tn1 (by omega:0<=j),<-YaH,h6,YaH]
theorem Xwp{l:List Int}{c:Int×(Int×Int)}{i j:Int}{s r:List Int}(h:Xrn l c i j s)(hj:¬j<l.length):List.take i.toNat (List.take i.toNat s++r)=Xj6 l c:=by
 obtain⟨h1,h2,h3,h4,h5,h6⟩:=h;have e:j.toNat=l.length:=by omega
 rw[e,Yat]at h5;rw[YaZ (by rw[Yal];omega),YbL,Nat.min_self,h5];rfl
def dlB(p:Bkt)(c:Int×(Int×Int)):Bool:=XfQ c p
def Xxc(p:Int)(c:Int×(Int×Int)):Bool:=XfR c p
def X8u:Con:=cQ (.pair T0q (.pair (.int .i64) T0q)) [.agg 2,.pptr 3] .bool [(false,1)] (λ_=>True) λa=>(dlB a.1 a.2)
def X2o.F(a0:(Int×Int))(a1:Xo8):Prop:=True/\∀r1,Eq r1 (XdL a0.1 a1.2.2,(),())->Eq (r1.1,(),()) (dlB a0 a1,(),())
theorem X2o.p(a0:(Int×Int))(a1:Xo8)(h:True):X2o.F a0 a1:=by
 unfold X2o.F;simp only[Bs,B0,B1,Yaa,X01,dlB,XfQ]
def X2o.e:GE:=mE X8u func140 [4] [X5M.e] [] noL (λi x=>X2o.F x.1 x.2) λi x h _ _=>X2o.p x.1 x.2 h
def X7q:Con:=cQ (.pair (.int .i64) (.pair (.int .i64) T0q)) [.one,.pptr 3] .bool [(false,1)] (λ_=>True) λa=>(Xxc a.1 a.2)
def X1S.F(a0:Int)(a1:Xo8):Prop:=True/\∀r1,Eq r1 (XdL a0 a1.2.2,(),())->Eq (r1.1,(),()) (Xxc a0 a1,(),())
theorem X1S.p(a0:Int)(a1:Xo8)(h:True):X1S.F a0 a1:=by
 unfold X1S.F;simp only[Bs,B0,B1,Yaa,X01,Xxc,XfR]
def X1S.e:GE:=mE X7q func172 [4] [X5M.e] [] noL (λi x=>X1S.F x.1 x.2) λi x h _ _=>X1S.p x.1 x.2 h
def X19:Con:=cQ (.pair X7N (.pair (.int .i64) T0q)) [.one,.clop 140 3] (.int .i64) [(false,1)] (λa=>(XhQ a.1 a.2)) λa=>(Xb0 a.1 a.2)
def X0b.F(a0:U8q)(a1:Xo8):Prop:=eQ [(0,vL T0q a0),(1,.fn 140 [] [.pptr [.int .i64 a1.1,.int .i64 a1.2.1,.int .i64 a1.2.2]]),(7,vI (ln a0))]/\XqJ a0 a1 0/\∀(y1:Int),XqJ a0 a1 y1->dC (y1<ln a0) (iB y1 a0 (True/\∀r2,rU r2 (dlB ((gA a0 y1 (0,0)).1,(gA a0 y1 (0,0)).2) a1)->X00 r2.1 (rE y1 (Xb0 a0 a1)) (eQ [(0,vL T0q a0),(1,.fn 140 [] [.pptr [.int .i64 a1.1,.int .i64 a1.2.1,.int .i64 a1.2.2]]),(7,vI (ln a0))]/\XqJ a0 a1 (wI (y1+1))/\XuK a0 a1 (wI (y1+1))<XuK a0 a1 y1))) (rE (-1) (Xb0 a0 a1))
def X0b.L(a0:U8q)(a1:Xo8):Nat->Option X0f:=XLK [(26,⟨⟨[0,1,7],[8],[],[]⟩,(.int .i64),λst y=>XqJ a0 a1 y,λst y=>XuK a0 a1 y⟩)]
theorem X0b.p(a0:U8q)(a1:Xo8)(h:(XhQ a0 a1)):X0b.F a0 a1:=by
 delta X0b.F ln wI dC eQ gA iB rE rU vI vL tN;simp only[Bs,B0,B1,Yaa,X01,Yay,dlB];have hl:a0.length<=1099511627776:=h;refine⟨⟨by omega,by omega,λj hj=>absurd hj (by simp)⟩,?_⟩;rintro i hI;have q1:=hI.1;have q2:=hI.2.1;rw[w64 (x:=i+1) (by omega) (by omega)];refine⟨λhi=>⟨q1,hi,λhd=>XuN hI hi hd,λhd=>⟨⟨by omega,by omega,λj hj=>?_⟩,by unfold XuK;omega⟩⟩,λhi=>XwM hI hi⟩;by_cases e:j=i.toNat
 . rw[e];exact hd
 . exact hI.2.2 j (by omega)
def X0b.e:GE:=mE X19 func177 [3] [X2o.e] [] (λi x=>X0b.L x.1 x.2) (λi x=>X0b.F x.1 x.2) λi x h _ _=>X0b.p x.1 x.2 h
def X11:Con:={A:=(.pair X7N (.pair (.int .i64) T0q)),shA:=[.one,.clop 140 3],ownA:=[(0,78)],R:=X7N,shR:=[(false,1)],fresh:=[(0,78)],pre:=λ_ a=>(XhQ a.1 a.2),f:=some λ_ a=>((XkS a.1 a.2),((),()))}
def X09.F(a0:U8q)(a1:Xo8):Prop:=XhQ a0 a1/\∀r1,rU r1 (Xb0 a0 a1)->X00 (r1.1==(-1:Int)) (rE a0 (XkS a0 a1)) (eQ [(0,.val false [.own T0q 1000003]),(1,.fn 140 [] [.pptr [.int .i64 a1.1,.int .i64 a1.2.1,.int .i64 a1.2.2]])]/\Xrp a0 a1 r1.1 (wI (r1.1+1)) a0/\∀(y2:Int×Int×U8q),Xrp a0 a1 y2.1 y2.2.1 y2.2.2->dC (y2.2.1<ln y2.2.2) (iB y2.2.1 y2.2.2 (True/\∀r3,rU r3 (dlB ((gA y2.2.2 y2.2.1 (0,0)).1,(gA y2.2.2 y2.2.1 (0,0)).2) a1)->X00 (!r3.1) (iB y2.1 y2.2.2 (eQ [(0,.val false [.own T0q 1000003]),(1,.fn 140 [] [.pptr [.int .i64 a1.1,.int .i64 a1.2.1,.int .i64 a1.2.2]])]/\Xrp a0 a1 (wI (y2.1+1)) (wI (y2.2.1+1)) (List.set y2.2.2 (tN y2.1) ((gA y2.2.2 y2.2.1 (0,0)).1,(gA y2.2.2 y2.2.1 (0,0)).2))/\XwL a0 a1 (wI (y2.1+1)) (wI (y2.2.1+1)) (List.set y2.2.2 (tN y2.1) ((gA y2.2.2 y2.2.1 (0,0)).1,(gA y2.2.2 y2.2.1 (0,0)).2))<XwL a0 a1 y2.1 y2.2.1 y2.2.2)) (eQ [(0,.val false [.own T0q 1000003]),(1,.fn 140 [] [.pptr [.int .i64 a1.1,.int .i64 a1.2.1,.int .i64 a1.2.2]])]/\Xrp a0 a1 y2.1 (wI (y2.2.1+1)) y2.2.2/\XwL a0 a1 y2.1 (wI (y2.2.1+1)) y2.2.2<XwL a0 a1 y2.1 y2.2.1 y2.2.2))) (0<=y2.1/\y2.1<=ln y2.2.2/\tN y2.1<=List.length y2.2.2/\List.length y2.2.2<=List.length y2.2.2/\0<=y2.1/\y2.1<=ln (List.take (tN y2.1) y2.2.2++(List.replicate (List.length y2.2.2 - tN y2.1) ((0:Int),(0:Int))++List.drop (List.length y2.2.2) y2.2.2))/\rE (List.take (tN y2.1) (List.take (tN y2.1) y2.2.2++(List.replicate (List.length y2.2.2 - tN y2.1) ((0:Int),(0:Int))++List.drop (List.length y2.2.2) y2.2.2))) (XkS a0 a1)))
def X09.L(a0:U8q)(a1:Xo8):Nat->Option X0f:=XLK [(122,⟨⟨[0,1],[5,6],[],[kC 0 0 1000003 78]⟩,(.pair (.int .i64) Xoh),λst y=>Xrp a0 a1 y.1 y.2.1 y.2.2,λst y=>XwL a0 a1 y.1 y.2.1 y.2.2⟩)]
theorem X09.p(a0:U8q)(a1:Xo8)(h:(XhQ a0 a1)):X09.F a0 a1:=by
 delta X09.F ln tN wI dC eQ gA iB rE rU;simp only[Bs,B0,B1,Yaa,X01,Yay,XhQ,dlB];have hl:a0.length<=1099511627776:=h;refine⟨hl,λh1=>Xx7 h1,λh1=>?_⟩;obtain⟨z1,z2,z3⟩:=Xuo h1;rw[w64 (x:=Xb0 a0 a1+1) (by omega) (by omega)];refine⟨z3,?_⟩;rintro⟨i,j,s⟩ hI;simp only at hI ⊢;have q1:=hI.h1;have q2:=hI.h2;have q3:=hI.h3;have q4:=hI.h4;refine⟨λhj=>?_,λhj=>?_⟩
 . have hj':j<(a0.length:Int):=by omega
   have hg:=Xxj hI hj';rw[w64 (x:=i+1) (by omega) (by omega),w64 (x:=j+1) (by omega) (by omega)];simp only[hg];refine⟨by omega,by omega,λhd=>⟨by omega,by omega,Xu3 hI hj' hd,by unfold XwL;omega⟩,λhd=>⟨XuP hI hj' hd,by unfold XwL;omega⟩⟩
 . have hj':¬j<(a0.length:Int):=by omega
   have he:=λr=>Xwy (r:=r) hI hj';exact⟨by omega,by omega,by omega,by omega,by omega,by simp only[Yal,YbS,Yap];omega,he _⟩
def X09.e:GE:=mE X11 func139 [34] [X2o.e,X0b.e] [41] (λi x=>X09.L x.1 x.2) (λi x=>X09.F x.1 x.2) λi x h _ _=>X09.p x.1 x.2 h
def X4h:Con:=cQ (.pair XfJ (.pair (.int .i64) T0q)) [.one,.clop 172 3] (.int .i64) [(false,1)] (λa=>(Xi4 a.1 a.2)) λa=>(XaZ a.1 a.2)
def X0t.F(a0:(List Int))(a1:Xo8):Prop:=eQ [(0,vL (.int .i64) a0),(1,.fn 172 [] [.pptr [.int .i64 a1.1,.int .i64 a1.2.1,.int .i64 a1.2.2]]),(7,vI (ln a0))]/\XqC a0 a1 0/\∀(y1:Int),XqC a0 a1 y1->dC (y1<ln a0) (iB y1 a0 (True/\∀r2,rU r2 (Xxc (gA a0 y1 0) a1)->X00 r2.1 (rE y1 (XaZ a0 a1)) (eQ [(0,vL (.int .i64) a0),(1,.fn 172 [] [.pptr [.int .i64 a1.1,.int .i64 a1.2.1,.int .i64 a1.2.2]]),(7,vI (ln a0))]/\XqC a0 a1 (wI (y1+1))/\Xuu a0 a1 (wI (y1+1))<Xuu a0 a1 y1))) (rE (-1) (XaZ a0 a1))
def X0t.L(a0:(List Int))(a1:Xo8):Nat->Option X0f:=XLK [(26,⟨⟨[0,1,7],[8],[],[]⟩,(.int .i64),λst y=>XqC a0 a1 y,λst y=>Xuu a0 a1 y⟩)]
theorem X0t.p(a0:(List Int))(a1:Xo8)(h:(Xi4 a0 a1)):X0t.F a0 a1:=by
 delta X0t.F ln wI dC eQ gA iB rE rU vI vL tN;simp only[Bs,B0,B1,Yaa,X01,Yay,Xxc];have hl:a0.length<=1099511627776:=h;refine⟨⟨by omega,by omega,λj hj=>absurd hj (by simp)⟩,?_⟩;rintro i hI;have q1:=hI.1;have q2:=hI.2.1;rw[w64 (x:=i+1) (by omega) (by omega)];refine⟨λhi=>⟨q1,hi,λhd=>Xvc hI hi hd,λhd=>⟨⟨by omega,by omega,λj hj=>?_⟩,by unfold Xuu;omega⟩⟩,λhi=>Xws hI hi⟩;by_cases e:j=i.toNat
 . rw[e];exact hd
 . exact hI.2.2 j (by omega)
def X0t.e:GE:=mE X4h func196 [3] [X1S.e] [] (λi x=>X0t.L x.1 x.2) (λi x=>X0t.F x.1 x.2) λi x h _ _=>X0t.p x.1 x.2 h
def X3W:Con:={A:=(.pair XfJ (.pair (.int .i64) T0q)),shA:=[.one,.clop 172 3],ownA:=[(0,3)],R:=XfJ,shR:=[(false,1)],fresh:=[(0,3)],pre:=λ_ a=>(Xi4 a.1 a.2),f:=some λ_ a=>((Xj6 a.1 a.2),((),()))}
def X0r.F(a0:(List Int))(a1:Xo8):Prop:=Xi4 a0 a1/\∀r1,rU r1 (XaZ a0 a1)->X00 (r1.1==(-1:Int)) (rE a0 (Xj6 a0 a1)) (eQ [(0,.val false [.own (.int .i64) 1000003]),(1,.fn 172 [] [.pptr [.int .i64 a1.1,.int .i64 a1.2.1,.int .i64 a1.2.2]])]/\Xrn a0 a1 r1.1 (wI (r1.1+1)) a0/\∀(y2:Int×Int×List Int),Xrn a0 a1 y2.1 y2.2.1 y2.2.2->dC (y2.2.1<ln y2.2.2) (iB y2.2.1 y2.2.2 (True/\∀r3,rU r3 (Xxc (gA y2.2.2 y2.2.1 0) a1)->X00 (!r3.1) (iB y2.1 y2.2.2 (eQ [(0,.val false [.own (.int .i64) 1000003]),(1,.fn 172 [] [.pptr [.int .i64 a1.1,.int .i64 a1.2.1,.int .i64 a1.2.2]])]/\Xrn a0 a1 (wI (y2.1+1)) (wI (y2.2.1+1)) (List.set y2.2.2 (tN y2.1) (gA y2.2.2 y2.2.1 0))/\Xxg a0 a1 (wI (y2.1+1)) (wI (y2.2.1+1)) (List.set y2.2.2 (tN y2.1) (gA y2.2.2 y2.2.1 0))<Xxg a0 a1 y2.1 y2.2.1 y2.2.2)) (eQ [(0,.val false [.own (.int .i64) 1000003]),(1,.fn 172 [] [.pptr [.int .i64 a1.1,.int .i64 a1.2.1,.int .i64 a1.2.2]])]/\Xrn a0 a1 y2.1 (wI (y2.2.1+1)) y2.2.2/\Xxg a0 a1 y2.1 (wI (y2.2.1+1)) y2.2.2<Xxg a0 a1 y2.1 y2.2.1 y2.2.2))) (0<=y2.1/\y2.1<=ln y2.2.2/\tN y2.1<=List.length y2.2.2/\List.length y2.2.2<=List.length y2.2.2/\0<=y2.1/\y2.1<=ln (List.take (tN y2.1) y2.2.2++(List.replicate (List.length y2.2.2 - tN y2.1) (0:Int)++List.drop (List.length y2.2.2) y2.2.2))/\rE (List.take (tN y2.1) (List.take (tN y2.1) y2.2.2++(List.replicate (List.length y2.2.2 - tN y2.1) (0:Int)++List.drop (List.length y2.2.2) y2.2.2))) (Xj6 a0 a1)))
def X0r.L(a0:(List Int))(a1:Xo8):Nat->Option X0f:=XLK [(122,⟨⟨[0,1],[5,6],[],[kC 0 0 1000003 3]⟩,(.pair (.int .i64) (.pair (.int .i64) XfJ)),λst y=>Xrn a0 a1 y.1 y.2.1 y.2.2,λst y=>Xxg a0 a1 y.1 y.2.1 y.2.2⟩)]
theorem X0r.p(a0:(List Int))(a1:Xo8)(h:(Xi4 a0 a1)):X0r.F a0 a1:=by
 delta X0r.F ln tN wI dC eQ gA iB rE rU;simp only[Bs,B0,B1,Yaa,X01,Yay,Xi4,Xxc];have hl:a0.length<=1099511627776:=h;refine⟨hl,λh1=>XwZ h1,λh1=>?_⟩;obtain⟨z1,z2,z3⟩:=XuY h1;rw[w64 (x:=XaZ a0 a1+1) (by omega) (by omega)];refine⟨z3,?_⟩;rintro⟨i,j,s⟩ hI;simp only at hI ⊢;have q1:=hI.h1;have q2:=hI.h2;have q3:=hI.h3;have q4:=hI.h4;refine⟨λhj=>?_,λhj=>?_⟩
 . have hj':j<(a0.length:Int):=by omega
   have hg:=Xwh hI hj';rw[w64 (x:=i+1) (by omega) (by omega),w64 (x:=j+1) (by omega) (by omega)];simp only[hg];refine⟨by omega,by omega,λhd=>⟨by omega,by omega,Xu0 hI hj' hd,by unfold Xxg;omega⟩,λhd=>⟨Xua hI hj' hd,by unfold Xxg;omega⟩⟩
 . have hj':¬j<(a0.length:Int):=by omega
   have he:=λr=>Xwp (r:=r) hI hj';exact⟨by omega,by omega,by omega,by omega,by omega,by simp only[Yal,YbS,Yap];omega,he _⟩
def X0r.e:GE:=mE X3W func171 [147] [X1S.e,X0t.e] [41] (λi x=>X0r.L x.1 x.2) (λi x=>X0r.F x.1 x.2) λi x h _ _=>X0r.p x.1 x.2 h
section
open Go Go.Proofs.YthpdkligbfbjeaaGreat.Bv Go.Proofs Go.Shelf Go.RowKit Go.Lib
def X1c:Ren:=⟨λn=>if n=22 then 174 else if n=29 then 199 else if n=30 then 200 else n,λn=>if n=24 then 34 else if n=9 then 78 else n,λn=>n⟩
set_option maxRecDepth 100000 in
theorem X6p:Tryz.f174={Body2.n22 X1c with name:=Tryz.f174.name}:=by kernel_rfl
theorem X6B:Xi1 Tryz.prog X1c where
 mixed:=rfl
 f22:=⟨Tryz.f174.name,by kernel_rfl,by rw[<-X6p];exact func174⟩
 f29:=⟨Tryz.f199,func199,by kernel_rfl,by kernel_rfl,by kernel_rfl,by kernel_rfl⟩
 t0:=by kernel_rfl
 a0:=λw=>by kernel_rfl
 z0:=λw=>by kernel_rfl
 v0:=λw=>by kernel_rfl
 t3:=by kernel_rfl
 a3:=λw=>by kernel_rfl
 z3:=λw=>by kernel_rfl
 v3:=λw=>by kernel_rfl
 t4:=by kernel_rfl
 a4:=λw=>by kernel_rfl
 z4:=λw=>by kernel_rfl
 v4:=λw=>by kernel_rfl
 t24:=by kernel_rfl
 a24:=λw=>by kernel_rfl
 z24:=λw=>by kernel_rfl
 v24:=λw=>by kernel_rfl
 z9:=λw=>by kernel_rfl
 i9:=by
  obtain⟨i,z,h1,h2,h3,h4,h5⟩:=(XgY 78 _ rfl).info;have h6:z.cells.size=2:=by rw[<-Yaq,h5];rfl
  exact⟨i,z,h1,h4,h6.trans h2.symm,h2⟩
theorem X6Q:∀i,Tryz.prog.info? (X1c.t 9)=some i->i.bytes=16:=λi hi=>by
 obtain⟨i',z,h1,h2,h3,h4,h5⟩:=(XgY 78 _ rfl).info;have h1':Tryz.prog.info? (X1c.t 9)=some i':=h1;rw[h1']at hi;cases hi;exact h3
def X2g(l:List (Int×Int))(i:Int)(v:List (Int×Int)):List (Int×Int):=l.take i.toNat++(v++l.drop i.toNat)
def X4e(l:List (Int×Int))(i:Int)(v:List (Int×Int)):Prop:=0<=i/\i<=l.length/\0<v.length/\l.length+v.length<=1099511627776
def X4A:Con:={A:=(.pair X7N Xoh),shA:=[.one,.one,.one],ownA:=[(0,78),(2,78)],R:=X7N,shR:=[(false,1)],fresh:=[(0,78)],pre:=λ_ a=>(X4e a.1 a.2.1 a.2.2),f:=some λ_ a=>((X2g a.1 a.2.1 a.2.2),((),()))}
theorem X2V.ok:X0h Tryz.prog 174 X4A:=XtI (τ:=T0q) X6B rfl X6Q (by decide)
def X2V.e:GE:=⟨174,X4A,⟨_,func174,rfl,rfl⟩,X2V.ok⟩
end
def X6N:Con:=cQ (.pair T0q (.int .i64)) [.agg 2,.one] (.int .i64) [(false,1)] (λ_=>True) λa=>(Xik a.1 a.2)
def X1L.F(a0:(Int×Int))(a1:Int):Prop:=Eq (wI (a0.1 - a1),(),()) (Xik a0 a1,(),())
theorem X1L.p(a0:(Int×Int))(a1:Int)(h:True)(hw:Wf X6N.A (a0,a1)):X1L.F a0 a1:=by
 delta X1L.F wI;simp only[Bs,B0,B1,Yaa,X01,Xik,Yay]
 repeat' (with_reducible (first | (refine And.intro ?_ ?_) | intro _))
 all_goals (try simp (disch:=omega) only[w64,wu8,tn0,tn1,tm1,tm2,Yab,Yad,Yai]at*)
 all_goals (try simp (disch:=omega) only[w64,wu8,tn0,tn1,tm1,tm2,Yab,Yad,Yai]at*)
 all_goals (try omega)
 all_goals (try grind[])
def X1L.e:GE:=mE X6N func198 [3] [] [] noL (λi x=>X1L.F x.1 x.2) λi x h _ hw=>X1L.p x.1 x.2 h hw
def X0F:Con:=cQ (.pair X7N (.pair (.int .i64) .unit)) [.one,.one,.clo 198 []] Xpe [(false,1),(false,1)] (λa=>(pBs a.1 a.2.1 a.2.2)) λa=>(fBs a.1 a.2.1 a.2.2)
def X06.F(a0:U8q)(a1:Int)(a2:Unit):Prop:=eQ [(0,vL T0q a0),(1,vI a1),(2,.fn 198 [] []),(8,vI (ln a0))]/\bsI a0 a1 a2 0 (ln a0)/\∀(y1:Int×Int),bsI a0 a1 a2 y1.1 y1.2->dC (y1.1<y1.2) (0<=(1:Int)/\iB (wI (Int.fdiv (IntKind.wrap .u64 (wI (y1.1+y1.2))) (2^min (tN 1) (IntKind.bits .u64)))) a0 (True/\∀r2,rU r2 (Xik ((gA a0 (wI (Int.fdiv (IntKind.wrap .u64 (wI (y1.1+y1.2))) (2^min (tN 1) (IntKind.bits .u64)))) (0,0)).1,(gA a0 (wI (Int.fdiv (IntKind.wrap .u64 (wI (y1.1+y1.2))) (2^min (tN 1) (IntKind.bits .u64)))) (0,0)).2) a1)->dC (r2.1<0) (eQ [(0,vL T0q a0),(1,vI a1),(2,.fn 198 [] []),(8,vI (ln a0))]/\bsI a0 a1 a2 (wI (wI (Int.fdiv (IntKind.wrap .u64 (wI (y1.1+y1.2))) (2^min (tN 1) (IntKind.bits .u64)))+1)) y1.2/\bsM a0 a1 a2 (wI (wI (Int.fdiv (IntKind.wrap .u64 (wI (y1.1+y1.2))) (2^min (tN 1) (IntKind.bits .u64)))+1)) y1.2<bsM a0 a1 a2 y1.1 y1.2) (eQ [(0,vL T0q a0),(1,vI a1),(2,.fn 198 [] []),(8,vI (ln a0))]/\bsI a0 a1 a2 y1.1 (wI (Int.fdiv (IntKind.wrap .u64 (wI (y1.1+y1.2))) (2^min (tN 1) (IntKind.bits .u64))))/\bsM a0 a1 a2 y1.1 (wI (Int.fdiv (IntKind.wrap .u64 (wI (y1.1+y1.2))) (2^min (tN 1) (IntKind.bits .u64))))<bsM a0 a1 a2 y1.1 y1.2))) (dC (y1.1<ln a0) (iB y1.1 a0 (True/\∀r3,rU r3 (Xik ((gA a0 y1.1 (0,0)).1,(gA a0 y1.1 (0,0)).2) a1)->rE (y1.1,r3.1==0) (fBs a0 a1 a2))) (rE (y1.1,false) (fBs a0 a1 a2)))
def X06.L(a0:U8q)(a1:Int)(a2:Unit):Nat->Option X0f:=XLK [(60,⟨⟨[0,1,2,8],[9,10],[],[]⟩,T0q,λst y=>bsI a0 a1 a2 y.1 y.2,λst y=>bsM a0 a1 a2 y.1 y.2⟩)]
theorem X06.p(a0:U8q)(a1:Int)(a2:Unit)(h:(pBs a0 a1 a2)):X06.F a0 a1 a2:=by
 delta X06.F ln tN wI dC eQ gA iB rE rU vI vL;simp only[Bs,B0,B1,Yaa,X01,Xik,Yay];obtain⟨hp,ht0,ht1,hl⟩:=h;refine⟨⟨by omega,by omega,by omega,by simp,λk h1 h2=>by omega⟩,?_⟩;rintro⟨i,j⟩ hI;simp only at hI ⊢;have q1:=hI.h1;have q2:=hI.h2;have q3:=hI.h3;refine⟨λhij=>?_,λhij=>?_⟩
 . rw[w64 (x:=i+j) (by omega) (by omega),wu64 (x:=i+j) (by omega) (by omega),half (by omega) (by omega),w64 (x:=(i+j) / 2) (by omega) (by omega)];have hk:=Xqs hp (i:=((i+j) / 2).toNat) (by omega);rw[w64 (x:=(a0.getD ((i+j) / 2).toNat (0,0)).1 - a1) (by omega) (by omega),w64 (x:=(i+j) / 2+1) (by omega) (by omega)];refine⟨by omega,by omega,by omega,λh1=>⟨Xx9 hp hI (by omega) (by omega) (by omega),by unfold bsM;omega⟩,λh1=>⟨Xw6 hp hI (by omega) (by omega) (by omega),by unfold bsM;omega⟩⟩
 . obtain⟨e1,e2⟩:=Xqj hp hI hij;have e3:((i.toNat:Nat):Int)=i:=by omega
   refine⟨λh1=>⟨by omega,by omega,?_⟩,λh1=>?_⟩
   . have hk:=Xqs hp (i:=i.toNat) (by omega);rw[w64 (by omega) (by omega)];simp only[fBs,e1,e2,e3,Yaz h1,YaQ,Yaa,Ybw,Ybm];rw[Ybq];simp;omega
   . simp only[fBs,e1,e2,e3,Yav h1,Ybk]
def X06.e:GE:=mE X0F func197 [3,4] [X1L.e] [] (λi x=>X06.L x.1 x.2.1 x.2.2) (λi x=>X06.F x.1 x.2.1 x.2.2) λi x h _ _=>X06.p x.1 x.2.1 x.2.2 h
def XwY(l:List Bkt)(n:Int):Prop:=pBs l n ()
def Xga(l:List Bkt)(n:Int):Int×Bool:=fBs l n ()
def bfI(l:List Bkt)(n i:Int):Prop:=bsI l n () i l.length
def bfM(l:List Bkt)(n i:Int):Nat:=(l.length - i).toNat
def pI2(l:List Int):Prop:=l.length=2
def pI2x(l:List Int)(x:Int):Prop:=l.length=2
def Xug(l:List Int):Int:=if l.getD 1 0<l.getD 0 0 then l.getD 1 0 else l.getD 0 0
def XwI(l:List Int)(x:Int):Int:=if x=l.getD 0 0 then 0 else if x=l.getD 1 0 then 1 else -1
def i2I(l:List Int)(x i:Int):Prop:=0<=i/\i<=2/\(1<=i->x≠l.getD 0 0)/\(2<=i->x≠l.getD 1 0)
def i2M(l:List Int)(x i:Int):Nat:=(2 - i).toNat
def m2I(l:List Int)(v i:Int):Prop:=1<=i/\i<=2/\(i=1->v=l.getD 0 0)/\(i=2->v=Xug l)
def m2M(l:List Int)(v i:Int):Nat:=(2 - i).toNat
def nSh(s:Int):List Bkt->Int
 | []=>0
 | b::l=>(if b.2=s then 1 else 0)+nSh s l
theorem XpH(s:Int)(b:Bkt):∀l:List Bkt,nSh s (l++[b])=nSh s l+if b.2=s then 1 else 0
 | []=>by simp[nSh]
 | x::l=>by rw[Ybc,nSh,nSh,XpH s b l];omega
theorem Xnq(s:Int):∀l:List Bkt,0<=nSh s l/\nSh s l<=l.length
 | []=>by simp[nSh]
 | x::l=>by
   have:=Xnq s l;rw[nSh,Yad]
   split<;>omega
theorem Xip(s:Int){l:List Bkt}{i:Int}(h:0<=i)(hi:i<l.length):nSh s (l.take (i+1).toNat)=nSh s (l.take i.toNat)+if (l.getD i.toNat (0,0)).2=s then 1 else 0:=by
 rw[tn1 h,X0M (0,0) (by omega),XpH]
def Xbi(l:List Bkt):Int:=if nSh 1 l<nSh 0 l then 1 else 0
def Xjy(l:List Bkt):Prop:=l.length<=1000/\∀b∈l,b.2=0\/b.2=1
def idI(l:List Bkt)(i:Int)(c:List Int):Prop:=0<=i/\i<=l.length/\c=[nSh 0 (l.take i.toNat),nSh 1 (l.take i.toNat)]
def idM(l:List Bkt)(i:Int)(c:List Int):Nat:=(l.length - i).toNat
def ieI(l:List Bkt)(i:Int)(c:List Int):Prop:=idI l i c
def ieM(l:List Bkt)(i:Int)(c:List Int):Nat:=(l.length - i).toNat
def iaI(l:List Bkt)(b i:Int):Prop:=0<=i/\i<=2/\(i<=1->b=0)/\(i=2->b=Xbi l)
def iaM(l:List Bkt)(b i:Int):Nat:=(2 - i).toNat
def X7U:Con:=cQ (.pair X7N (.int .i64)) [.one,.one] Xpe [(false,1),(false,1)] (λa=>(XwY a.1 a.2)) λa=>(Xga a.1 a.2)
def X38.F(a0:U8q)(a1:Int):Prop:=pBs a0 a1 ()/\∀r1,Eq r1 (fBs a0 a1 (),(),())->Eq ((r1.1.1,r1.1.2),(),()) (Xga a0 a1,(),())
theorem X38.p(a0:U8q)(a1:Int)(h:(XwY a0 a1)):X38.F a0 a1:=by
 unfold X38.F;simp only[Bs,B0,B1,Yaa,X01,Yay];exact⟨h,rfl⟩
def X38.e:GE:=mE X7U func173 [3,4] [X06.e,X1L.e] [] noL (λi x=>X38.F x.1 x.2) λi x h _ _=>X38.p x.1 x.2 h
def X8p:Con:=cQ (.pair X7N (.int .i64)) [.one,.one] Xpe [(false,1),(false,1)] (λa=>(XwY a.1 a.2)) λa=>(Xga a.1 a.2)
def X2n.F(a0:U8q)(a1:Int):Prop:=eQ [(0,vL T0q a0),(1,vI a1)]/\bfI a0 a1 0/\∀(y1:Int),bfI a0 a1 y1->dC (y1<ln a0) (iB y1 a0 (dC ((gA a0 y1 (0,0)).1>=a1) (iB y1 a0 (rE (y1,(gA a0 y1 (0,0)).1==a1) (Xga a0 a1))) (eQ [(0,vL T0q a0),(1,vI a1)]/\bfI a0 a1 (wI (y1+1))/\bfM a0 a1 (wI (y1+1))<bfM a0 a1 y1))) (rE (ln a0,false) (Xga a0 a1))
def X2n.L(a0:U8q)(a1:Int):Nat->Option X0f:=XLK [(26,⟨⟨[0,1],[6],[],[]⟩,(.int .i64),λst y=>bfI a0 a1 y,λst y=>bfM a0 a1 y⟩)]
theorem X2n.p(a0:U8q)(a1:Int)(h:(XwY a0 a1)):X2n.F a0 a1:=by
 delta X2n.F ln wI dC eQ gA iB rE vI vL tN;simp only[Bs,B0,B1,Yaa,X01,Yay];obtain⟨hp,ht0,ht1,hl⟩:=h;refine⟨⟨by omega,by omega,by omega,by simp,λk h1 h2=>by omega⟩,?_⟩;intro i hI;have q1:=hI.h1;have q2:=hI.h2;rw[w64 (x:=i+1) (by omega) (by omega)];refine⟨λhi=>⟨q1,hi,λh1=>⟨q1,hi,?_⟩,λh1=>⟨Xx9 hp hI (Int.le_refl _) hi (by omega),by unfold bfM;omega⟩⟩,λhi=>?_⟩
 . obtain⟨e1,e2⟩:=Xqj hp (Xw6 hp hI (Int.le_refl _) hi (by omega)) (by omega);unfold Xga fBs;rw[e1,e2,Yaz hi,YaQ];exact Prod.ext (by simp only;omega) (by simp only;rw[Ybq];simp)
 . obtain⟨e1,e2⟩:=Xqj hp hI hi;unfold Xga fBs;rw[e1,e2,Yav hi,Ybk];exact Prod.ext (by simp only;omega) rfl
def X2n.e:GE:=mE X8p func112 [3,4] [] [] (λi x=>X2n.L x.1 x.2) (λi x=>X2n.F x.1 x.2) λi x h _ _=>X2n.p x.1 x.2 h
def X5m:Con:=cQ (.pair XfJ (.int .i64)) [.one,.one] (.int .i64) [(false,1)] (λa=>(pI2x a.1 a.2)) λa=>(XwI a.1 a.2)
def X0I.F(a0:(List Int))(a1:Int):Prop:=eQ [(0,vL (.int .i64) a0),(1,vI a1),(7,vI (ln a0))]/\i2I a0 a1 0/\∀(y1:Int),i2I a0 a1 y1->dC (y1<ln a0) (iB y1 a0 (X00 (a1==gA a0 y1 0) (rE y1 (XwI a0 a1)) (eQ [(0,vL (.int .i64) a0),(1,vI a1),(7,vI (ln a0))]/\i2I a0 a1 (wI (y1+1))/\i2M a0 a1 (wI (y1+1))<i2M a0 a1 y1))) (rE (-1) (XwI a0 a1))
def X0I.L(a0:(List Int))(a1:Int):Nat->Option X0f:=XLK [(26,⟨⟨[0,1,7],[8],[],[]⟩,(.int .i64),λst y=>i2I a0 a1 y,λst y=>i2M a0 a1 y⟩)]
theorem X0I.p(a0:(List Int))(a1:Int)(h:(pI2x a0 a1)):X0I.F a0 a1:=by
 delta X0I.F ln wI dC eQ gA iB rE vI vL tN;simp only[Bs,B0,B1,Yaa,X01,Yay];have hl:a0.length=2:=h;refine⟨⟨by omega,by omega,by omega,by omega⟩,?_⟩;rintro i ⟨h1,h2,h3,h4⟩;rw[w64 (x:=i+1) (by omega) (by omega)];refine⟨λhi=>⟨h1,hi,λe=>?_,λe=>⟨⟨by omega,by omega,?_,?_⟩,by unfold i2M;omega⟩⟩,λhi=>?_⟩
 . rcases(by omega:i=0\/i=1) with rfl | rfl
   . have e:a1=a0.getD 0 0:=e;unfold XwI;rw[Yah e]
   . have e:a1=a0.getD 1 0:=e;unfold XwI;rw[Yae (h3 (by omega)),Yah e]
 . rcases(by omega:i=0\/i=1) with rfl | rfl
   . exact λ_=>e
   . exact λ_=>h3 (by omega)
 . rcases(by omega:i=0\/i=1) with rfl | rfl
   . exact λh=>absurd h (by omega)
   . exact λ_=>e
 . unfold XwI;rw[Yae (h3 (by omega)),Yae (h4 (by omega))]
def X0I.e:GE:=mE X5m func201 [3] [] [] (λi x=>X0I.L x.1 x.2) (λi x=>X0I.F x.1 x.2) λi x h _ _=>X0I.p x.1 x.2 h
def X5G:Con:=cQ XfJ [.one] (.int .i64) [(false,1)] (λa=>(pI2 a)) λa=>(Xug a)
def X0T.F(a0:(List Int)):Prop:=dC (ln a0<1) False (0<=(0:Int)/\0<ln a0/\eQ [(0,vL (.int .i64) a0)]/\m2I a0 (gA a0 0 0) 1/\∀(y1:Int×Int),m2I a0 y1.1 y1.2->dC (y1.2<ln a0) (iB y1.2 a0 (eQ [(0,vL (.int .i64) a0)]/\m2I a0 (if (gA a0 y1.2 0)<y1.1 then (gA a0 y1.2 0) else y1.1) (wI (y1.2+1))/\m2M a0 (if (gA a0 y1.2 0)<y1.1 then (gA a0 y1.2 0) else y1.1) (wI (y1.2+1))<m2M a0 y1.1 y1.2)) (rE y1.1 (Xug a0)))
def X0T.L(a0:(List Int)):Nat->Option X0f:=XLK [(122,⟨⟨[0],[3,4],[],[]⟩,T0q,λst y=>m2I a0 y.1 y.2,λst y=>m2M a0 y.1 y.2⟩)]
theorem X0T.p(a0:(List Int))(h:(pI2 a0)):X0T.F a0:=by
 delta X0T.F ln wI dC eQ gA iB rE vL tN;simp only[Bs,B0,B1,Yaa,X01,Yay];have hl:a0.length=2:=h;refine⟨λh1=>by omega,λh1=>⟨by omega,by omega,⟨by omega,by omega,λ_=>rfl,by omega⟩,?_⟩⟩;rintro⟨v,i⟩ ⟨q1,q2,q3,q4⟩;simp only at q1 q2 q3 q4 ⊢;refine⟨λhi=>?_,λhi=>q4 (by omega)⟩;have e:i=1:=by omega
 subst e;rw[q3 rfl];exact⟨by omega,by omega,⟨by decide,by decide,λh=>absurd h (by decide),λ_=>rfl⟩,by unfold m2M;decide⟩
def X0T.e:GE:=mE X5G func202 [3] [] [] (λi x=>X0T.L x) (λi x=>X0T.F x) λi x h _ _=>X0T.p x h
def Xbw:Con:=cQ X7N [.one] (.int .i64) [(false,1)] (λa=>(Xjy a)) λa=>(Xbi a)
def X4l.F(a0:U8q):Prop:=0<=(2:Int)/\(2:Int)<=(2:Int)/\(2:Int)<=9223372036854775807/\((8:Nat):Int)*(2:Int)<=140737488355328/\eQ [(3,.val false [.own (.int .i64) 1000387]),(7,vL T0q a0),(8,vI (ln a0))]/\idI a0 0 (List.replicate (tN 2) (0:Int))/\∀(y1:Int×List Int),idI a0 y1.1 y1.2->dC (y1.1<ln a0) (iB y1.1 a0 (iB (gA a0 y1.1 (0,0)).2 y1.2 (iB (gA a0 y1.1 (0,0)).2 y1.2 (eQ [(3,.val false [.own (.int .i64) 1000387]),(7,vL T0q a0),(8,vI (ln a0))]/\idI a0 (wI (y1.1+1)) (List.set y1.2 (tN (gA a0 y1.1 (0,0)).2) (wI (gA y1.2 (gA a0 y1.1 (0,0)).2 0+(1:Int))))/\idM a0 (wI (y1.1+1)) (List.set y1.2 (tN (gA a0 y1.1 (0,0)).2) (wI (gA y1.2 (gA a0 y1.1 (0,0)).2 0+(1:Int))))<idM a0 y1.1 y1.2)))) (pI2 y1.2/\∀r2,rU r2 (Xug y1.2)->pI2x y1.2 r2.1/\∀r3,rU r3 (XwI y1.2 r2.1)->rE r3.1 (Xbi a0))
def X4l.L(a0:U8q):Nat->Option X0f:=XLK [(58,⟨⟨[3,7,8],[9],[],[kC 3 0 1000387 3]⟩,(.pair (.int .i64) XfJ),λst y=>idI a0 y.1 y.2,λst y=>idM a0 y.1 y.2⟩)]
theorem X4l.p(a0:U8q)(h:(Xjy a0)):X4l.F a0:=by
 delta X4l.F ln tN wI dC eQ gA iB rE rU vI vL;simp only[Bs,B0,B1,Yaa,X01,Yay];obtain⟨hl,hs⟩:=h;refine⟨by omega,by omega,by omega,by omega,⟨by omega,by omega,rfl⟩,?_⟩;rintro⟨i,c⟩ ⟨q1,q2,q3⟩;simp only at q1 q2 q3 ⊢;subst q3;have n0:=Xnq 0 (a0.take i.toNat);have n1:=Xnq 1 (a0.take i.toNat);rw[Yal]at n0 n1;refine⟨λhi=>?_,λhi=>?_⟩
 . have hb:=hs _ (X10 (d:=((0,0):Bkt)) (l:=a0) (i:=i.toNat) (by omega));have t0:=Xip 0 q1 hi;have t1:=Xip 1 q1 hi;rw[w64 (x:=i+1) (by omega) (by omega)];generalize (a0.getD i.toNat (0,0)).2=b at hb t0 t1 ⊢;have key:[nSh 0 (a0.take i.toNat),nSh 1 (a0.take i.toNat)].set b.toNat (IntKind.wrap .i64 ([nSh 0 (a0.take i.toNat),nSh 1 (a0.take i.toNat)].getD b.toNat 0+1))=[nSh 0 (a0.take (i+1).toNat),nSh 1 (a0.take (i+1).toNat)]:=by
    rcases hb with rfl | rfl
    . show [IntKind.wrap .i64 (nSh 0 (a0.take i.toNat)+1),nSh 1 (a0.take i.toNat)]=_;rw[w64 (by omega) (by omega),t0,t1];simp
    . show [nSh 0 (a0.take i.toNat),IntKind.wrap .i64 (nSh 1 (a0.take i.toNat)+1)]=_;rw[w64 (by omega) (by omega),t0,t1];simp
   rw[key];have hb2:0<=b/\b<2:=by omega
   simp only[Yad,Yai];exact⟨q1,hi,hb2.1,by omega,hb2.1,by omega,⟨by omega,by omega,rfl⟩,by unfold idM;omega⟩
 . have e:i.toNat=a0.length:=by omega
   rw[e,Yat];refine⟨rfl,rfl,?_⟩;show(if (if nSh 1 a0<nSh 0 a0 then nSh 1 a0 else nSh 0 a0)=nSh 0 a0 then(0:Int) else if (if nSh 1 a0<nSh 0 a0 then nSh 1 a0 else nSh 0 a0)=nSh 1 a0 then 1 else -1)=_;unfold Xbi
   split<;>split<;>omega
def X4l.e:GE:=mE Xbw func175 [3] [X0I.e,X0T.e] [] (λi x=>X4l.L x) (λi x=>X4l.F x) λi x h _ _=>X4l.p x h
def Xa1:Con:=cQ X7N [.one] (.int .i64) [(false,1)] (λa=>(Xjy a)) λa=>(Xbi a)
def X2O.F(a0:U8q):Prop:=0<=(2:Int)/\(2:Int)<=(2:Int)/\(2:Int)<=9223372036854775807/\((8:Nat):Int)*(2:Int)<=140737488355328/\eQ [(0,vL T0q a0),(3,.val false [.own (.int .i64) 1000387])]/\ieI a0 0 (List.replicate (tN 2) (0:Int))/\∀(y1:Int×List Int),ieI a0 y1.1 y1.2->dC (y1.1<ln a0) (iB y1.1 a0 (iB y1.1 a0 (iB (gA a0 y1.1 (0,0)).2 y1.2 (iB (gA a0 y1.1 (0,0)).2 y1.2 (eQ [(0,vL T0q a0),(3,.val false [.own (.int .i64) 1000387])]/\ieI a0 (wI (y1.1+1)) (List.set y1.2 (tN (gA a0 y1.1 (0,0)).2) (wI (gA y1.2 (gA a0 y1.1 (0,0)).2 0+(1:Int))))/\ieM a0 (wI (y1.1+1)) (List.set y1.2 (tN (gA a0 y1.1 (0,0)).2) (wI (gA y1.2 (gA a0 y1.1 (0,0)).2 0+(1:Int))))<ieM a0 y1.1 y1.2))))) (eQ [(3,vL (.int .i64) y1.2)]/\iaI a0 0 0/\∀(y2:Int×Int),iaI a0 y2.1 y2.2->dC (y2.2<2) (iB y2.2 y1.2 (iB y2.1 y1.2 (dC (gA y1.2 y2.2 0<gA y1.2 y2.1 0) (eQ [(3,vL (.int .i64) y1.2)]/\iaI a0 y2.2 (wI (y2.2+1))/\iaM a0 y2.2 (wI (y2.2+1))<iaM a0 y2.1 y2.2) (eQ [(3,vL (.int .i64) y1.2)]/\iaI a0 y2.1 (wI (y2.2+1))/\iaM a0 y2.1 (wI (y2.2+1))<iaM a0 y2.1 y2.2)))) (rE y2.1 (Xbi a0)))
def X2O.L(a0:U8q):Nat->Option X0f:=XLK [(58,⟨⟨[0,3],[4],[],[kC 3 0 1000387 3]⟩,(.pair (.int .i64) XfJ),λst y=>ieI a0 y.1 y.2,λst y=>ieM a0 y.1 y.2⟩),(250,⟨⟨[3],[5,6],[],[]⟩,T0q,λst y=>iaI a0 y.1 y.2,λst y=>iaM a0 y.1 y.2⟩)]
theorem X2O.p(a0:U8q)(h:(Xjy a0)):X2O.F a0:=by
 delta X2O.F ln tN wI dC eQ gA iB rE vL;simp only[Bs,B0,B1,Yaa,X01,Yay];obtain⟨hl,hs⟩:=h;refine⟨by omega,by omega,by omega,by omega,⟨by omega,by omega,rfl⟩,?_⟩;rintro⟨i,c⟩ ⟨q1,q2,q3⟩;simp only at q1 q2 q3 ⊢;subst q3;have n0:=Xnq 0 (a0.take i.toNat);have n1:=Xnq 1 (a0.take i.toNat);rw[Yal]at n0 n1;refine⟨λhi=>?_,λhi=>?_⟩
 . have hb:=hs _ (X10 (d:=((0,0):Bkt)) (l:=a0) (i:=i.toNat) (by omega));have t0:=Xip 0 q1 hi;have t1:=Xip 1 q1 hi;rw[w64 (x:=i+1) (by omega) (by omega)];generalize (a0.getD i.toNat (0,0)).2=b at hb t0 t1 ⊢;have key:[nSh 0 (a0.take i.toNat),nSh 1 (a0.take i.toNat)].set b.toNat (IntKind.wrap .i64 ([nSh 0 (a0.take i.toNat),nSh 1 (a0.take i.toNat)].getD b.toNat 0+1))=[nSh 0 (a0.take (i+1).toNat),nSh 1 (a0.take (i+1).toNat)]:=by
    rcases hb with rfl | rfl
    . show [IntKind.wrap .i64 (nSh 0 (a0.take i.toNat)+1),nSh 1 (a0.take i.toNat)]=_;rw[w64 (by omega) (by omega),t0,t1];simp
    . show [nSh 0 (a0.take i.toNat),IntKind.wrap .i64 (nSh 1 (a0.take i.toNat)+1)]=_;rw[w64 (by omega) (by omega),t0,t1];simp
   rw[key];have hb2:0<=b/\b<2:=by omega
   simp only[Yad,Yai];exact⟨q1,hi,q1,hi,hb2.1,by omega,hb2.1,by omega,⟨by omega,by omega,rfl⟩,by unfold ieM;omega⟩
 . have e:i.toNat=a0.length:=by omega
   rw[e,Yat];refine⟨⟨by omega,by omega,λ_=>rfl,by omega⟩,?_⟩;rintro⟨b,i⟩ ⟨p1,p2,p3,p4⟩;simp only at p1 p2 p3 p4 ⊢;refine⟨λhi=>?_,λhi=>p4 (by omega)⟩;have e0:=p3 (by omega);subst e0;rw[w64 (x:=i+1) (by omega) (by omega)];have h2:((([nSh 0 a0,nSh 1 a0]:List Int).length:Nat):Int)=2:=rfl;rcases(by omega:i=0\/i=1) with rfl | rfl
   . exact⟨by omega,by omega,by omega,by omega,λh=>absurd h (Int.lt_irrefl _),λ_=>⟨⟨by omega,by omega,λ_=>rfl,by omega⟩,by unfold iaM;decide⟩⟩
   . refine⟨by omega,by omega,by omega,by omega,λh=>⟨⟨by omega,by omega,by omega,λ_=>?_⟩,by unfold iaM;decide⟩,λh=>⟨⟨by omega,by omega,by omega,λ_=>?_⟩,by unfold iaM;decide⟩⟩
     . have h:nSh 1 a0<nSh 0 a0:=h;unfold Xbi;rw[Yah h]
     . have h:¬nSh 1 a0<nSh 0 a0:=h;unfold Xbi;rw[Yae h]
def X2O.e:GE:=mE Xa1 func113 [3] [] [] (λi x=>X2O.L x) (λi x=>X2O.F x) λi x h _ _=>X2O.p x h
def XnP(l:List Bkt)(n:Int):List Bkt:=XmC l (n,Xbi l)
def Xse(p:List Bkt×Str)(n:Int):List Bkt×Str:=(XnP p.1 n,p.2++(X28 n++X28 ((XnP p.1 n).getD (Xga p.1 n).1.toNat (0,0)).2))
def dGo(l:List Int)(p:List Bkt×Str):List Bkt×Str:=l.foldl Xse p
def XbV(mark:Int)(n:Int):Bool:=!XdL n mark
def X8U(s:Stt)(o:Int×(Str×(Int×(Int×Str)))):Stt×Ans:=
 if X3v o.2.2.1 o.2.2.2.1=[] then(s,(1,(0,(0,[]))))
 else if (dGo ((X3v o.2.2.1 o.2.2.2.1).filter (XbV s.2.2.1)) (s.2.2.2.1,[])).1.length>12 then(s,(3,(0,(0,[]))))
 else((s.1,(s.2.1,(s.2.2.1,((dGo ((X3v o.2.2.1 o.2.2.2.1).filter (XbV s.2.2.1)) (s.2.2.2.1,[])).1,s.2.2.2.2)))),(0,(0,(s.2.2.1,(dGo ((X3v o.2.2.1 o.2.2.2.1).filter (XbV s.2.2.1)) (s.2.2.2.1,[])).2))))
structure XpS (n:Nat) (l:List Bkt):Prop where
 r:XfB l
 s:∀b∈l,b.2=0\/b.2=1
 m:∀b∈l,b.1<=10995116277
 len:l.length<=n
abbrev Opp:=Int×(Str×(Int×(Int×Str)))
def XkO(s:Stt)(o:Opp):Prop:=XpS 12 s.2.2.2.1
def Xad(s:Stt)(o:Opp):Ans×Stt:=((X8U s o).2,(X8U s o).1)
def XoT(l:List Bkt):List Bkt:=l
def XoZ(l:List Bkt):Prop:=l.length<=1099511627776
def cvL(s:Stt)(o:Opp):List Int:=X3v o.2.2.1 o.2.2.2.1
def cvN(s:Stt)(o:Opp):List Int:=(cvL s o).filter (XbV s.2.2.1)
def roI(s:Stt)(o:Opp)(data:Str)(i k h mk fl c1 c2 c3:Int)(c4:Str)(l bk:List Bkt)(ca:List Ser)(fi:List Str)(se:List X7a):Prop:=
 (0<=i/\i<=(cvN s o).length)/\(l,data)=dGo ((cvN s o).take i.toNat) (s.2.2.2.1,[])/\((k,(h,(mk,(bk,((fl,(ca,fi)),se))))):Stt)=s/\XpS (12+i.toNat) l/\(data.length:Int)<=20*i
def roM(s:Stt)(o:Opp)(data:Str)(i k h mk fl c1 c2 c3:Int)(c4:Str)(l bk:List Bkt)(ca:List Ser)(fi:List Str)(se:List X7a):Nat:=((cvN s o).length - i).toNat
def rtI(s:Stt)(o:Opp)(data:Str)(i k h mk fl z0 z1 z2 z4:Int)(z5:List Ser)(z6:List Str)(z7:List X7a)(c1 c2 c3:Int)(c4:Str)(l bk:List Bkt)(ca:List Ser)(fi:List Str)(se:List X7a)(z3:List Bkt):Prop:=
 (0<=i/\i<=(cvL s o).length)/\(l,data)=dGo (((cvL s o).take i.toNat).filter (XbV s.2.2.1)) (s.2.2.2.1,[])/\((k,(h,(mk,(bk,((fl,(ca,fi)),se))))):Stt)=s/\XpS (12+i.toNat) l/\(data.length:Int)<=20*i
def rtM(s:Stt)(o:Opp)(data:Str)(i k h mk fl z0 z1 z2 z4:Int)(z5:List Ser)(z6:List Str)(z7:List X7a)(c1 c2 c3:Int)(c4:Str)(l bk:List Bkt)(ca:List Ser)(fi:List Str)(se:List X7a)(z3:List Bkt):Nat:=((cvL s o).length - i).toNat
theorem XvH{a b x:Int}(h:x∈X3v a b):0<=x/\x<=10995116277:=by
 unfold X3v at h;split at h
 . cases h
 . rename_i hn;simp only[XfN,YaN,YbV]at h;obtain⟨j,hj,e⟩:=h;omega
theorem XtM(a b:Int):(X3v a b).length<=8:=by
 unfold X3v;split
 . simp
 . rw[Xgj];omega
theorem XuC(l:List Bkt):Xbi l=0\/Xbi l=1:=by unfold Xbi;split<;>simp
theorem r_ok{n:Nat}{l:List Bkt}{x:Int}(h:XpS n l)(hx:0<=x/\x<=10995116277):XpS (n+1) (XnP l x):=by
 have hl:=XjC l (x,Xbi l);have:=h.len;refine⟨⟨XlD h.r.1 _,λy hy=>?_⟩,λy hy=>?_,λy hy=>?_,by unfold XnP;omega⟩
 . rcases Xeh.1 hy with hy | ⟨rfl,_⟩
   . exact h.r.2 y hy
   . exact⟨hx.1,by simp only;omega⟩
 . rcases Xeh.1 hy with hy | ⟨rfl,_⟩
   . exact h.s y hy
   . exact XuC l
 . rcases Xeh.1 hy with hy | ⟨rfl,_⟩
   . exact h.m y hy
   . exact hx.2
theorem XpS.more{n m:Nat}{l:List Bkt}(h:XpS n l)(hm:n<=m):XpS m l:=⟨h.r,h.s,h.m,by have:=h.len;omega⟩
theorem Xwz{l:List Bkt}{x:Int}(h:(Xga l x).2=true):XnP l x=l:=by
 have h:Xqe l x=true:=h;unfold XnP XmC;rw[Yah h]
theorem r_no{l:List Bkt}{x:Int}(h:(Xga l x).2=false):l.take (Xga l x).1.toNat++([(x,Xbi l)]++l.drop (Xga l x).1.toNat)=XnP l x:=by
 have h:Xqe l x=false:=h;unfold XnP XmC;rw[Yae (by rw[h];decide)];rfl
theorem Xxl(l:List Bkt)(x:Int):0<=(Xga l x).1/\(Xga l x).1<=l.length:=⟨Int.natCast_nonneg _,by have:=Xne (lt:=ltI) (key:=Prod.fst) x l;unfold Xga fBs;simp only;omega⟩
theorem r_at(l:List Bkt)(x:Int):(Xga l x).1<((XnP l x).length:Int):=by
 have hp:=Xxl l x;cases hh:(Xga l x).2 with
 | false=>
   rw[<-r_no hh];simp only[Yab,Yad,Yai,Yal,Yap];omega
 | true=>
   rw[Xwz hh];have hT:Xqe l x=true:=hh;obtain⟨y,hy,e⟩:=Xf9.1 hT;by_cases hc:(Xga l x).1<(l.length:Int)
   . exact hc
   . have e2:pos ltI Prod.fst x l=l.length:=by
      have:(Xga l x).1=((pos ltI Prod.fst x l:Nat):Int):=rfl;omega
     have:=Xf5 (lt:=ltI) (key:=Prod.fst) (k:=x) (l:=l) (x:=y) (by rw[e2,Yat];exact hy);simp only[ltI,Yaj]at this;omega
theorem dGo_s(c:List Int)(p:List Bkt×Str){i:Int}(h:0<=i)(hi:i<c.length):dGo (c.take (i+1).toNat) p=Xse (dGo (c.take i.toNat) p) (c.getD i.toNat 0):=by
 rw[tn1 h,X0M 0 (by omega)];unfold dGo;rw[YbH];rfl
theorem Xvz{n:Nat}{l:List Bkt}{d:Str}{i:Int}{x:Int}(hn:n<=100)(h:XpS n l)(hx:0<=x/\x<=10995116277)(hd:(d.length:Int)<=20*i):
 XpS (n+1) (Xse (l,d) x).1/\((Xse (l,d) x).2.length:Int)<=20*(i+1)/\XwY l x/\Xjy l:=by
 have v1:=X0x x;have v2:=X0x ((XnP l x).getD (Xga l x).1.toNat (0,0)).2;refine⟨r_ok h hx,?_,⟨h.r,hx.1,by omega,?_⟩,?_⟩
 . simp only[Xse,Yab];omega
 . have:=h.len;omega
 . exact⟨by have:=h.len;omega,h.s⟩
def X1D:Con:=cW X7N [.one] X7N [(false,1)] [(0,78)] (λa=>(XoZ a)) λa=>(XoT a)
def X0i.F(a0:U8q):Prop:=∀(b1:Bool),(b1=true->a0=[])->X00 b1 (Eq (([]:U8q),(),()) (XoT a0,(),())) (List.length ([]:List (Int×Int))+List.length a0<=9223372036854775807/\(List.length ([]:List (Int×Int))+List.length a0)*16<=140737488355328/\Eq (([]:List (Int×Int))++a0,(),()) (XoT a0,(),()))
theorem X0i.p(a0:U8q)(h:(XoZ a0))(hw:Wf X1D.A a0):X0i.F a0:=by
 unfold X0i.F;have hp:a0.length<=1099511627776:=h;simp only[Bs,B0,B1,Yaa,X01,XoT,XoZ]
 repeat' (with_reducible (first | (refine And.intro ?_ ?_) | intro _))
 all_goals (try simp (disch:=omega) only[w64,wu8,tn0,tn1,tm1,tm2,Yab,Yad,Yai]at*)
 all_goals (try simp (disch:=omega) only[w64,wu8,tn0,tn1,tm1,tm2,Yab,Yad,Yai]at*)
 all_goals (try omega)
 all_goals (try grind[])
 all_goals (try simp_all)
def X0i.e:GE:=mE X1D func93 [34] [] [] noL (λi x=>X0i.F x) λi x h _ hw=>X0i.p x h hw
def X73:Con:={io:=true,I:=T4q,ownI:=[(3,78),(5,115),(6,9),(7,73)],A:=XnR,shA:=[.agg 5],R:=Xiy,shR:=[(true,4)],pre:=λi a=>(XkO i a),f:=some λi a=>((Xad i a).1,((Xad i a).2,()))}
def X2K.F(i0:U2q)(a0:XbM):Prop:=True/\∀r1,rU r1 (X3v a0.2.2.1 a0.2.2.2.1)->X00 (ln r1.1==0) (Eq ((1,0,0,[]),i0,()) ((Xad i0 a0).1,(Xad i0 a0).2,())) (Xi4 r1.1 (i0.1,i0.2.1,i0.2.2.1)/\∀r2,rU r2 (Xj6 r1.1 (i0.1,i0.2.1,i0.2.2.1))->XoZ i0.2.2.2.1/\∀r3,rU r3 (XoT i0.2.2.2.1)->eQ [(0,.box 0 0),(2,.pp 0 0),(4,.box 5 0),(29,vL (.int .i64) r2.1),(30,vI (ln r2.1))]/\roI i0 a0 [] 0 i0.1 i0.2.1 i0.2.2.1 i0.2.2.2.2.1.1 0 0 0 [] r3.1 i0.2.2.2.1 i0.2.2.2.2.1.2.1 i0.2.2.2.2.1.2.2 i0.2.2.2.2.2/\∀(y4:U7q×Int×Int×Int×Int×Int×Int×Int×Int×U7q×U8q×U8q×List U3q×List U7q×List U6q),roI i0 a0 y4.1 y4.2.1 y4.2.2.1 y4.2.2.2.1 y4.2.2.2.2.1 y4.2.2.2.2.2.1 y4.2.2.2.2.2.2.1 y4.2.2.2.2.2.2.2.1 y4.2.2.2.2.2.2.2.2.1 y4.2.2.2.2.2.2.2.2.2.1 y4.2.2.2.2.2.2.2.2.2.2.1 y4.2.2.2.2.2.2.2.2.2.2.2.1 y4.2.2.2.2.2.2.2.2.2.2.2.2.1 y4.2.2.2.2.2.2.2.2.2.2.2.2.2.1 y4.2.2.2.2.2.2.2.2.2.2.2.2.2.2->dC (y4.2.1<ln r2.1) (iB y4.2.1 r2.1 (XwY y4.2.2.2.2.2.2.2.2.2.2.1 (gA r2.1 y4.2.1 0)/\∀r5,rU r5 (Xga y4.2.2.2.2.2.2.2.2.2.2.1 (gA r2.1 y4.2.1 0))->X00 (!r5.1.2) (Xjy y4.2.2.2.2.2.2.2.2.2.2.1/\∀r6,rU r6 (Xbi y4.2.2.2.2.2.2.2.2.2.2.1)->X4e y4.2.2.2.2.2.2.2.2.2.2.1 r5.1.1 [(gA r2.1 y4.2.1 0,r6.1)]/\∀r7,rU r7 (X2g y4.2.2.2.2.2.2.2.2.2.2.1 r5.1.1 [(gA r2.1 y4.2.1 0,r6.1)])->True/\∀r8,rU r8 (X28 (gA r2.1 y4.2.1 0))->iB r5.1.1 r7.1 (True/\∀r9,rU r9 (X28 (gA r7.1 r5.1.1 (0,0)).2)->lE r8.1 r9.1/\lE y4.1 (r8.1++r9.1)/\eQ [(0,.box 0 0),(2,.pp 0 0),(4,.box 5 0),(29,vL (.int .i64) r2.1),(30,vI (ln r2.1))]/\roI i0 a0 (y4.1++(r8.1++r9.1)) (wI (y4.2.1+1)) y4.2.2.1 y4.2.2.2.1 y4.2.2.2.2.1 y4.2.2.2.2.2.1 y4.2.2.2.2.2.2.1 y4.2.2.2.2.2.2.2.1 y4.2.2.2.2.2.2.2.2.1 y4.2.2.2.2.2.2.2.2.2.1 r7.1 y4.2.2.2.2.2.2.2.2.2.2.2.1 y4.2.2.2.2.2.2.2.2.2.2.2.2.1 y4.2.2.2.2.2.2.2.2.2.2.2.2.2.1 y4.2.2.2.2.2.2.2.2.2.2.2.2.2.2/\roM i0 a0 (y4.1++(r8.1++r9.1)) (wI (y4.2.1+1)) y4.2.2.1 y4.2.2.2.1 y4.2.2.2.2.1 y4.2.2.2.2.2.1 y4.2.2.2.2.2.2.1 y4.2.2.2.2.2.2.2.1 y4.2.2.2.2.2.2.2.2.1 y4.2.2.2.2.2.2.2.2.2.1 r7.1 y4.2.2.2.2.2.2.2.2.2.2.2.1 y4.2.2.2.2.2.2.2.2.2.2.2.2.1 y4.2.2.2.2.2.2.2.2.2.2.2.2.2.1 y4.2.2.2.2.2.2.2.2.2.2.2.2.2.2<roM i0 a0 y4.1 y4.2.1 y4.2.2.1 y4.2.2.2.1 y4.2.2.2.2.1 y4.2.2.2.2.2.1 y4.2.2.2.2.2.2.1 y4.2.2.2.2.2.2.2.1 y4.2.2.2.2.2.2.2.2.1 y4.2.2.2.2.2.2.2.2.2.1 y4.2.2.2.2.2.2.2.2.2.2.1 y4.2.2.2.2.2.2.2.2.2.2.2.1 y4.2.2.2.2.2.2.2.2.2.2.2.2.1 y4.2.2.2.2.2.2.2.2.2.2.2.2.2.1 y4.2.2.2.2.2.2.2.2.2.2.2.2.2.2)) (True/\∀r10,rU r10 (X28 (gA r2.1 y4.2.1 0))->iB r5.1.1 y4.2.2.2.2.2.2.2.2.2.2.1 (True/\∀r11,rU r11 (X28 (gA y4.2.2.2.2.2.2.2.2.2.2.1 r5.1.1 (0,0)).2)->lE r10.1 r11.1/\lE y4.1 (r10.1++r11.1)/\eQ [(0,.box 0 0),(2,.pp 0 0),(4,.box 5 0),(29,vL (.int .i64) r2.1),(30,vI (ln r2.1))]/\roI i0 a0 (y4.1++(r10.1++r11.1)) (wI (y4.2.1+1)) y4.2.2.1 y4.2.2.2.1 y4.2.2.2.2.1 y4.2.2.2.2.2.1 y4.2.2.2.2.2.2.1 y4.2.2.2.2.2.2.2.1 y4.2.2.2.2.2.2.2.2.1 y4.2.2.2.2.2.2.2.2.2.1 y4.2.2.2.2.2.2.2.2.2.2.1 y4.2.2.2.2.2.2.2.2.2.2.2.1 y4.2.2.2.2.2.2.2.2.2.2.2.2.1 y4.2.2.2.2.2.2.2.2.2.2.2.2.2.1 y4.2.2.2.2.2.2.2.2.2.2.2.2.2.2/\roM i0 a0 (y4.1++(r10.1++r11.1)) (wI (y4.2.1+1)) y4.2.2.1 y4.2.2.2.1 y4.2.2.2.2.1 y4.2.2.2.2.2.1 y4.2.2.2.2.2.2.1 y4.2.2.2.2.2.2.2.1 y4.2.2.2.2.2.2.2.2.1 y4.2.2.2.2.2.2.2.2.2.1 y4.2.2.2.2.2.2.2.2.2.2.1 y4.2.2.2.2.2.2.2.2.2.2.2.1 y4.2.2.2.2.2.2.2.2.2.2.2.2.1 y4.2.2.2.2.2.2.2.2.2.2.2.2.2.1 y4.2.2.2.2.2.2.2.2.2.2.2.2.2.2<roM i0 a0 y4.1 y4.2.1 y4.2.2.1 y4.2.2.2.1 y4.2.2.2.2.1 y4.2.2.2.2.2.1 y4.2.2.2.2.2.2.1 y4.2.2.2.2.2.2.2.1 y4.2.2.2.2.2.2.2.2.1 y4.2.2.2.2.2.2.2.2.2.1 y4.2.2.2.2.2.2.2.2.2.2.1 y4.2.2.2.2.2.2.2.2.2.2.2.1 y4.2.2.2.2.2.2.2.2.2.2.2.2.1 y4.2.2.2.2.2.2.2.2.2.2.2.2.2.1 y4.2.2.2.2.2.2.2.2.2.2.2.2.2.2)))) (dC (ln y4.2.2.2.2.2.2.2.2.2.2.1>12) (Eq ((3,0,0,[]),(y4.2.2.1,y4.2.2.2.1,y4.2.2.2.2.1,y4.2.2.2.2.2.2.2.2.2.2.2.1,(y4.2.2.2.2.2.1,y4.2.2.2.2.2.2.2.2.2.2.2.2.1,y4.2.2.2.2.2.2.2.2.2.2.2.2.2.1),y4.2.2.2.2.2.2.2.2.2.2.2.2.2.2),()) ((Xad i0 a0).1,(Xad i0 a0).2,())) (Eq ((0,0,y4.2.2.2.2.1,y4.1),(y4.2.2.1,y4.2.2.2.1,y4.2.2.2.2.1,y4.2.2.2.2.2.2.2.2.2.2.1,(y4.2.2.2.2.2.1,y4.2.2.2.2.2.2.2.2.2.2.2.2.1,y4.2.2.2.2.2.2.2.2.2.2.2.2.2.1),y4.2.2.2.2.2.2.2.2.2.2.2.2.2.2),()) ((Xad i0 a0).1,(Xad i0 a0).2,()))))
def X2K.L(i0:U2q)(a0:XbM):Nat->Option X0f:=XLK [(1018,⟨⟨[0,2,4,29,30],[6,7,31],[0,5],[kC 6 0 1000771 78,kA 0 3 13800009 78,kA 0 5 13800013 115,kA 0 6 13800015 9,kA 0 7 13800017 73]⟩,(.pair .str (.pair (.int .i64) (.pair (.int .i64) (.pair (.int .i64) (.pair (.int .i64) (.pair (.int .i64) (.pair (.int .i64) (.pair (.int .i64) (.pair (.int .i64) (.pair .str (.pair X7N (.pair X7N (.pair X5C (.pair XfH (.list T1q))))))))))))))),λst y=>roI i0 a0 y.1 y.2.1 y.2.2.1 y.2.2.2.1 y.2.2.2.2.1 y.2.2.2.2.2.1 y.2.2.2.2.2.2.1 y.2.2.2.2.2.2.2.1 y.2.2.2.2.2.2.2.2.1 y.2.2.2.2.2.2.2.2.2.1 y.2.2.2.2.2.2.2.2.2.2.1 y.2.2.2.2.2.2.2.2.2.2.2.1 y.2.2.2.2.2.2.2.2.2.2.2.2.1 y.2.2.2.2.2.2.2.2.2.2.2.2.2.1 y.2.2.2.2.2.2.2.2.2.2.2.2.2.2,λst y=>roM i0 a0 y.1 y.2.1 y.2.2.1 y.2.2.2.1 y.2.2.2.2.1 y.2.2.2.2.2.1 y.2.2.2.2.2.2.1 y.2.2.2.2.2.2.2.1 y.2.2.2.2.2.2.2.2.1 y.2.2.2.2.2.2.2.2.2.1 y.2.2.2.2.2.2.2.2.2.2.1 y.2.2.2.2.2.2.2.2.2.2.2.1 y.2.2.2.2.2.2.2.2.2.2.2.2.1 y.2.2.2.2.2.2.2.2.2.2.2.2.2.1 y.2.2.2.2.2.2.2.2.2.2.2.2.2.2⟩)]
theorem X2K.p(i0:U2q)(a0:XbM)(h:(XkO i0 a0))(hi:Wf X73.I i0):X2K.F i0 a0:=by
 delta X2K.F ln wI dC eQ gA iB lE rU vI vL tN;simp only[Bs,B0,B1,Yaa,X01,Yay];have hB:XpS 12 i0.2.2.2.1:=h;have hBl:=hB.len;have hcl:=XtM a0.2.2.1 a0.2.2.2.1;have hnl:(cvN i0 a0).length<=8:=YaW (Ycx _ _) hcl;refine⟨λh1=>?_,λh1=>⟨by unfold Xi4;omega,by unfold XoZ;omega,⟨⟨by omega,by omega⟩,rfl,rfl,hB.more (by omega),by simp⟩,?_⟩⟩
 . have e:X3v a0.2.2.1 a0.2.2.2.1=[]:=YaL.1 (by omega);unfold Xad X8U;rw[Yah e];exact⟨rfl,rfl⟩
 have hne:¬X3v a0.2.2.1 a0.2.2.2.1=[]:=λe=>h1 (by rw[e];rfl);rintro⟨data,i,k,hh,mk,fl,c1,c2,c3,c4,l,bk,ca,fi,se⟩ ⟨⟨q1,q2⟩,q3,q4,q5,q6⟩;simp only at q1 q2 q3 q4 q5 q6 ⊢;have eL:Xj6 (X3v a0.2.2.1 a0.2.2.2.1) (i0.1,(i0.2.1,i0.2.2.1))=cvN i0 a0:=rfl;simp only[eL];refine⟨λhi=>?_,λhi=>?_⟩
 . have hx:0<=(cvN i0 a0).getD i.toNat 0/\(cvN i0 a0).getD i.toNat 0<=10995116277:=XvH (YbA.1 (X10 (d:=(0:Int)) (l:=cvN i0 a0) (i:=i.toNat) (by omega))).1;have hs:=dGo_s (cvN i0 a0) (i0.2.2.2.1,[]) q1 hi;rw[<-q3]at hs;generalize (cvN i0 a0).getD i.toNat 0=x at hx hs ⊢;obtain⟨s1,s2,s3,s4⟩:=Xvz (d:=data) (i:=i) (by omega) q5 hx q6;have hp:=Xxl l x;have ha:=r_at l x;have hll:=q5.len;have hd:(data.length:Int)<=1000:=by omega
   have v1:=X0x x;have v2:=X0x ((XnP l x).getD (Xga l x).1.toNat (0,0)).2;rw[w64 (x:=i+1) (by omega) (by omega)];have out:roI i0 a0 (data++(X28 x++X28 ((XnP l x).getD (Xga l x).1.toNat (0,0)).2)) (i+1) k hh mk fl c1 c2 c3 c4 (XnP l x) bk ca fi se:=by
    refine⟨⟨by omega,by omega⟩,hs.symm,q4,?_,s2⟩;rw[show 12+(i+1).toNat=12+i.toNat+1 by omega];exact s1
   refine⟨q1,hi,s3,λhb=>?_,λhb=>?_⟩
   . have er:=r_no hb;simp only[X2g,er];exact⟨s4,⟨hp.1,hp.2,by simp,by simp only[Yad,Yai];omega⟩,hp.1,ha,by omega,by omega,out,by unfold roM;omega⟩
   . have er:=Xwz hb;rw[er]at ha v2 out;exact⟨hp.1,ha,by omega,by omega,out,by unfold roM;omega⟩
 . have e:i.toNat=(cvN i0 a0).length:=by omega
   rw[e,Yat]at q3;have eg:dGo ((X3v a0.2.2.1 a0.2.2.2.1).filter (XbV i0.2.2.1)) (i0.2.2.2.1,[])=(l,data):=q3.symm;refine⟨λh12=>?_,λh12=>?_⟩
   . unfold Xad X8U;rw[Yae hne,eg,Yah (by simp only;omega)];exact⟨rfl,q4⟩
   . unfold Xad X8U;rw[Yae hne,eg,Yae (by simp only;omega),<-q4];exact⟨rfl,rfl⟩
def X2K.e:GE:=mE X73 func138 [42] [X0i.e,X5a.e,X0r.e,X1S.e,X38.e,X2V.e,X4l.e,X5y.e] [] (λi x=>X2K.L i x) (λi x=>X2K.F i x) λi x h hi _=>X2K.p i x h (hi rfl)
def X9H:Con:={A:=(.pair T4q XnR),shA:=[.agg 8,.agg 5],ownA:=[(3,78),(5,115),(6,9),(7,73)],R:=(.pair T4q Xiy),shR:=[(true,8),(true,4)],fresh:=[(3,78),(5,115),(6,9),(7,73)],pre:=λ_ a=>(XkO a.1 a.2),f:=some λ_ a=>((X8U a.1 a.2),((),()))}
def X2y.F(a0:U2q)(a1:XbM):Prop:=True/\∀r1,rU r1 (X3v a1.2.2.1 a1.2.2.2.1)->X00 (ln r1.1==0) (rE (a0,1,0,0,[]) (X8U a0 a1)) (lE ([]:List (Int×Int)) a0.2.2.2.1/\(List.length ([]:List (Int×Int))+List.length a0.2.2.2.1)*16<=140737488355328/\eQ [(2,.box 3 0),(4,.box 5 0),(5,.box 6 0),(6,vL (.int .i64) r1.1)]/\rtI a0 a1 [] 0 a0.1 a0.2.1 a0.2.2.1 a0.2.2.2.2.1.1 0 0 0 0 ([]:List U3q) ([]:List U7q) ([]:List U6q) 0 0 0 [] (([]:List (Int×Int))++a0.2.2.2.1) a0.2.2.2.1 a0.2.2.2.2.1.2.1 a0.2.2.2.2.1.2.2 a0.2.2.2.2.2 ([]:List (Int×Int))/\∀(y2:U7q×U26q),rtI a0 a1 y2.1 y2.2.1 y2.2.2.1 y2.2.2.2.1 y2.2.2.2.2.1 y2.2.2.2.2.2.1 y2.2.2.2.2.2.2.1 y2.2.2.2.2.2.2.2.1 y2.2.2.2.2.2.2.2.2.1 y2.2.2.2.2.2.2.2.2.2.1 y2.2.2.2.2.2.2.2.2.2.2.1 y2.2.2.2.2.2.2.2.2.2.2.2.1 y2.2.2.2.2.2.2.2.2.2.2.2.2.1 y2.2.2.2.2.2.2.2.2.2.2.2.2.2.1 y2.2.2.2.2.2.2.2.2.2.2.2.2.2.2.1 y2.2.2.2.2.2.2.2.2.2.2.2.2.2.2.2.1 y2.2.2.2.2.2.2.2.2.2.2.2.2.2.2.2.2.1 y2.2.2.2.2.2.2.2.2.2.2.2.2.2.2.2.2.2.1 y2.2.2.2.2.2.2.2.2.2.2.2.2.2.2.2.2.2.2.1 y2.2.2.2.2.2.2.2.2.2.2.2.2.2.2.2.2.2.2.2.1 y2.2.2.2.2.2.2.2.2.2.2.2.2.2.2.2.2.2.2.2.2.1 y2.2.2.2.2.2.2.2.2.2.2.2.2.2.2.2.2.2.2.2.2.2.1 y2.2.2.2.2.2.2.2.2.2.2.2.2.2.2.2.2.2.2.2.2.2.2->dC (y2.2.1<ln r1.1) (iB y2.2.1 r1.1 (True/\∀r3,rU r3 (XdL (gA r1.1 y2.2.1 0) y2.2.2.2.2.1)->X00 r3.1 (eQ [(2,.box 3 0),(4,.box 5 0),(5,.box 6 0),(6,vL (.int .i64) r1.1)]/\rtI a0 a1 y2.1 (wI (y2.2.1+1)) y2.2.2.1 y2.2.2.2.1 y2.2.2.2.2.1 y2.2.2.2.2.2.1 y2.2.2.2.2.2.2.1 y2.2.2.2.2.2.2.2.1 y2.2.2.2.2.2.2.2.2.1 y2.2.2.2.2.2.2.2.2.2.1 y2.2.2.2.2.2.2.2.2.2.2.1 y2.2.2.2.2.2.2.2.2.2.2.2.1 y2.2.2.2.2.2.2.2.2.2.2.2.2.1 y2.2.2.2.2.2.2.2.2.2.2.2.2.2.1 y2.2.2.2.2.2.2.2.2.2.2.2.2.2.2.1 y2.2.2.2.2.2.2.2.2.2.2.2.2.2.2.2.1 y2.2.2.2.2.2.2.2.2.2.2.2.2.2.2.2.2.1 y2.2.2.2.2.2.2.2.2.2.2.2.2.2.2.2.2.2.1 y2.2.2.2.2.2.2.2.2.2.2.2.2.2.2.2.2.2.2.1 y2.2.2.2.2.2.2.2.2.2.2.2.2.2.2.2.2.2.2.2.1 y2.2.2.2.2.2.2.2.2.2.2.2.2.2.2.2.2.2.2.2.2.1 y2.2.2.2.2.2.2.2.2.2.2.2.2.2.2.2.2.2.2.2.2.2.1 y2.2.2.2.2.2.2.2.2.2.2.2.2.2.2.2.2.2.2.2.2.2.2/\rtM a0 a1 y2.1 (wI (y2.2.1+1)) y2.2.2.1 y2.2.2.2.1 y2.2.2.2.2.1 y2.2.2.2.2.2.1 y2.2.2.2.2.2.2.1 y2.2.2.2.2.2.2.2.1 y2.2.2.2.2.2.2.2.2.1 y2.2.2.2.2.2.2.2.2.2.1 y2.2.2.2.2.2.2.2.2.2.2.1 y2.2.2.2.2.2.2.2.2.2.2.2.1 y2.2.2.2.2.2.2.2.2.2.2.2.2.1 y2.2.2.2.2.2.2.2.2.2.2.2.2.2.1 y2.2.2.2.2.2.2.2.2.2.2.2.2.2.2.1 y2.2.2.2.2.2.2.2.2.2.2.2.2.2.2.2.1 y2.2.2.2.2.2.2.2.2.2.2.2.2.2.2.2.2.1 y2.2.2.2.2.2.2.2.2.2.2.2.2.2.2.2.2.2.1 y2.2.2.2.2.2.2.2.2.2.2.2.2.2.2.2.2.2.2.1 y2.2.2.2.2.2.2.2.2.2.2.2.2.2.2.2.2.2.2.2.1 y2.2.2.2.2.2.2.2.2.2.2.2.2.2.2.2.2.2.2.2.2.1 y2.2.2.2.2.2.2.2.2.2.2.2.2.2.2.2.2.2.2.2.2.2.1 y2.2.2.2.2.2.2.2.2.2.2.2.2.2.2.2.2.2.2.2.2.2.2<rtM a0 a1 y2.1 y2.2.1 y2.2.2.1 y2.2.2.2.1 y2.2.2.2.2.1 y2.2.2.2.2.2.1 y2.2.2.2.2.2.2.1 y2.2.2.2.2.2.2.2.1 y2.2.2.2.2.2.2.2.2.1 y2.2.2.2.2.2.2.2.2.2.1 y2.2.2.2.2.2.2.2.2.2.2.1 y2.2.2.2.2.2.2.2.2.2.2.2.1 y2.2.2.2.2.2.2.2.2.2.2.2.2.1 y2.2.2.2.2.2.2.2.2.2.2.2.2.2.1 y2.2.2.2.2.2.2.2.2.2.2.2.2.2.2.1 y2.2.2.2.2.2.2.2.2.2.2.2.2.2.2.2.1 y2.2.2.2.2.2.2.2.2.2.2.2.2.2.2.2.2.1 y2.2.2.2.2.2.2.2.2.2.2.2.2.2.2.2.2.2.1 y2.2.2.2.2.2.2.2.2.2.2.2.2.2.2.2.2.2.2.1 y2.2.2.2.2.2.2.2.2.2.2.2.2.2.2.2.2.2.2.2.1 y2.2.2.2.2.2.2.2.2.2.2.2.2.2.2.2.2.2.2.2.2.1 y2.2.2.2.2.2.2.2.2.2.2.2.2.2.2.2.2.2.2.2.2.2.1 y2.2.2.2.2.2.2.2.2.2.2.2.2.2.2.2.2.2.2.2.2.2.2) (iB y2.2.1 r1.1 (XwY y2.2.2.2.2.2.2.2.2.2.2.2.2.2.2.2.2.2.1 (gA r1.1 y2.2.1 0)/\∀r4,rU r4 (Xga y2.2.2.2.2.2.2.2.2.2.2.2.2.2.2.2.2.2.1 (gA r1.1 y2.2.1 0))->X00 (!r4.1.2) (0<=r4.1.1/\r4.1.1<=ln y2.2.2.2.2.2.2.2.2.2.2.2.2.2.2.2.2.2.1/\lE ([]:List (Int×Int)) (List.drop 0 (List.take (tN r4.1.1) y2.2.2.2.2.2.2.2.2.2.2.2.2.2.2.2.2.2.1))/\(List.length ([]:List (Int×Int))+List.length (List.drop 0 (List.take (tN r4.1.1) y2.2.2.2.2.2.2.2.2.2.2.2.2.2.2.2.2.2.1)))*16<=140737488355328/\iB y2.2.1 r1.1 (Xjy y2.2.2.2.2.2.2.2.2.2.2.2.2.2.2.2.2.2.1/\∀r5,rU r5 (Xbi y2.2.2.2.2.2.2.2.2.2.2.2.2.2.2.2.2.2.1)->lE (([]:List (Int×Int))++List.drop 0 (List.take (tN r4.1.1) y2.2.2.2.2.2.2.2.2.2.2.2.2.2.2.2.2.2.1)) [(gA r1.1 y2.2.1 0,r5.1)]/\(List.length (([]:List (Int×Int))++List.drop 0 (List.take (tN r4.1.1) y2.2.2.2.2.2.2.2.2.2.2.2.2.2.2.2.2.2.1))+List.length [(gA r1.1 y2.2.1 0,r5.1)])*16<=140737488355328/\0<=r4.1.1/\r4.1.1<=ln y2.2.2.2.2.2.2.2.2.2.2.2.2.2.2.2.2.2.1/\lE (([]:List (Int×Int))++List.drop 0 (List.take (tN r4.1.1) y2.2.2.2.2.2.2.2.2.2.2.2.2.2.2.2.2.2.1)++[(gA r1.1 y2.2.1 0,r5.1)]) (List.drop (tN r4.1.1) (List.take (List.length y2.2.2.2.2.2.2.2.2.2.2.2.2.2.2.2.2.2.1) y2.2.2.2.2.2.2.2.2.2.2.2.2.2.2.2.2.2.1))/\(List.length (([]:List (Int×Int))++List.drop 0 (List.take (tN r4.1.1) y2.2.2.2.2.2.2.2.2.2.2.2.2.2.2.2.2.2.1)++[(gA r1.1 y2.2.1 0,r5.1)])+List.length (List.drop (tN r4.1.1) (List.take (List.length y2.2.2.2.2.2.2.2.2.2.2.2.2.2.2.2.2.2.1) y2.2.2.2.2.2.2.2.2.2.2.2.2.2.2.2.2.2.1)))*16<=140737488355328/\iB y2.2.1 r1.1 (True/\∀r6,rU r6 (X28 (gA r1.1 y2.2.1 0))->lE y2.1 r6.1/\iB r4.1.1 (([]:List (Int×Int))++List.drop 0 (List.take (tN r4.1.1) y2.2.2.2.2.2.2.2.2.2.2.2.2.2.2.2.2.2.1)++[(gA r1.1 y2.2.1 0,r5.1)]++List.drop (tN r4.1.1) (List.take (List.length y2.2.2.2.2.2.2.2.2.2.2.2.2.2.2.2.2.2.1) y2.2.2.2.2.2.2.2.2.2.2.2.2.2.2.2.2.2.1)) (True/\∀r7,rU r7 (X28 (gA (([]:List (Int×Int))++List.drop 0 (List.take (tN r4.1.1) y2.2.2.2.2.2.2.2.2.2.2.2.2.2.2.2.2.2.1)++[(gA r1.1 y2.2.1 0,r5.1)]++List.drop (tN r4.1.1) (List.take (List.length y2.2.2.2.2.2.2.2.2.2.2.2.2.2.2.2.2.2.1) y2.2.2.2.2.2.2.2.2.2.2.2.2.2.2.2.2.2.1)) r4.1.1 (0,0)).2)->lE (y2.1++r6.1) r7.1/\eQ [(2,.box 3 0),(4,.box 5 0),(5,.box 6 0),(6,vL (.int .i64) r1.1)]/\rtI a0 a1 (y2.1++r6.1++r7.1) (wI (y2.2.1+1)) y2.2.2.1 y2.2.2.2.1 y2.2.2.2.2.1 y2.2.2.2.2.2.1 y2.2.2.2.2.2.2.1 y2.2.2.2.2.2.2.2.1 y2.2.2.2.2.2.2.2.2.1 y2.2.2.2.2.2.2.2.2.2.1 y2.2.2.2.2.2.2.2.2.2.2.1 y2.2.2.2.2.2.2.2.2.2.2.2.1 y2.2.2.2.2.2.2.2.2.2.2.2.2.1 y2.2.2.2.2.2.2.2.2.2.2.2.2.2.1 y2.2.2.2.2.2.2.2.2.2.2.2.2.2.2.1 y2.2.2.2.2.2.2.2.2.2.2.2.2.2.2.2.1 y2.2.2.2.2.2.2.2.2.2.2.2.2.2.2.2.2.1 (([]:List (Int×Int))++List.drop 0 (List.take (tN r4.1.1) y2.2.2.2.2.2.2.2.2.2.2.2.2.2.2.2.2.2.1)++[(gA r1.1 y2.2.1 0,r5.1)]++List.drop (tN r4.1.1) (List.take (List.length y2.2.2.2.2.2.2.2.2.2.2.2.2.2.2.2.2.2.1) y2.2.2.2.2.2.2.2.2.2.2.2.2.2.2.2.2.2.1)) y2.2.2.2.2.2.2.2.2.2.2.2.2.2.2.2.2.2.2.1 y2.2.2.2.2.2.2.2.2.2.2.2.2.2.2.2.2.2.2.2.1 y2.2.2.2.2.2.2.2.2.2.2.2.2.2.2.2.2.2.2.2.2.1 y2.2.2.2.2.2.2.2.2.2.2.2.2.2.2.2.2.2.2.2.2.2.1 y2.2.2.2.2.2.2.2.2.2.2.2.2.2.2.2.2.2.2.2.2.2.2/\rtM a0 a1 (y2.1++r6.1++r7.1) (wI (y2.2.1+1)) y2.2.2.1 y2.2.2.2.1 y2.2.2.2.2.1 y2.2.2.2.2.2.1 y2.2.2.2.2.2.2.1 y2.2.2.2.2.2.2.2.1 y2.2.2.2.2.2.2.2.2.1 y2.2.2.2.2.2.2.2.2.2.1 y2.2.2.2.2.2.2.2.2.2.2.1 y2.2.2.2.2.2.2.2.2.2.2.2.1 y2.2.2.2.2.2.2.2.2.2.2.2.2.1 y2.2.2.2.2.2.2.2.2.2.2.2.2.2.1 y2.2.2.2.2.2.2.2.2.2.2.2.2.2.2.1 y2.2.2.2.2.2.2.2.2.2.2.2.2.2.2.2.1 y2.2.2.2.2.2.2.2.2.2.2.2.2.2.2.2.2.1 (([]:List (Int×Int))++List.drop 0 (List.take (tN r4.1.1) y2.2.2.2.2.2.2.2.2.2.2.2.2.2.2.2.2.2.1)++[(gA r1.1 y2.2.1 0,r5.1)]++List.drop (tN r4.1.1) (List.take (List.length y2.2.2.2.2.2.2.2.2.2.2.2.2.2.2.2.2.2.1) y2.2.2.2.2.2.2.2.2.2.2.2.2.2.2.2.2.2.1)) y2.2.2.2.2.2.2.2.2.2.2.2.2.2.2.2.2.2.2.1 y2.2.2.2.2.2.2.2.2.2.2.2.2.2.2.2.2.2.2.2.1 y2.2.2.2.2.2.2.2.2.2.2.2.2.2.2.2.2.2.2.2.2.1 y2.2.2.2.2.2.2.2.2.2.2.2.2.2.2.2.2.2.2.2.2.2.1 y2.2.2.2.2.2.2.2.2.2.2.2.2.2.2.2.2.2.2.2.2.2.2<rtM a0 a1 y2.1 y2.2.1 y2.2.2.1 y2.2.2.2.1 y2.2.2.2.2.1 y2.2.2.2.2.2.1 y2.2.2.2.2.2.2.1 y2.2.2.2.2.2.2.2.1 y2.2.2.2.2.2.2.2.2.1 y2.2.2.2.2.2.2.2.2.2.1 y2.2.2.2.2.2.2.2.2.2.2.1 y2.2.2.2.2.2.2.2.2.2.2.2.1 y2.2.2.2.2.2.2.2.2.2.2.2.2.1 y2.2.2.2.2.2.2.2.2.2.2.2.2.2.1 y2.2.2.2.2.2.2.2.2.2.2.2.2.2.2.1 y2.2.2.2.2.2.2.2.2.2.2.2.2.2.2.2.1 y2.2.2.2.2.2.2.2.2.2.2.2.2.2.2.2.2.1 y2.2.2.2.2.2.2.2.2.2.2.2.2.2.2.2.2.2.1 y2.2.2.2.2.2.2.2.2.2.2.2.2.2.2.2.2.2.2.1 y2.2.2.2.2.2.2.2.2.2.2.2.2.2.2.2.2.2.2.2.1 y2.2.2.2.2.2.2.2.2.2.2.2.2.2.2.2.2.2.2.2.2.1 y2.2.2.2.2.2.2.2.2.2.2.2.2.2.2.2.2.2.2.2.2.2.1 y2.2.2.2.2.2.2.2.2.2.2.2.2.2.2.2.2.2.2.2.2.2.2)))) (iB y2.2.1 r1.1 (True/\∀r8,rU r8 (X28 (gA r1.1 y2.2.1 0))->lE y2.1 r8.1/\iB r4.1.1 y2.2.2.2.2.2.2.2.2.2.2.2.2.2.2.2.2.2.1 (True/\∀r9,rU r9 (X28 (gA y2.2.2.2.2.2.2.2.2.2.2.2.2.2.2.2.2.2.1 r4.1.1 (0,0)).2)->lE (y2.1++r8.1) r9.1/\eQ [(2,.box 3 0),(4,.box 5 0),(5,.box 6 0),(6,vL (.int .i64) r1.1)]/\rtI a0 a1 (y2.1++r8.1++r9.1) (wI (y2.2.1+1)) y2.2.2.1 y2.2.2.2.1 y2.2.2.2.2.1 y2.2.2.2.2.2.1 y2.2.2.2.2.2.2.1 y2.2.2.2.2.2.2.2.1 y2.2.2.2.2.2.2.2.2.1 y2.2.2.2.2.2.2.2.2.2.1 y2.2.2.2.2.2.2.2.2.2.2.1 y2.2.2.2.2.2.2.2.2.2.2.2.1 y2.2.2.2.2.2.2.2.2.2.2.2.2.1 y2.2.2.2.2.2.2.2.2.2.2.2.2.2.1 y2.2.2.2.2.2.2.2.2.2.2.2.2.2.2.1 y2.2.2.2.2.2.2.2.2.2.2.2.2.2.2.2.1 y2.2.2.2.2.2.2.2.2.2.2.2.2.2.2.2.2.1 y2.2.2.2.2.2.2.2.2.2.2.2.2.2.2.2.2.2.1 y2.2.2.2.2.2.2.2.2.2.2.2.2.2.2.2.2.2.2.1 y2.2.2.2.2.2.2.2.2.2.2.2.2.2.2.2.2.2.2.2.1 y2.2.2.2.2.2.2.2.2.2.2.2.2.2.2.2.2.2.2.2.2.1 y2.2.2.2.2.2.2.2.2.2.2.2.2.2.2.2.2.2.2.2.2.2.1 y2.2.2.2.2.2.2.2.2.2.2.2.2.2.2.2.2.2.2.2.2.2.2/\rtM a0 a1 (y2.1++r8.1++r9.1) (wI (y2.2.1+1)) y2.2.2.1 y2.2.2.2.1 y2.2.2.2.2.1 y2.2.2.2.2.2.1 y2.2.2.2.2.2.2.1 y2.2.2.2.2.2.2.2.1 y2.2.2.2.2.2.2.2.2.1 y2.2.2.2.2.2.2.2.2.2.1 y2.2.2.2.2.2.2.2.2.2.2.1 y2.2.2.2.2.2.2.2.2.2.2.2.1 y2.2.2.2.2.2.2.2.2.2.2.2.2.1 y2.2.2.2.2.2.2.2.2.2.2.2.2.2.1 y2.2.2.2.2.2.2.2.2.2.2.2.2.2.2.1 y2.2.2.2.2.2.2.2.2.2.2.2.2.2.2.2.1 y2.2.2.2.2.2.2.2.2.2.2.2.2.2.2.2.2.1 y2.2.2.2.2.2.2.2.2.2.2.2.2.2.2.2.2.2.1 y2.2.2.2.2.2.2.2.2.2.2.2.2.2.2.2.2.2.2.1 y2.2.2.2.2.2.2.2.2.2.2.2.2.2.2.2.2.2.2.2.1 y2.2.2.2.2.2.2.2.2.2.2.2.2.2.2.2.2.2.2.2.2.1 y2.2.2.2.2.2.2.2.2.2.2.2.2.2.2.2.2.2.2.2.2.2.1 y2.2.2.2.2.2.2.2.2.2.2.2.2.2.2.2.2.2.2.2.2.2.2<rtM a0 a1 y2.1 y2.2.1 y2.2.2.1 y2.2.2.2.1 y2.2.2.2.2.1 y2.2.2.2.2.2.1 y2.2.2.2.2.2.2.1 y2.2.2.2.2.2.2.2.1 y2.2.2.2.2.2.2.2.2.1 y2.2.2.2.2.2.2.2.2.2.1 y2.2.2.2.2.2.2.2.2.2.2.1 y2.2.2.2.2.2.2.2.2.2.2.2.1 y2.2.2.2.2.2.2.2.2.2.2.2.2.1 y2.2.2.2.2.2.2.2.2.2.2.2.2.2.1 y2.2.2.2.2.2.2.2.2.2.2.2.2.2.2.1 y2.2.2.2.2.2.2.2.2.2.2.2.2.2.2.2.1 y2.2.2.2.2.2.2.2.2.2.2.2.2.2.2.2.2.1 y2.2.2.2.2.2.2.2.2.2.2.2.2.2.2.2.2.2.1 y2.2.2.2.2.2.2.2.2.2.2.2.2.2.2.2.2.2.2.1 y2.2.2.2.2.2.2.2.2.2.2.2.2.2.2.2.2.2.2.2.1 y2.2.2.2.2.2.2.2.2.2.2.2.2.2.2.2.2.2.2.2.2.1 y2.2.2.2.2.2.2.2.2.2.2.2.2.2.2.2.2.2.2.2.2.2.1 y2.2.2.2.2.2.2.2.2.2.2.2.2.2.2.2.2.2.2.2.2.2.2))))))) (dC (ln y2.2.2.2.2.2.2.2.2.2.2.2.2.2.2.2.2.2.1>12) (rE ((y2.2.2.1,y2.2.2.2.1,y2.2.2.2.2.1,y2.2.2.2.2.2.2.2.2.2.2.2.2.2.2.2.2.2.2.1,(y2.2.2.2.2.2.1,y2.2.2.2.2.2.2.2.2.2.2.2.2.2.2.2.2.2.2.2.1,y2.2.2.2.2.2.2.2.2.2.2.2.2.2.2.2.2.2.2.2.2.1),y2.2.2.2.2.2.2.2.2.2.2.2.2.2.2.2.2.2.2.2.2.2.1),3,0,0,[]) (X8U a0 a1)) (rE ((y2.2.2.1,y2.2.2.2.1,y2.2.2.2.2.1,y2.2.2.2.2.2.2.2.2.2.2.2.2.2.2.2.2.2.1,(y2.2.2.2.2.2.1,y2.2.2.2.2.2.2.2.2.2.2.2.2.2.2.2.2.2.2.2.1,y2.2.2.2.2.2.2.2.2.2.2.2.2.2.2.2.2.2.2.2.2.1),y2.2.2.2.2.2.2.2.2.2.2.2.2.2.2.2.2.2.2.2.2.2.1),0,0,y2.2.2.2.2.1,y2.1) (X8U a0 a1))))
def X2y.L(a0:U2q)(a1:XbM):Nat->Option X0f:=XLK [(506,⟨⟨[2,4,5,6],[7,8,9],[3,5,6],[kC 7 0 1000899 78,kA 3 3 13800393 78,kA 3 5 13800397 115,kA 3 6 13800399 9,kA 3 7 13800401 73,kA 5 3 13800649 78]⟩,(.pair .str T13q),λst y=>rtI a0 a1 y.1 y.2.1 y.2.2.1 y.2.2.2.1 y.2.2.2.2.1 y.2.2.2.2.2.1 y.2.2.2.2.2.2.1 y.2.2.2.2.2.2.2.1 y.2.2.2.2.2.2.2.2.1 y.2.2.2.2.2.2.2.2.2.1 y.2.2.2.2.2.2.2.2.2.2.1 y.2.2.2.2.2.2.2.2.2.2.2.1 y.2.2.2.2.2.2.2.2.2.2.2.2.1 y.2.2.2.2.2.2.2.2.2.2.2.2.2.1 y.2.2.2.2.2.2.2.2.2.2.2.2.2.2.1 y.2.2.2.2.2.2.2.2.2.2.2.2.2.2.2.1 y.2.2.2.2.2.2.2.2.2.2.2.2.2.2.2.2.1 y.2.2.2.2.2.2.2.2.2.2.2.2.2.2.2.2.2.1 y.2.2.2.2.2.2.2.2.2.2.2.2.2.2.2.2.2.2.1 y.2.2.2.2.2.2.2.2.2.2.2.2.2.2.2.2.2.2.2.1 y.2.2.2.2.2.2.2.2.2.2.2.2.2.2.2.2.2.2.2.2.1 y.2.2.2.2.2.2.2.2.2.2.2.2.2.2.2.2.2.2.2.2.2.1 y.2.2.2.2.2.2.2.2.2.2.2.2.2.2.2.2.2.2.2.2.2.2,λst y=>rtM a0 a1 y.1 y.2.1 y.2.2.1 y.2.2.2.1 y.2.2.2.2.1 y.2.2.2.2.2.1 y.2.2.2.2.2.2.1 y.2.2.2.2.2.2.2.1 y.2.2.2.2.2.2.2.2.1 y.2.2.2.2.2.2.2.2.2.1 y.2.2.2.2.2.2.2.2.2.2.1 y.2.2.2.2.2.2.2.2.2.2.2.1 y.2.2.2.2.2.2.2.2.2.2.2.2.1 y.2.2.2.2.2.2.2.2.2.2.2.2.2.1 y.2.2.2.2.2.2.2.2.2.2.2.2.2.2.1 y.2.2.2.2.2.2.2.2.2.2.2.2.2.2.2.1 y.2.2.2.2.2.2.2.2.2.2.2.2.2.2.2.2.1 y.2.2.2.2.2.2.2.2.2.2.2.2.2.2.2.2.2.1 y.2.2.2.2.2.2.2.2.2.2.2.2.2.2.2.2.2.2.1 y.2.2.2.2.2.2.2.2.2.2.2.2.2.2.2.2.2.2.2.1 y.2.2.2.2.2.2.2.2.2.2.2.2.2.2.2.2.2.2.2.2.1 y.2.2.2.2.2.2.2.2.2.2.2.2.2.2.2.2.2.2.2.2.2.1 y.2.2.2.2.2.2.2.2.2.2.2.2.2.2.2.2.2.2.2.2.2.2⟩)]
theorem X2y.p(a0:U2q)(a1:XbM)(h:(XkO a0 a1)):X2y.F a0 a1:=by
 delta X2y.F ln tN wI dC eQ gA iB lE rE rU vL;simp only[Bs,B0,B1,Yaa,X01,Yay];have hB:XpS 12 a0.2.2.2.1:=h;have hBl:=hB.len;have hcl:=XtM a1.2.2.1 a1.2.2.2.1;have hcl':(cvL a0 a1).length<=8:=hcl;refine⟨λh1=>?_,λh1=>⟨by omega,by omega,⟨⟨by omega,by omega⟩,rfl,rfl,hB.more (by omega),by simp⟩,?_⟩⟩
 . have e:X3v a1.2.2.1 a1.2.2.2.1=[]:=YaL.1 (by omega);unfold X8U;rw[Yah e]
 have hne:¬X3v a1.2.2.1 a1.2.2.2.1=[]:=λe=>h1 (by rw[e];rfl);rintro⟨data,i,k,hh,mk,fl,z0,z1,z2,z4,z5,z6,z7,c1,c2,c3,c4,l,bk,ca,fi,se,z3⟩ ⟨⟨q1,q2⟩,q3,q4,q5,q6⟩;simp only at q1 q2 q3 q4 q5 q6 ⊢;have eL:X3v a1.2.2.1 a1.2.2.2.1=cvL a0 a1:=rfl;have em:a0.2.2.1=mk:=by rw[<-q4]
 simp only[eL];refine⟨λhi=>?_,λhi=>?_⟩
 . have hx:0<=(cvL a0 a1).getD i.toNat 0/\(cvL a0 a1).getD i.toNat 0<=10995116277:=XvH (X10 (d:=(0:Int)) (l:=cvL a0 a1) (i:=i.toNat) (by omega));have ht:(cvL a0 a1).take (i+1).toNat=(cvL a0 a1).take i.toNat++[(cvL a0 a1).getD i.toNat 0]:=by rw[tn1 q1,X0M 0 (by omega)]
   rw[w64 (x:=i+1) (by omega) (by omega)];generalize (cvL a0 a1).getD i.toNat 0=x at hx ht ⊢;obtain⟨s1,s2,s3,s4⟩:=Xvz (d:=data) (i:=i) (by omega) q5 hx q6;have hp:=Xxl l x;have ha:=r_at l x;have hll:=q5.len;have hd:(data.length:Int)<=1000:=by omega
   have v1:=X0x x;have v2:=X0x ((XnP l x).getD (Xga l x).1.toNat (0,0)).2;have skip:XdL x mk=true->rtI a0 a1 data (i+1) k hh mk fl z0 z1 z2 z4 z5 z6 z7 c1 c2 c3 c4 l bk ca fi se z3:=λhp=>by
    refine⟨⟨by omega,by omega⟩,?_,q4,q5.more (by omega),by omega⟩;rw[ht,Ya2,em];rw[em]at q3;have:[x].filter (XbV mk)=[]:=by simp[XbV,hp]
    rw[this,Ybd];exact q3
   have out:XdL x mk=false->rtI a0 a1 (data++(X28 x++X28 ((XnP l x).getD (Xga l x).1.toNat (0,0)).2)) (i+1) k hh mk fl z0 z1 z2 z4 z5 z6 z7 c1 c2 c3 c4 (XnP l x) bk ca fi se z3:=λhp=>by
    refine⟨⟨by omega,by omega⟩,?_,q4,by rw[show 12+(i+1).toNat=12+i.toNat+1 by omega];exact s1,s2⟩;rw[ht,Ya2,em];rw[em]at q3;have:[x].filter (XbV mk)=[x]:=by simp[XbV,hp]
    rw[this];unfold dGo at q3 ⊢;rw[YbH,<-q3];rfl
   refine⟨q1,hi,λhp=>⟨skip hp,by unfold rtM;omega⟩,λhpast=>⟨q1,hi,s3,λhb=>?_,λhb=>?_⟩⟩
   . have er:=r_no hb;have out:=out hpast;have l1:(l.take (Xga l x).1.toNat).length<=1000:=by rw[Yal];omega
     have l2:(l.drop (Xga l x).1.toNat).length<=1000:=by rw[Yap];omega
     have l3:(l.take (Xga l x).1.toNat).length+1+(l.drop (Xga l x).1.toNat).length=(XnP l x).length:=by
      rw[<-er];simp only[Yab,Yad,Yai];omega
     simp only[YbK,YaV,Yat,Yam,er];exact⟨hp.1,hp.2,by omega,by omega,q1,hi,s4,by omega,by omega,hp.1,hp.2,by omega,by omega,q1,hi,by omega,hp.1,by omega,by omega,out,by unfold rtM;omega⟩
   . have er:=Xwz hb;have out:=out hpast;rw[er]at ha v2 out;simp only[Yam];exact⟨q1,hi,by omega,hp.1,ha,by omega,out,by unfold rtM;omega⟩
 . have e:i.toNat=(cvL a0 a1).length:=by omega
   rw[e,Yat]at q3;have eg:dGo ((X3v a1.2.2.1 a1.2.2.2.1).filter (XbV a0.2.2.1)) (a0.2.2.2.1,[])=(l,data):=q3.symm;refine⟨λh12=>?_,λh12=>?_⟩
   . unfold X8U;rw[Yae hne,eg,Yah (by simp only;omega),q4]
   . unfold X8U;rw[Yae hne,eg,Yae (by simp only;omega),<-q4]
def X2y.e:GE:=mE X9H func79 [40,42] [X2Y.e,X58.e,X2n.e,X2O.e,X5l.e] [] (λi x=>X2y.L x.1 x.2) (λi x=>X2y.F x.1 x.2) λi x h _ _=>X2y.p x.1 x.2 h
def Xst{α:Type}(a:α):Prop:=False
def Xu1.L(a0:U2q):Nat->Option X0f:=XLK [(58,⟨⟨[1],[3],[2],[]⟩,XyI,λst y=>stI a0 y.1 y.2.1 y.2.2.1 y.2.2.2.1 y.2.2.2.2.1 y.2.2.2.2.2.1 y.2.2.2.2.2.2.1 y.2.2.2.2.2.2.2.1 y.2.2.2.2.2.2.2.2,λst y=>stM a0 y.1 y.2.1 y.2.2.1 y.2.2.2.1 y.2.2.2.2.1 y.2.2.2.2.2.1 y.2.2.2.2.2.2.1 y.2.2.2.2.2.2.2.1 y.2.2.2.2.2.2.2.2⟩),(7850,⟨⟨[1],[5],[2],[]⟩,XyI,λst y=>suI a0 y.1 y.2.1 y.2.2.1 y.2.2.2.1 y.2.2.2.2.1 y.2.2.2.2.2.1 y.2.2.2.2.2.2.1 y.2.2.2.2.2.2.2.1 y.2.2.2.2.2.2.2.2,λst y=>suM a0 y.1 y.2.1 y.2.2.1 y.2.2.2.1 y.2.2.2.2.1 y.2.2.2.2.2.1 y.2.2.2.2.2.2.1 y.2.2.2.2.2.2.2.1 y.2.2.2.2.2.2.2.2⟩)]
def Xpp(e:Eng):Eng:=e
def Xem:Con:=cW T9q [.agg 3] T9q [(true,3)] [(1,115),(2,9)] (λa=>(Xst a)) λa=>(Xpp a)
theorem XcY.ok:X0h Tryz.prog 86 Xem:=λw M vs cs i x F FI b h1 h2 h3 h4 h5 h6 h7 hp=>hp.elim
def XcY.e:GE:=⟨86,Xem,⟨_,func86,rfl,rfl⟩,XcY.ok⟩
def XfK(l:List Bkt)(mark:Int):List Bkt:=l.filter λb=>!XdL b.1 mark
def XeF(s:Stt)(o:Opp):Stt×Ans:=
 if o.1=1 then X8U s o
 else if o.1=2 then(if o.2.2.1 - s.2.1>s.2.2.1 then((s.1,(s.2.1,(o.2.2.1 - s.2.1,(XfK s.2.2.2.1 (o.2.2.1 - s.2.1),s.2.2.2.2)))),(0,(0,(o.2.2.1 - s.2.1,[])))) else(s,(0,(0,(s.2.2.1,[])))))
 else((s.1,(o.2.2.1,(s.2.2.1,(s.2.2.2.1,s.2.2.2.2)))),(0,(0,(s.2.2.1,[]))))
def XsG(s:Stt)(m:Int):Stt:=(s.1,(s.2.1,(m,s.2.2.2)))
def lmI(s:Stt)(o:Opp)(i k h mk fl z0 z1 z2 z4:Int)(z5:List Ser)(z6:List Str)(z7:List X7a)(c1 c2 c3:Int)(c4:Str)(l bk:List Bkt)(ca:List Ser)(fi:List Str)(se:List X7a)(z3:List Bkt):Prop:=
 (0<=i/\i<=s.2.2.2.1.length)/\((k,(h,(mk,(bk,((fl,(ca,fi)),se))))):Stt)=XsG s (o.2.2.1 - s.2.1)/\l=XfK (s.2.2.2.1.take i.toNat) (o.2.2.1 - s.2.1)/\(l.length:Int)<=i
def lmM(s:Stt)(o:Opp)(i k h mk fl z0 z1 z2 z4:Int)(z5:List Ser)(z6:List Str)(z7:List X7a)(c1 c2 c3:Int)(c4:Str)(l bk:List Bkt)(ca:List Ser)(fi:List Str)(se:List X7a)(z3:List Bkt):Nat:=(s.2.2.2.1.length - i).toNat
def Xhi(l:List X7a):List X7a:=l
def Xk8(l:List X7a):Prop:=l.length<=1099511627776
def Xda(s:Stt):Stt:=s
def Xa7(s:Stt):Prop:=s.2.2.2.1.length<=1000/\Xr3 s.2.2.2.2.1/\s.2.2.2.2.2.length<=1000
theorem XpR(s:Stt)(o:Opp):(o.1=1->XeF s o=X8U s o)/\(¬o.1=1->o.1=2->o.2.2.1 - s.2.1>s.2.2.1->XeF s o=((s.1,(s.2.1,(o.2.2.1 - s.2.1,(XfK s.2.2.2.1 (o.2.2.1 - s.2.1),s.2.2.2.2)))),(0,(0,(o.2.2.1 - s.2.1,[])))))/\
 (¬o.1=1->o.1=2->¬o.2.2.1 - s.2.1>s.2.2.1->XeF s o=(s,(0,(0,(s.2.2.1,[])))))/\(¬o.1=1->¬o.1=2->XeF s o=((s.1,(o.2.2.1,(s.2.2.1,(s.2.2.2.1,s.2.2.2.2)))),(0,(0,(s.2.2.1,[]))))):=by
 refine⟨λh=>?_,λh h2 h3=>?_,λh h2 h3=>?_,λh h2=>?_⟩
 . unfold XeF;rw[Yah h]
 . unfold XeF;rw[Yae h,Yah h2,Yah h3]
 . unfold XeF;rw[Yae h,Yah h2,Yae h3]
 . unfold XeF;rw[Yae h,Yae h2]
def X1h:Con:=cW (.list T1q) [.one] (.list T1q) [(false,1)] [(0,73)] (λa=>(Xk8 a)) λa=>(Xhi a)
def X0j.F(a0:(List U6q)):Prop:=∀(b1:Bool),(b1=true->a0=[])->X00 b1 (Eq (([]:List U6q),(),()) (Xhi a0,(),())) (List.length ([]:List U6q)+List.length a0<=9223372036854775807/\(List.length ([]:List U6q)+List.length a0)*56<=140737488355328/\Eq (([]:List U6q)++a0,(),()) (Xhi a0,(),()))
theorem X0j.p(a0:(List U6q))(h:(Xk8 a0))(hw:Wf X1h.A a0):X0j.F a0:=by
 unfold X0j.F;have hp:a0.length<=1099511627776:=h;simp only[Bs,B0,B1,Yaa,X01,Xhi,Xk8]
 repeat' (with_reducible (first | (refine And.intro ?_ ?_) | intro _))
 all_goals (try simp (disch:=omega) only[w64,wu8,tn0,tn1,tm1,tm2,Yab,Yad,Yai]at*)
 all_goals (try simp (disch:=omega) only[w64,wu8,tn0,tn1,tm1,tm2,Yab,Yad,Yai]at*)
 all_goals (try omega)
 all_goals (try grind[])
 all_goals (try simp_all)
def X0j.e:GE:=mE X1h func95 [38] [] [] noL (λi x=>X0j.F x) λi x h _ hw=>X0j.p x h hw
def X8q:Con:=cW T4q [.agg 8] T4q [(true,8)] [(3,78),(5,115),(6,9),(7,73)] (λa=>(Xa7 a)) λa=>(Xda a)
def X2H.F(a0:U2q):Prop:=XoZ a0.2.2.2.1/\∀r1,Eq r1 (XoT a0.2.2.2.1,(),())->Xr3 (a0.2.2.2.2.1.1,a0.2.2.2.2.1.2.1,a0.2.2.2.2.1.2.2)/\∀r2,Eq r2 (XoN (a0.2.2.2.2.1.1,a0.2.2.2.2.1.2.1,a0.2.2.2.2.1.2.2),(),())->Xk8 a0.2.2.2.2.2/\∀r3,Eq r3 (Xhi a0.2.2.2.2.2,(),())->Eq ((a0.1,a0.2.1,a0.2.2.1,r1.1,(r2.1.1,r2.1.2.1,r2.1.2.2),r3.1),(),()) (Xda a0,(),())
theorem X2H.p(a0:U2q)(h:(Xa7 a0)):X2H.F a0:=by
 unfold X2H.F;simp only[Bs,B0,B1,Yaa,X01,Yay,XoT,XoN,Xhi];obtain⟨h1,h2,h3⟩:=h;exact⟨by unfold XoZ;omega,h2,by unfold Xk8;omega,rfl⟩
def X2H.e:GE:=mE X8q func58 [40] [X0i.e,X1r.e,X0j.e] [] noL (λi x=>X2H.F x) λi x h _ _=>X2H.p x h
def Xau:Con:=cW T4q [.agg 8] T4q [(true,8)] [(3,78),(5,115),(6,9),(7,73)] (λa=>(Xa7 a)) λa=>(Xda a)
def X4z.F(a0:U2q):Prop:=List.length ([]:List (Int×Int))+List.length a0.2.2.2.1<=9223372036854775807/\(List.length ([]:List (Int×Int))+List.length a0.2.2.2.1)*16<=140737488355328/\Xr3 (a0.2.2.2.2.1.1,a0.2.2.2.2.1.2.1,a0.2.2.2.2.1.2.2)/\∀r1,Eq r1 (XoN (a0.2.2.2.2.1.1,a0.2.2.2.2.1.2.1,a0.2.2.2.2.1.2.2),(),())->List.length ([]:List U6q)+List.length a0.2.2.2.2.2<=9223372036854775807/\(List.length ([]:List U6q)+List.length a0.2.2.2.2.2)*56<=140737488355328/\Eq ((a0.1,a0.2.1,a0.2.2.1,([]:List (Int×Int))++a0.2.2.2.1,(r1.1.1,r1.1.2.1,r1.1.2.2),([]:List U6q)++a0.2.2.2.2.2),(),()) (Xda a0,(),())
theorem X4z.p(a0:U2q)(h:(Xa7 a0)):X4z.F a0:=by
 unfold X4z.F;simp only[Bs,B0,B1,Yaa,X01,Yay,XoN];obtain⟨h1,h2,h3⟩:=h;exact⟨by omega,by omega,h2,by omega,by omega,rfl⟩
def X4z.e:GE:=mE Xau func19 [40] [X3u.e] [] noL (λi x=>X4z.F x) λi x h _ _=>X4z.p x h
def Xxv.L(a0:U2q)(a1:XbM):Nat->Option X0f:=XLK [(1027674,⟨⟨[2,4,5],[7,8],[3,5,6],[kC 7 0 1000899 78,kA 3 3 13800393 78,kA 3 5 13800397 115,kA 3 6 13800399 9,kA 3 7 13800401 73,kA 5 3 13800649 78]⟩,T13q,λst y=>lmI a0 a1 y.1 y.2.1 y.2.2.1 y.2.2.2.1 y.2.2.2.2.1 y.2.2.2.2.2.1 y.2.2.2.2.2.2.1 y.2.2.2.2.2.2.2.1 y.2.2.2.2.2.2.2.2.1 y.2.2.2.2.2.2.2.2.2.1 y.2.2.2.2.2.2.2.2.2.2.1 y.2.2.2.2.2.2.2.2.2.2.2.1 y.2.2.2.2.2.2.2.2.2.2.2.2.1 y.2.2.2.2.2.2.2.2.2.2.2.2.2.1 y.2.2.2.2.2.2.2.2.2.2.2.2.2.2.1 y.2.2.2.2.2.2.2.2.2.2.2.2.2.2.2.1 y.2.2.2.2.2.2.2.2.2.2.2.2.2.2.2.2.1 y.2.2.2.2.2.2.2.2.2.2.2.2.2.2.2.2.2.1 y.2.2.2.2.2.2.2.2.2.2.2.2.2.2.2.2.2.2.1 y.2.2.2.2.2.2.2.2.2.2.2.2.2.2.2.2.2.2.2.1 y.2.2.2.2.2.2.2.2.2.2.2.2.2.2.2.2.2.2.2.2.1 y.2.2.2.2.2.2.2.2.2.2.2.2.2.2.2.2.2.2.2.2.2,λst y=>lmM a0 a1 y.1 y.2.1 y.2.2.1 y.2.2.2.1 y.2.2.2.2.1 y.2.2.2.2.2.1 y.2.2.2.2.2.2.1 y.2.2.2.2.2.2.2.1 y.2.2.2.2.2.2.2.2.1 y.2.2.2.2.2.2.2.2.2.1 y.2.2.2.2.2.2.2.2.2.2.1 y.2.2.2.2.2.2.2.2.2.2.2.1 y.2.2.2.2.2.2.2.2.2.2.2.2.1 y.2.2.2.2.2.2.2.2.2.2.2.2.2.1 y.2.2.2.2.2.2.2.2.2.2.2.2.2.2.1 y.2.2.2.2.2.2.2.2.2.2.2.2.2.2.2.1 y.2.2.2.2.2.2.2.2.2.2.2.2.2.2.2.2.1 y.2.2.2.2.2.2.2.2.2.2.2.2.2.2.2.2.2.1 y.2.2.2.2.2.2.2.2.2.2.2.2.2.2.2.2.2.2.1 y.2.2.2.2.2.2.2.2.2.2.2.2.2.2.2.2.2.2.2.1 y.2.2.2.2.2.2.2.2.2.2.2.2.2.2.2.2.2.2.2.2.1 y.2.2.2.2.2.2.2.2.2.2.2.2.2.2.2.2.2.2.2.2.2⟩)]
def setE(s:Stt)(e:Eng):Stt:=(s.1,(s.2.1,(s.2.2.1,(s.2.2.2.1,(e,s.2.2.2.2.2)))))
def XtB(o:Opp):List Pt:=(X0s o.2.2.2.2).1
def ptR(s:Stt)(o:Opp):Eng×Int:=Xag s.2.2.2.2.1 o.2.1 (XtB o)
def fWr(s:Stt)(o:Opp):Stt×Ans:=
 if (ptR s o).2=0 then(setE s (ptR s o).1,(0,(0,(s.2.2.2.2.1.1,[]))))
 else if (ptR s o).2=2 then(s,(2,(0,(s.2.2.2.2.1.1,[]))))
 else(s,(3,(0,(s.2.2.2.2.1.1,[]))))
def fSh(s:Stt)(o:Opp):Stt×Ans:=
 if o.1=4 then fWr s o
 else if o.1=5 then(s,(0,(0,(s.2.2.2.2.1.1,X04 (Xf8 s.2.2.2.2.1 o.2.1 o.2.2.1 o.2.2.2.1)))))
 else if o.1=6 then(setE s (Xc6 s.2.2.2.2.1 o.2.2.1),(0,(0,((Xc6 s.2.2.2.2.1 o.2.2.1).1,[]))))
 else if o.1=7 then(setE s (Xdw s.2.2.2.2.1),(0,(0,((Xdw s.2.2.2.2.1).1,[]))))
 else(s,(4,(0,(0,[]))))
def Xr1(s:Stt)(o:Opp):Ans×Stt:=((fWr s o).2,(fWr s o).1)
def Xo6(s:Stt)(o:Opp):Ans×Stt:=((fSh s o).2,(fSh s o).1)
def pWr(s:Stt)(o:Opp):Prop:=pPut s.2.2.2.2.1 o.2.1 (XtB o)
def pSh(s:Stt)(o:Opp):Prop:=pWr s o
def fMt(s:Stt)(o:Opp):Stt×Ans:=if o.1<=3 then XeF s o else(s,(4,(0,(0,[]))))
def Xmz(s:Stt)(o:Opp):Ans×Stt:=((fMt s o).2,(fMt s o).1)
def pMt(s:Stt)(o:Opp):Prop:=(1<=o.1)/\XpS 12 s.2.2.2.1/\(0<=s.2.1/\s.2.1<=100000)/\(0<=s.2.2.1/\s.2.2.1<=1099511627776)/\(o.1=2->0<=o.2.2.1/\o.2.2.1<=1099511627776)
def X96(s:Stt)(o:Opp):Stt×Ans:=if X0P o=true then(if s.1=1 then fMt s o else fSh s o) else(s,(1,(0,(0,[]))))
def fDo(s:Stt)(o:Opp):Stt×Ans:=if X2U s=true then X96 s o else((0,(0,(0,([],((0,([],[])),[]))))),(1,(0,(0,[]))))
def pDo(s:Stt)(o:Opp):Prop:=pSt s/\pOp o
def Xuh(s:Stt)(o:Opp):Prop:=X2U s=true/\pSt s/\pOp o
theorem Xhf{s:Stt}(h:X2U s=true):Xa7 s:=by
 unfold X2U at h;rw[Yac]at h;obtain⟨h0,h⟩:=h;have hs:=XlK h0;unfold Xa7;split at h
 . unfold X6F Xeo at h;simp only[Yac,Yaj]at h;refine⟨by omega,⟨?_,by omega⟩,by omega⟩;rw[YaL.1 h.2.2.2.2.1];simp[tot,cL]
 . split at h
   . simp only[Yac,Yaj]at h;exact⟨by omega,XpK h.2.2.2,by omega⟩
   . cases h
theorem bk_of{l:List Bkt}{m:Int}(h:X6F l m=true):XpS 12 l:=by
 unfold X6F at h;simp only[Yac,Yaj,XhU,Ya7,YbV]at h;obtain⟨h1,h2⟩:=h;have hb:∀i,i<l.length->(0<=(l.getD i (0,0)).1/\(l.getD i (0,0)).1<=10995116277)/\(0<=(l.getD i (0,0)).2/\(l.getD i (0,0)).2<=1)/\(i=0\/(l.getD (i - 1) (0,0)).1<(l.getD i (0,0)).1):=λi hi=>by
  have:=h2 i hi;simp only[XtO,bk1,Yac,Ya5,Yaj,fIn]at this;exact⟨this.1.1,this.1.2.2,this.2⟩
 have hm:∀x∈l,∃i,i<l.length/\l.getD i (0,0)=x:=λx hx=>by
  obtain⟨i,hi,e⟩:=YaM hx;exact⟨i,hi,by rw[X0O hi,e]⟩
 refine⟨⟨?_,λx hx=>?_⟩,λx hx=>?_,λx hx=>?_,h1⟩
 . have hs:∀(d:Nat) (i:Nat),i+d+1<l.length->(l.getD i (0,0)).1<(l.getD (i+d+1) (0,0)).1:=by
    intro d
    induction d with
    | zero=>intro i hi;have:=(hb (i+1) hi).2.2;simp at this;exact this
    | succ d ih=>
      intro i hi;have a:=ih i (by omega);have c:=(hb (i+(d+1)+1) hi).2.2;simp only[Yct]at c;rcases c with c | c
      . omega
      . exact Int.lt_trans a c
   refine Yb8.2 λi j hi hj hij=>?_;have:=hs (j - i - 1) i (by omega);rw[show i+(j - i - 1)+1=j by omega,X0O hi,X0O hj]at this;simpa using this
 . obtain⟨i,hi,e⟩:=hm x hx;have:=(hb i hi).1;rw[e]at this;omega
 . obtain⟨i,hi,e⟩:=hm x hx;have:=(hb i hi).2.1;rw[e]at this;omega
 . obtain⟨i,hi,e⟩:=hm x hx;have:=(hb i hi).1;rw[e]at this;omega
theorem Xrz{o:Opp}(h:X0P o=true):1<=o.1/\o.1<=7/\(o.1=2->0<=o.2.2.1/\o.2.2.1<=1099511627776):=by
 unfold X0P at h;by_cases h1:o.1=1
 . omega
 . rw[Yae h1]at h;by_cases h2:o.1=2\/o.1=6
   . rw[Yah h2,Yac,X0R]at h;omega
   . rw[Yae h2]at h;by_cases h3:o.1=3
     . omega
     . rw[Yae h3]at h;by_cases h4:o.1=4
       . omega
       . rw[Yae h4]at h;by_cases h5:o.1=5
         . omega
         . rw[Yae h5]at h;by_cases h7:o.1=7
           . omega
           . rw[Yae h7]at h;cases h
theorem Xwf{s:Stt}{o:Opp}(h:X2U s=true)(h1:s.1=1)(ho:X0P o=true):pMt s o:=by
 have k:=Xrz ho;unfold X2U at h;rw[Yah h1]at h;simp only[Yac,Xb3,X0R]at h;exact⟨k.1,bk_of h.2.2.2.1,by omega,by omega,k.2.2⟩
theorem XwW{s:Stt}(h:X2U s=true):s.1=1\/s.1=2:=by
 unfold X2U at h;rw[Yac]at h;have h:=h.2;split at h
 . left;assumption
 . split at h
   . right;assumption
   . cases h
theorem Xtc{s:Stt}(h:X2U s=true)(h2:s.1=2):X3D s.2.2.2.2.1=true:=by
 unfold X2U at h;rw[Yae (by omega),Yah h2]at h;simp only[Yac]at h;exact h.2.2.2.2
theorem Xpn{o:Opp}(h:X0P o=true)(h4:o.1=4):X6U o.2.1=true/\X0N (XtB o)=true/\XtB o≠[]:=by
 unfold X0P at h;rw[Yae (by omega),Yae (by omega),Yae (by omega),Yah h4]at h;simp only[Yac]at h;refine⟨h.1,?_⟩;have h2:=h.2.1;unfold XtB;unfold X0s at h2 ⊢;split
 . rename_i hr;exact hr.1
 . rename_i hr;rw[Yae hr]at h2;cases h2
theorem XpW{e:Eng}{k:Str}{p:List Pt}(h:X3D e=true)(hk:X6U k=true)(h1:X0N p=true)(h2:p≠[]):(Xag e k p).2=0\/(Xag e k p).2=2\/(Xag e k p).2=3:=by
 unfold Xag;rw[Yah h,Yah ⟨hk,h1,h2⟩];split
 . simp
 . split<;>simp
theorem XuX(e:Eng):(fFl e).1=e.1:=by
 unfold fFl Xio Xex
 repeat' split
 all_goals rfl
theorem Xtu{e:Eng}{k:Str}{p:List Pt}(h:X3D e=true)(h0:(Xag e k p).2=0):(Xag e k p).1.1=e.1:=by
 unfold Xag;rw[Yah h];split
 . split
   . rfl
   . split
     . simp only;split
       . rw[XuX];rfl
       . rfl
     . rfl
 . rfl
theorem Xrx{e:Eng}{k:Str}{a b:Int}(h1:X3D e=true)(hp:Xgx e):Xtk e/\XoR (Xiq e).1 e.1 k/\X8L (Xby (Xiq e).1 e.1 k) a b/\Xf8 e k a b=X25 (Xby (Xiq e).1 e.1 k) a b:=by
 obtain⟨g1,g2,g3,g4⟩:=X8G h1;obtain⟨k1,k2,k3,k4,k5⟩:=Xde g1;obtain⟨s1,s2,s3,s4⟩:=X3i k2;have ht:=Xgs e;have e2:=XtL s1 g2 k;have e3:=Xoq (X0l e).1 k;have e4:=Xwq g4;rw[XgD g2];simp only;rw[<-e2];refine⟨⟨hp.2,by omega⟩,by unfold XoR;omega,by unfold X8L;omega,?_⟩;unfold Xf8;rw[Yah h1]
def X6m:Con:={io:=true,I:=T4q,ownI:=[(3,78),(5,115),(6,9),(7,73)],A:=XnR,shA:=[.agg 5],R:=Xiy,shR:=[(true,4)],pre:=λi a=>(pWr i a),f:=some λi a=>((Xr1 i a).1,((Xr1 i a).2,()))}
def X3a.F(i0:U2q)(a0:XbM):Prop:=True/\∀r1,Eq r1 (X0s a0.2.2.2.2,(),())->pPut (i0.2.2.2.2.1.1,i0.2.2.2.2.1.2.1,i0.2.2.2.2.1.2.2) a0.2.1 r1.1.1/\∀r2,Eq r2 (Xag (i0.2.2.2.2.1.1,i0.2.2.2.2.1.2.1,i0.2.2.2.2.1.2.2) a0.2.1 r1.1.1,(),())->X00 (r2.1.2==(0:Int)) (Eq ((0,0,i0.2.2.2.2.1.1,[]),(i0.1,i0.2.1,i0.2.2.1,i0.2.2.2.1,(r2.1.1.1,r2.1.1.2.1,r2.1.1.2.2),i0.2.2.2.2.2),()) ((Xr1 i0 a0).1,(Xr1 i0 a0).2,())) (X00 (r2.1.2==(2:Int)) (Eq ((2,0,i0.2.2.2.2.1.1,[]),(i0.1,i0.2.1,i0.2.2.1,i0.2.2.2.1,(i0.2.2.2.2.1.1,i0.2.2.2.2.1.2.1,i0.2.2.2.2.1.2.2),i0.2.2.2.2.2),()) ((Xr1 i0 a0).1,(Xr1 i0 a0).2,())) (Eq ((3,0,i0.2.2.2.2.1.1,[]),(i0.1,i0.2.1,i0.2.2.1,i0.2.2.2.1,(i0.2.2.2.2.1.1,i0.2.2.2.2.1.2.1,i0.2.2.2.2.1.2.2),i0.2.2.2.2.2),()) ((Xr1 i0 a0).1,(Xr1 i0 a0).2,())))
theorem X3a.p(i0:U2q)(a0:XbM)(h:(pWr i0 a0)):X3a.F i0 a0:=by
 unfold X3a.F;simp only[Bs,B0,B1,Yaa,X01,Yay];have e:ptR i0 a0=Xag i0.2.2.2.2.1 a0.2.1 (X0s a0.2.2.2.2).1:=rfl;rw[<-e];refine⟨h,λh1=>?_,λh1=>⟨λh2=>?_,λh2=>?_⟩⟩
 . unfold Xr1 fWr;rw[Yah h1];exact⟨rfl,rfl⟩
 . unfold Xr1 fWr;rw[Yae h1,Yah h2];exact⟨rfl,rfl⟩
 . unfold Xr1 fWr;rw[Yae h1,Yae h2];exact⟨rfl,rfl⟩
def X3a.e:GE:=mE X6m func141 [42] [X1B.e,X9O.e] [] noL (λi x=>X3a.F i x) λi x h _ _=>X3a.p i x h
def X6t:Con:={io:=true,I:=T4q,ownI:=[(3,78),(5,115),(6,9),(7,73)],A:=XnR,shA:=[.agg 5],R:=Xiy,shR:=[(true,4)],pre:=λi a=>(pSh i a),f:=some λi a=>((Xo6 i a).1,((Xo6 i a).2,()))}
def X3b.F(i0:U2q)(a0:XbM):Prop:=X00 (a0.1==(4:Int)) (pWr (i0.1,i0.2.1,i0.2.2.1,i0.2.2.2.1,(i0.2.2.2.2.1.1,i0.2.2.2.2.1.2.1,i0.2.2.2.2.1.2.2),i0.2.2.2.2.2) (a0.1,a0.2.1,a0.2.2.1,a0.2.2.2.1,a0.2.2.2.2)/\∀r1,Eq r1 ((Xr1 (i0.1,i0.2.1,i0.2.2.1,i0.2.2.2.1,(i0.2.2.2.2.1.1,i0.2.2.2.2.1.2.1,i0.2.2.2.2.1.2.2),i0.2.2.2.2.2) (a0.1,a0.2.1,a0.2.2.1,a0.2.2.2.1,a0.2.2.2.2)).1,(Xr1 (i0.1,i0.2.1,i0.2.2.1,i0.2.2.2.1,(i0.2.2.2.2.1.1,i0.2.2.2.2.1.2.1,i0.2.2.2.2.1.2.2),i0.2.2.2.2.2) (a0.1,a0.2.1,a0.2.2.1,a0.2.2.2.1,a0.2.2.2.2)).2,())->Eq ((r1.1.1,r1.1.2.1,r1.1.2.2.1,r1.1.2.2.2),(r1.2.1.1,r1.2.1.2.1,r1.2.1.2.2.1,r1.2.1.2.2.2.1,(r1.2.1.2.2.2.2.1.1,r1.2.1.2.2.2.2.1.2.1,r1.2.1.2.2.2.2.1.2.2),r1.2.1.2.2.2.2.2),()) ((Xo6 i0 a0).1,(Xo6 i0 a0).2,())) (X00 (a0.1==(5:Int)) (Xsd (i0.2.2.2.2.1.1,i0.2.2.2.2.1.2.1,i0.2.2.2.2.1.2.2) a0.2.1 a0.2.2.1 a0.2.2.2.1/\∀r2,Eq r2 (Xf8 (i0.2.2.2.2.1.1,i0.2.2.2.2.1.2.1,i0.2.2.2.2.1.2.2) a0.2.1 a0.2.2.1 a0.2.2.2.1,(),())->True/\∀r3,Eq r3 (X04 r2.1,(),())->Eq ((0,0,i0.2.2.2.2.1.1,r3.1),(i0.1,i0.2.1,i0.2.2.1,i0.2.2.2.1,(i0.2.2.2.2.1.1,i0.2.2.2.2.1.2.1,i0.2.2.2.2.1.2.2),i0.2.2.2.2.2),()) ((Xo6 i0 a0).1,(Xo6 i0 a0).2,())) (X00 (a0.1==(6:Int)) (XsO (i0.2.2.2.2.1.1,i0.2.2.2.2.1.2.1,i0.2.2.2.2.1.2.2) a0.2.2.1/\∀r4,Eq r4 (Xc6 (i0.2.2.2.2.1.1,i0.2.2.2.2.1.2.1,i0.2.2.2.2.1.2.2) a0.2.2.1,(),())->Eq ((0,0,r4.1.1,[]),(i0.1,i0.2.1,i0.2.2.1,i0.2.2.2.1,(r4.1.1,r4.1.2.1,r4.1.2.2),i0.2.2.2.2.2),()) ((Xo6 i0 a0).1,(Xo6 i0 a0).2,())) (X00 (a0.1==(7:Int)) (Xgx (i0.2.2.2.2.1.1,i0.2.2.2.2.1.2.1,i0.2.2.2.2.1.2.2)/\∀r5,Eq r5 (Xdw (i0.2.2.2.2.1.1,i0.2.2.2.2.1.2.1,i0.2.2.2.2.1.2.2),(),())->Eq ((0,0,r5.1.1,[]),(i0.1,i0.2.1,i0.2.2.1,i0.2.2.2.1,(r5.1.1,r5.1.2.1,r5.1.2.2),i0.2.2.2.2.2),()) ((Xo6 i0 a0).1,(Xo6 i0 a0).2,())) (Eq ((4,0,0,[]),(i0.1,i0.2.1,i0.2.2.1,i0.2.2.2.1,(i0.2.2.2.2.1.1,i0.2.2.2.2.1.2.1,i0.2.2.2.2.1.2.2),i0.2.2.2.2.2),()) ((Xo6 i0 a0).1,(Xo6 i0 a0).2,())))))
theorem X3b.p(i0:U2q)(a0:XbM)(h:(pSh i0 a0)):X3b.F i0 a0:=by
 unfold X3b.F;simp only[Bs,B0,B1,Yaa,X01,Yay];unfold Xo6 fSh;refine⟨λh1=>?_,λh1=>⟨λh2=>?_,λh2=>⟨λh3=>?_,λh3=>⟨λh4=>?_,λh4=>?_⟩⟩⟩⟩
 . rw[Yah h1];exact⟨h,rfl,rfl⟩
 . rw[Yae h1,Yah h2];exact⟨h.1,rfl,rfl⟩
 . rw[Yae h1,Yae h2,Yah h3];exact⟨h.1,rfl,rfl⟩
 . rw[Yae h1,Yae h2,Yae h3,Yah h4];exact⟨h.1,rfl,rfl⟩
 . rw[Yae h1,Yae h2,Yae h3,Yae h4];exact⟨rfl,rfl⟩
def X3b.e:GE:=mE X6t func98 [42] [X3a.e,X1z.e,X5U.e,X5T.e,X5Q.e] [] noL (λi x=>X3b.F i x) λi x h _ _=>X3b.p i x h
def X75:Con:={io:=true,I:=T4q,ownI:=[(3,78),(5,115),(6,9),(7,73)],A:=XnR,shA:=[.agg 5],R:=Xiy,shR:=[(true,4)],pre:=λi a=>(pMt i a),f:=some λi a=>((Xmz i a).1,((Xmz i a).2,()))}
def X3I.F(i0:U2q)(a0:XbM):Prop:=X00 (a0.1==(1:Int)) (XkO (i0.1,i0.2.1,i0.2.2.1,i0.2.2.2.1,(i0.2.2.2.2.1.1,i0.2.2.2.2.1.2.1,i0.2.2.2.2.1.2.2),i0.2.2.2.2.2) (a0.1,a0.2.1,a0.2.2.1,a0.2.2.2.1,a0.2.2.2.2)/\∀r1,Eq r1 ((Xad (i0.1,i0.2.1,i0.2.2.1,i0.2.2.2.1,(i0.2.2.2.2.1.1,i0.2.2.2.2.1.2.1,i0.2.2.2.2.1.2.2),i0.2.2.2.2.2) (a0.1,a0.2.1,a0.2.2.1,a0.2.2.2.1,a0.2.2.2.2)).1,(Xad (i0.1,i0.2.1,i0.2.2.1,i0.2.2.2.1,(i0.2.2.2.2.1.1,i0.2.2.2.2.1.2.1,i0.2.2.2.2.1.2.2),i0.2.2.2.2.2) (a0.1,a0.2.1,a0.2.2.1,a0.2.2.2.1,a0.2.2.2.2)).2,())->Eq ((r1.1.1,r1.1.2.1,r1.1.2.2.1,r1.1.2.2.2),(r1.2.1.1,r1.2.1.2.1,r1.2.1.2.2.1,r1.2.1.2.2.2.1,(r1.2.1.2.2.2.2.1.1,r1.2.1.2.2.2.2.1.2.1,r1.2.1.2.2.2.2.1.2.2),r1.2.1.2.2.2.2.2),()) ((Xmz i0 a0).1,(Xmz i0 a0).2,())) (X00 (a0.1==(2:Int)) (X00 (decide (wI (a0.2.2.1 - i0.2.1)>i0.2.2.1)) (XhQ i0.2.2.2.1 (i0.1,i0.2.1,wI (a0.2.2.1 - i0.2.1))/\∀r2,Eq r2 (XkS i0.2.2.2.1 (i0.1,i0.2.1,wI (a0.2.2.1 - i0.2.1)),(),())->Eq ((0,0,wI (a0.2.2.1 - i0.2.1),[]),(i0.1,i0.2.1,wI (a0.2.2.1 - i0.2.1),r2.1,(i0.2.2.2.2.1.1,i0.2.2.2.2.1.2.1,i0.2.2.2.2.1.2.2),i0.2.2.2.2.2),()) ((Xmz i0 a0).1,(Xmz i0 a0).2,())) (Eq ((0,0,i0.2.2.1,[]),(i0.1,i0.2.1,i0.2.2.1,i0.2.2.2.1,(i0.2.2.2.2.1.1,i0.2.2.2.2.1.2.1,i0.2.2.2.2.1.2.2),i0.2.2.2.2.2),()) ((Xmz i0 a0).1,(Xmz i0 a0).2,()))) (X00 (a0.1==(3:Int)) (Eq ((0,0,i0.2.2.1,[]),(i0.1,a0.2.2.1,i0.2.2.1,i0.2.2.2.1,(i0.2.2.2.2.1.1,i0.2.2.2.2.1.2.1,i0.2.2.2.2.1.2.2),i0.2.2.2.2.2),()) ((Xmz i0 a0).1,(Xmz i0 a0).2,())) (Eq ((4,0,0,[]),(i0.1,i0.2.1,i0.2.2.1,i0.2.2.2.1,(i0.2.2.2.2.1.1,i0.2.2.2.2.1.2.1,i0.2.2.2.2.1.2.2),i0.2.2.2.2.2),()) ((Xmz i0 a0).1,(Xmz i0 a0).2,()))))
theorem X3I.p(i0:U2q)(a0:XbM)(h:(pMt i0 a0)):X3I.F i0 a0:=by
 delta X3I.F wI;simp only[Bs,B0,B1,Yaa,X01,Yay];obtain⟨ho1,hB,hh,hm,hf⟩:=h;obtain⟨e1,e2,e3,e4⟩:=XpR i0 a0;have hBl:=hB.len;have le:a0.1<=3->Xmz i0 a0=((XeF i0 a0).2,(XeF i0 a0).1):=λh=>by unfold Xmz fMt;rw[Yah h]
 refine⟨λh1=>?_,λh1=>⟨λh2=>?_,λh2=>⟨λh3=>?_,λh3=>?_⟩⟩⟩
 . rw[le (by omega),e1 h1];exact⟨hB,rfl,rfl⟩
 . have hf:=hf h2;rw[w64 (x:=a0.2.2.1 - i0.2.1) (by omega) (by omega),le (by omega)];refine⟨λh3=>?_,λh3=>?_⟩
   . rw[e2 h1 h2 h3];exact⟨by unfold XhQ;omega,rfl,rfl⟩
   . rw[e3 h1 h2 h3];exact⟨rfl,rfl⟩
 . rw[le (by omega),e4 h1 h2];exact⟨rfl,rfl⟩
 . unfold Xmz fMt;rw[Yae (by omega)];exact⟨rfl,rfl⟩
def X3I.e:GE:=mE X75 func97 [42] [X2K.e,X09.e,X2o.e] [] noL (λi x=>X3I.F i x) λi x h _ _=>X3I.p i x h
def X9Z:Con:=cW (.pair T4q XnR) [.agg 8,.agg 5] (.pair T4q Xiy) [(true,8),(true,4)] [(3,78),(5,115),(6,9),(7,73)] (λa=>(Xuh a.1 a.2)) λa=>(X96 a.1 a.2)
def X3N.F(a0:U2q)(a1:XbM):Prop:=Xa7 (a0.1,a0.2.1,a0.2.2.1,a0.2.2.2.1,(a0.2.2.2.2.1.1,a0.2.2.2.2.1.2.1,a0.2.2.2.2.1.2.2),a0.2.2.2.2.2)/\∀r1,Eq r1 (Xda (a0.1,a0.2.1,a0.2.2.1,a0.2.2.2.1,(a0.2.2.2.2.1.1,a0.2.2.2.2.1.2.1,a0.2.2.2.2.1.2.2),a0.2.2.2.2.2),(),())->pOp (a1.1,a1.2.1,a1.2.2.1,a1.2.2.2.1,a1.2.2.2.2)/\∀r2,Eq r2 (X0P (a1.1,a1.2.1,a1.2.2.1,a1.2.2.2.1,a1.2.2.2.2),(),())->X00 (!r2.1) (Eq (((r1.1.1,r1.1.2.1,r1.1.2.2.1,r1.1.2.2.2.1,(r1.1.2.2.2.2.1.1,r1.1.2.2.2.2.1.2.1,r1.1.2.2.2.2.1.2.2),r1.1.2.2.2.2.2),1,0,0,[]),(),()) (X96 a0 a1,(),())) (X00 (r1.1.1==(1:Int)) (pMt (r1.1.1,r1.1.2.1,r1.1.2.2.1,r1.1.2.2.2.1,(r1.1.2.2.2.2.1.1,r1.1.2.2.2.2.1.2.1,r1.1.2.2.2.2.1.2.2),r1.1.2.2.2.2.2) (a1.1,a1.2.1,a1.2.2.1,a1.2.2.2.1,a1.2.2.2.2)/\∀r3,Eq r3 ((Xmz (r1.1.1,r1.1.2.1,r1.1.2.2.1,r1.1.2.2.2.1,(r1.1.2.2.2.2.1.1,r1.1.2.2.2.2.1.2.1,r1.1.2.2.2.2.1.2.2),r1.1.2.2.2.2.2) (a1.1,a1.2.1,a1.2.2.1,a1.2.2.2.1,a1.2.2.2.2)).1,(Xmz (r1.1.1,r1.1.2.1,r1.1.2.2.1,r1.1.2.2.2.1,(r1.1.2.2.2.2.1.1,r1.1.2.2.2.2.1.2.1,r1.1.2.2.2.2.1.2.2),r1.1.2.2.2.2.2) (a1.1,a1.2.1,a1.2.2.1,a1.2.2.2.1,a1.2.2.2.2)).2,())->Eq (((r3.2.1.1,r3.2.1.2.1,r3.2.1.2.2.1,r3.2.1.2.2.2.1,(r3.2.1.2.2.2.2.1.1,r3.2.1.2.2.2.2.1.2.1,r3.2.1.2.2.2.2.1.2.2),r3.2.1.2.2.2.2.2),r3.1.1,r3.1.2.1,r3.1.2.2.1,r3.1.2.2.2),(),()) (X96 a0 a1,(),())) (pSh (r1.1.1,r1.1.2.1,r1.1.2.2.1,r1.1.2.2.2.1,(r1.1.2.2.2.2.1.1,r1.1.2.2.2.2.1.2.1,r1.1.2.2.2.2.1.2.2),r1.1.2.2.2.2.2) (a1.1,a1.2.1,a1.2.2.1,a1.2.2.2.1,a1.2.2.2.2)/\∀r4,Eq r4 ((Xo6 (r1.1.1,r1.1.2.1,r1.1.2.2.1,r1.1.2.2.2.1,(r1.1.2.2.2.2.1.1,r1.1.2.2.2.2.1.2.1,r1.1.2.2.2.2.1.2.2),r1.1.2.2.2.2.2) (a1.1,a1.2.1,a1.2.2.1,a1.2.2.2.1,a1.2.2.2.2)).1,(Xo6 (r1.1.1,r1.1.2.1,r1.1.2.2.1,r1.1.2.2.2.1,(r1.1.2.2.2.2.1.1,r1.1.2.2.2.2.1.2.1,r1.1.2.2.2.2.1.2.2),r1.1.2.2.2.2.2) (a1.1,a1.2.1,a1.2.2.1,a1.2.2.2.1,a1.2.2.2.2)).2,())->Eq (((r4.2.1.1,r4.2.1.2.1,r4.2.1.2.2.1,r4.2.1.2.2.2.1,(r4.2.1.2.2.2.2.1.1,r4.2.1.2.2.2.2.1.2.1,r4.2.1.2.2.2.2.1.2.2),r4.2.1.2.2.2.2.2),r4.1.1,r4.1.2.1,r4.1.2.2.1,r4.1.2.2.2),(),()) (X96 a0 a1,(),())))
theorem X3N.p(a0:U2q)(a1:XbM)(h:(Xuh a0 a1)):X3N.F a0 a1:=by
 unfold X3N.F;simp only[Bs,B0,B1,Yaa,X01,Yay,Xda,Xmz,Xo6];obtain⟨hS,hp,hk⟩:=h;unfold X96;refine⟨Xhf hS,hk,λc=>?_,λc=>⟨λh1=>⟨Xwf hS h1 c,?_⟩,λh1=>⟨⟨hp.1,hk⟩,?_⟩⟩⟩
 . rw[Yae (by rw[c];decide)]
 . rw[Yah c,Yah h1]
 . rw[Yah c,Yae h1]
def X3N.e:GE:=mE X9Z func60 [40,42] [X2H.e,X78.e,X3I.e,X3b.e] [] noL (λi x=>X3N.F x.1 x.2) λi x h _ _=>X3N.p x.1 x.2 h
def acc(s:Stt)(o:Opp):Prop:=s.1=2/\X0P o=true/\o.1=4/\(ptR s o).2=0
def XwR(e:Eng)(k:Str)(p:List Pt):Prop:=XuL e k p/\¬(Xag e k p).2=0
def pDoA(s:Stt)(o:Opp):Prop:=Xuh s o/\¬acc s o
def pDoB(s:Stt)(o:Opp):Prop:=Xuh s o/\acc s o
def XaM:Con:=cQ (.pair T9q T5q) [.agg 3,.one,.one] (.pair T9q (.int .i64)) [(true,3),(false,1)] (λa=>(XwR a.1 a.2.1 a.2.2)) λa=>(Xc9 a.1 a.2.1 a.2.2)
def X4H.F(a0:X5Y)(a1:U7q)(a2:U8q):Prop:=Xgb a1/\∀r1,Eq r1 (X6U a1,(),())->X00 (!r1.1) (Eq (((a0.1,a0.2.1,a0.2.2),1),(),()) (Xc9 a0 a1 a2,(),())) (True/\∀r2,Eq r2 (X0N a2,(),())->X00 (!r2.1) (Eq (((a0.1,a0.2.1,a0.2.2),1),(),()) (Xc9 a0 a1 a2,(),())) (X00 (ln a2==(0:Int)) (Eq (((a0.1,a0.2.1,a0.2.2),1),(),()) (Xc9 a0 a1 a2,(),())) (0<=(0:Int)/\(0:Int)<ln a2/\X00 (decide ((List.getD a2 (tN (0:Int)) (0,0)).1<a0.1)) (Eq (((a0.1,a0.2.1,a0.2.2),2),(),()) (Xc9 a0 a1 a2,(),())) (Xud a0.2.1 a1 a2/\∀r3,Eq r3 (XdT a0.2.1 a1 a2,(),())->Xtk (a0.1,r3.1,a0.2.2)/\∀r4,Eq r4 (Xiq (a0.1,r3.1,a0.2.2),(),())->Xrv r4.1.1 a0.1/\∀r5,Eq r5 (Xqf r4.1.1 a0.1,(),())->X3C r5.1/\∀r6,Eq r6 (X0Q r5.1,(),())->X00 (!r6.1) (Eq (((a0.1,a0.2.1,a0.2.2),3),(),()) (Xc9 a0 a1 a2,(),())) (Xqa r3.1/\∀r7,Eq r7 (XfC r3.1,(),())->X00 (decide (r7.1>(40:Int))) (Xst (a0.1,r3.1,a0.2.2)/\∀r8,Eq r8 (Xpp (a0.1,r3.1,a0.2.2),(),())->Eq (((r8.1.1,r8.1.2.1,r8.1.2.2),0),(),()) (Xc9 a0 a1 a2,(),())) (Eq (((a0.1,r3.1,a0.2.2),0),(),()) (Xc9 a0 a1 a2,(),())))))))
theorem X4H.p(a0:X5Y)(a1:U7q)(a2:U8q)(h:(XwR a0 a1 a2)):X4H.F a0 a1 a2:=by
 delta X4H.F ln tN;simp only[Bs,B0,B1,Yaa,X01,Yay,Xc9];obtain⟨⟨h1,hp,hk⟩,hne⟩:=h;have G:=XeG h1 hp;have bad:¬(X6U a1=true/\X0N a2=true/\a2≠[])->(a0,(1:Int))=Xag a0 a1 a2:=λh=>by unfold Xag;rw[Yah h1,Yae h]
 have late:(X6U a1=true/\X0N a2=true/\a2≠[])->(a2.getD 0 (0,0)).1<a0.1->(a0,(2:Int))=Xag a0 a1 a2:=λh h'=>by unfold Xag;rw[Yah h1,Yah h,Yah h']
 have full:(X6U a1=true/\X0N a2=true/\a2≠[])->¬(a2.getD 0 (0,0)).1<a0.1->X0Q (X0l (eX a0 a1 a2)).1=false->(a0,(3:Int))=Xag a0 a1 a2:=λh h' h2=>by unfold Xag;rw[Yah h1,Yah h,Yae h',Yae (by rw[h2];decide)]
 have big:(X6U a1=true/\X0N a2=true/\a2≠[])->¬(a2.getD 0 (0,0)).1<a0.1->X0Q (X0l (eX a0 a1 a2)).1=true->40<XfC (eX a0 a1 a2).2.1->(fFl (eX a0 a1 a2),(0:Int))=Xag a0 a1 a2:=λh h' h2 h3=>by unfold Xag;rw[Yah h1,Yah h,Yae h',Yah h2,Yah h3]
 have fine:(X6U a1=true/\X0N a2=true/\a2≠[])->¬(a2.getD 0 (0,0)).1<a0.1->X0Q (X0l (eX a0 a1 a2)).1=true->¬40<XfC (eX a0 a1 a2).2.1->(eX a0 a1 a2,(0:Int))=Xag a0 a1 a2:=λh h' h2 h3=>by unfold Xag;rw[Yah h1,Yah h,Yae h',Yah h2,Yae h3]
 have ca:=X3i G.ca;have le:=G.le;refine⟨hk,λh2=>bad (by simp[h2]),λh2=>⟨λh3=>bad (by simp[h3]),λh3=>⟨λh4=>bad (λhh=>hh.2.2 (YaL.1 (by omega))),λh4=>?_⟩⟩⟩;have hn:a2≠[]:=λe=>h4 (by rw[e];rfl);have hn2:0<a2.length:=Ybj.2 hn;have hq:X6U a1=true/\X0N a2=true/\a2≠[]:=⟨h2,h3,hn⟩
 have hl:=Xee h3;have e0:(0:Int).toNat=0:=rfl;simp only[e0];refine⟨by omega,by omega,λh5=>late hq h5,λh5=>⟨⟨by omega,by omega⟩,?_⟩⟩;obtain⟨X1,X2⟩:=Xiw h1 hp h3 hn h5;have eX0:(a0.1,XdT a0.2.1 a1 a2,a0.2.2)=eX a0 a1 a2:=by rw[XlU G.R.1];rfl
 have eX1:XdT a0.2.1 a1 a2=(eX a0 a1 a2).2.1:=by rw[<-eX0]
 have hS:∀x∈[((a1,a2):Ser)],XfB x.2:=λx hx=>by rw[YaP.1 hx];exact hl.1
 have hc2:Xdr (eX a0 a1 a2).2.1:=X7M G.R hS;have ht2:tot (eX a0 a1 a2).2.1<=305+61:=by
  have t1:=Xdg G.R hS;have t2:tot [((a1,a2):Ser)]=(a2.length:Int)+1:=by simp[tot,cL,cS]
  have t3:tot (eX a0 a1 a2).2.1=tot (X4R a0.2.1 [(a1,a2)]):=rfl;omega
 have hy:Xiq (eX a0 a1 a2)=(Xbk a0.2.2++[(eX a0 a1 a2).2.1],true):=XgD (e:=eX a0 a1 a2) G.ok;have hpl:Xqf (Xbk a0.2.2++[(eX a0 a1 a2).2.1]) a0.1=(X0l (eX a0 a1 a2)).1:=Xv4 (e:=eX a0 a1 a2) hc2 G.ok;have htt:=Xgs (eX a0 a1 a2);have htt2:cL tot (Xbk (eX a0 a1 a2).2.2++[(eX a0 a1 a2).2.1])=cL tot (Xbk a0.2.2++[(eX a0 a1 a2).2.1]):=rfl;have hle2:(eX a0 a1 a2).2.2.length=a0.2.2.length:=rfl;have hkey:X3C (X0l (eX a0 a1 a2)).1:=by
  rw[<-X1];have hk8:a1.length<=8:=by
   have:=h2;unfold X6U fIn at this;simp only[Yac,Yaj]at this;omega
  refine Xlv (Xdi (λx hx=>((X3i G.pl).2.2.2 x hx).1) λx hx=>?_);rw[YaP.1 hx];exact hk8
 rw[eX0,hy];simp only;rw[hpl,eX1];refine⟨⟨G.st,by omega⟩,by unfold Xrv;omega,hkey,λh6=>full hq h5 h6,λh6=>⟨by unfold Xqa;omega,λh7=>absurd (by rw[<-big hq h5 h6 h7]) hne,λh7=>fine hq h5 h6 (by omega)⟩⟩
def X4H.e:GE:=mE XaM func81 [37,3] [X1J.e,X2e.e,X12.e,X1I.e,XcY.e,X49.e,X1H.e,X2Z.e] [] noL (λi x=>X4H.F x.1 x.2.1 x.2.2) λi x h _ _=>X4H.p x.1 x.2.1 x.2.2 h
def X8y.F(a0:U2q)(a1:XbM)(W:Prop):Prop:=pOp a1/\∀r1,rU r1 (X0P a1)->X00 (!r1.1) (rE (a0,1,0,0,[]) (X96 a0 a1)) (X00 (!decide (a1.1<=3)==(a0.1==1)) (rE (a0,4,0,0,[]) (X96 a0 a1)) (X00 (a1.1==1) (XkO a0 a1/\∀r2,rU r2 (X8U a0 a1)->rE r2.1 (X96 a0 a1)) (X00 (a1.1==2) (dC (wI (a1.2.2.1 - a0.2.1)>a0.2.2.1) (eQ [(2,.box 3 0),(4,.box 5 0),(5,.box 6 0)]/\lmI a0 a1 0 a0.1 a0.2.1 (wI (a1.2.2.1 - a0.2.1)) a0.2.2.2.2.1.1 0 0 0 0 ([]:List U3q) ([]:List U7q) ([]:List U6q) 0 0 0 [] ([]:List (Int×Int)) a0.2.2.2.1 a0.2.2.2.2.1.2.1 a0.2.2.2.2.1.2.2 a0.2.2.2.2.2 ([]:List (Int×Int))/\∀(y3:U26q),lmI a0 a1 y3.1 y3.2.1 y3.2.2.1 y3.2.2.2.1 y3.2.2.2.2.1 y3.2.2.2.2.2.1 y3.2.2.2.2.2.2.1 y3.2.2.2.2.2.2.2.1 y3.2.2.2.2.2.2.2.2.1 y3.2.2.2.2.2.2.2.2.2.1 y3.2.2.2.2.2.2.2.2.2.2.1 y3.2.2.2.2.2.2.2.2.2.2.2.1 y3.2.2.2.2.2.2.2.2.2.2.2.2.1 y3.2.2.2.2.2.2.2.2.2.2.2.2.2.1 y3.2.2.2.2.2.2.2.2.2.2.2.2.2.2.1 y3.2.2.2.2.2.2.2.2.2.2.2.2.2.2.2.1 y3.2.2.2.2.2.2.2.2.2.2.2.2.2.2.2.2.1 y3.2.2.2.2.2.2.2.2.2.2.2.2.2.2.2.2.2.1 y3.2.2.2.2.2.2.2.2.2.2.2.2.2.2.2.2.2.2.1 y3.2.2.2.2.2.2.2.2.2.2.2.2.2.2.2.2.2.2.2.1 y3.2.2.2.2.2.2.2.2.2.2.2.2.2.2.2.2.2.2.2.2.1 y3.2.2.2.2.2.2.2.2.2.2.2.2.2.2.2.2.2.2.2.2.2->dC (y3.1<ln y3.2.2.2.2.2.2.2.2.2.2.2.2.2.2.2.2.2.1) (iB y3.1 y3.2.2.2.2.2.2.2.2.2.2.2.2.2.2.2.2.2.1 (True/\∀r4,rU r4 (XdL (gA y3.2.2.2.2.2.2.2.2.2.2.2.2.2.2.2.2.2.1 y3.1 (0,0)).1 y3.2.2.2.1)->X00 (!r4.1) (iB y3.1 y3.2.2.2.2.2.2.2.2.2.2.2.2.2.2.2.2.2.1 (lE y3.2.2.2.2.2.2.2.2.2.2.2.2.2.2.2.2.1 [((gA y3.2.2.2.2.2.2.2.2.2.2.2.2.2.2.2.2.2.1 y3.1 (0,0)).1,(gA y3.2.2.2.2.2.2.2.2.2.2.2.2.2.2.2.2.2.1 y3.1 (0,0)).2)]/\(List.length y3.2.2.2.2.2.2.2.2.2.2.2.2.2.2.2.2.1+List.length [((gA y3.2.2.2.2.2.2.2.2.2.2.2.2.2.2.2.2.2.1 y3.1 (0,0)).1,(gA y3.2.2.2.2.2.2.2.2.2.2.2.2.2.2.2.2.2.1 y3.1 (0,0)).2)])*16<=140737488355328/\eQ [(2,.box 3 0),(4,.box 5 0),(5,.box 6 0)]/\lmI a0 a1 (wI (y3.1+1)) y3.2.1 y3.2.2.1 y3.2.2.2.1 y3.2.2.2.2.1 y3.2.2.2.2.2.1 y3.2.2.2.2.2.2.1 y3.2.2.2.2.2.2.2.1 y3.2.2.2.2.2.2.2.2.1 y3.2.2.2.2.2.2.2.2.2.1 y3.2.2.2.2.2.2.2.2.2.2.1 y3.2.2.2.2.2.2.2.2.2.2.2.1 y3.2.2.2.2.2.2.2.2.2.2.2.2.1 y3.2.2.2.2.2.2.2.2.2.2.2.2.2.1 y3.2.2.2.2.2.2.2.2.2.2.2.2.2.2.1 y3.2.2.2.2.2.2.2.2.2.2.2.2.2.2.2.1 (y3.2.2.2.2.2.2.2.2.2.2.2.2.2.2.2.2.1++[((gA y3.2.2.2.2.2.2.2.2.2.2.2.2.2.2.2.2.2.1 y3.1 (0,0)).1,(gA y3.2.2.2.2.2.2.2.2.2.2.2.2.2.2.2.2.2.1 y3.1 (0,0)).2)]) y3.2.2.2.2.2.2.2.2.2.2.2.2.2.2.2.2.2.1 y3.2.2.2.2.2.2.2.2.2.2.2.2.2.2.2.2.2.2.1 y3.2.2.2.2.2.2.2.2.2.2.2.2.2.2.2.2.2.2.2.1 y3.2.2.2.2.2.2.2.2.2.2.2.2.2.2.2.2.2.2.2.2.1 y3.2.2.2.2.2.2.2.2.2.2.2.2.2.2.2.2.2.2.2.2.2/\lmM a0 a1 (wI (y3.1+1)) y3.2.1 y3.2.2.1 y3.2.2.2.1 y3.2.2.2.2.1 y3.2.2.2.2.2.1 y3.2.2.2.2.2.2.1 y3.2.2.2.2.2.2.2.1 y3.2.2.2.2.2.2.2.2.1 y3.2.2.2.2.2.2.2.2.2.1 y3.2.2.2.2.2.2.2.2.2.2.1 y3.2.2.2.2.2.2.2.2.2.2.2.1 y3.2.2.2.2.2.2.2.2.2.2.2.2.1 y3.2.2.2.2.2.2.2.2.2.2.2.2.2.1 y3.2.2.2.2.2.2.2.2.2.2.2.2.2.2.1 y3.2.2.2.2.2.2.2.2.2.2.2.2.2.2.2.1 (y3.2.2.2.2.2.2.2.2.2.2.2.2.2.2.2.2.1++[((gA y3.2.2.2.2.2.2.2.2.2.2.2.2.2.2.2.2.2.1 y3.1 (0,0)).1,(gA y3.2.2.2.2.2.2.2.2.2.2.2.2.2.2.2.2.2.1 y3.1 (0,0)).2)]) y3.2.2.2.2.2.2.2.2.2.2.2.2.2.2.2.2.2.1 y3.2.2.2.2.2.2.2.2.2.2.2.2.2.2.2.2.2.2.1 y3.2.2.2.2.2.2.2.2.2.2.2.2.2.2.2.2.2.2.2.1 y3.2.2.2.2.2.2.2.2.2.2.2.2.2.2.2.2.2.2.2.2.1 y3.2.2.2.2.2.2.2.2.2.2.2.2.2.2.2.2.2.2.2.2.2<lmM a0 a1 y3.1 y3.2.1 y3.2.2.1 y3.2.2.2.1 y3.2.2.2.2.1 y3.2.2.2.2.2.1 y3.2.2.2.2.2.2.1 y3.2.2.2.2.2.2.2.1 y3.2.2.2.2.2.2.2.2.1 y3.2.2.2.2.2.2.2.2.2.1 y3.2.2.2.2.2.2.2.2.2.2.1 y3.2.2.2.2.2.2.2.2.2.2.2.1 y3.2.2.2.2.2.2.2.2.2.2.2.2.1 y3.2.2.2.2.2.2.2.2.2.2.2.2.2.1 y3.2.2.2.2.2.2.2.2.2.2.2.2.2.2.1 y3.2.2.2.2.2.2.2.2.2.2.2.2.2.2.2.1 y3.2.2.2.2.2.2.2.2.2.2.2.2.2.2.2.2.1 y3.2.2.2.2.2.2.2.2.2.2.2.2.2.2.2.2.2.1 y3.2.2.2.2.2.2.2.2.2.2.2.2.2.2.2.2.2.2.1 y3.2.2.2.2.2.2.2.2.2.2.2.2.2.2.2.2.2.2.2.1 y3.2.2.2.2.2.2.2.2.2.2.2.2.2.2.2.2.2.2.2.2.1 y3.2.2.2.2.2.2.2.2.2.2.2.2.2.2.2.2.2.2.2.2.2)) (eQ [(2,.box 3 0),(4,.box 5 0),(5,.box 6 0)]/\lmI a0 a1 (wI (y3.1+1)) y3.2.1 y3.2.2.1 y3.2.2.2.1 y3.2.2.2.2.1 y3.2.2.2.2.2.1 y3.2.2.2.2.2.2.1 y3.2.2.2.2.2.2.2.1 y3.2.2.2.2.2.2.2.2.1 y3.2.2.2.2.2.2.2.2.2.1 y3.2.2.2.2.2.2.2.2.2.2.1 y3.2.2.2.2.2.2.2.2.2.2.2.1 y3.2.2.2.2.2.2.2.2.2.2.2.2.1 y3.2.2.2.2.2.2.2.2.2.2.2.2.2.1 y3.2.2.2.2.2.2.2.2.2.2.2.2.2.2.1 y3.2.2.2.2.2.2.2.2.2.2.2.2.2.2.2.1 y3.2.2.2.2.2.2.2.2.2.2.2.2.2.2.2.2.1 y3.2.2.2.2.2.2.2.2.2.2.2.2.2.2.2.2.2.1 y3.2.2.2.2.2.2.2.2.2.2.2.2.2.2.2.2.2.2.1 y3.2.2.2.2.2.2.2.2.2.2.2.2.2.2.2.2.2.2.2.1 y3.2.2.2.2.2.2.2.2.2.2.2.2.2.2.2.2.2.2.2.2.1 y3.2.2.2.2.2.2.2.2.2.2.2.2.2.2.2.2.2.2.2.2.2/\lmM a0 a1 (wI (y3.1+1)) y3.2.1 y3.2.2.1 y3.2.2.2.1 y3.2.2.2.2.1 y3.2.2.2.2.2.1 y3.2.2.2.2.2.2.1 y3.2.2.2.2.2.2.2.1 y3.2.2.2.2.2.2.2.2.1 y3.2.2.2.2.2.2.2.2.2.1 y3.2.2.2.2.2.2.2.2.2.2.1 y3.2.2.2.2.2.2.2.2.2.2.2.1 y3.2.2.2.2.2.2.2.2.2.2.2.2.1 y3.2.2.2.2.2.2.2.2.2.2.2.2.2.1 y3.2.2.2.2.2.2.2.2.2.2.2.2.2.2.1 y3.2.2.2.2.2.2.2.2.2.2.2.2.2.2.2.1 y3.2.2.2.2.2.2.2.2.2.2.2.2.2.2.2.2.1 y3.2.2.2.2.2.2.2.2.2.2.2.2.2.2.2.2.2.1 y3.2.2.2.2.2.2.2.2.2.2.2.2.2.2.2.2.2.2.1 y3.2.2.2.2.2.2.2.2.2.2.2.2.2.2.2.2.2.2.2.1 y3.2.2.2.2.2.2.2.2.2.2.2.2.2.2.2.2.2.2.2.2.1 y3.2.2.2.2.2.2.2.2.2.2.2.2.2.2.2.2.2.2.2.2.2<lmM a0 a1 y3.1 y3.2.1 y3.2.2.1 y3.2.2.2.1 y3.2.2.2.2.1 y3.2.2.2.2.2.1 y3.2.2.2.2.2.2.1 y3.2.2.2.2.2.2.2.1 y3.2.2.2.2.2.2.2.2.1 y3.2.2.2.2.2.2.2.2.2.1 y3.2.2.2.2.2.2.2.2.2.2.1 y3.2.2.2.2.2.2.2.2.2.2.2.1 y3.2.2.2.2.2.2.2.2.2.2.2.2.1 y3.2.2.2.2.2.2.2.2.2.2.2.2.2.1 y3.2.2.2.2.2.2.2.2.2.2.2.2.2.2.1 y3.2.2.2.2.2.2.2.2.2.2.2.2.2.2.2.1 y3.2.2.2.2.2.2.2.2.2.2.2.2.2.2.2.2.1 y3.2.2.2.2.2.2.2.2.2.2.2.2.2.2.2.2.2.1 y3.2.2.2.2.2.2.2.2.2.2.2.2.2.2.2.2.2.2.1 y3.2.2.2.2.2.2.2.2.2.2.2.2.2.2.2.2.2.2.2.1 y3.2.2.2.2.2.2.2.2.2.2.2.2.2.2.2.2.2.2.2.2.1 y3.2.2.2.2.2.2.2.2.2.2.2.2.2.2.2.2.2.2.2.2.2))) (rE ((y3.2.1,y3.2.2.1,y3.2.2.2.1,y3.2.2.2.2.2.2.2.2.2.2.2.2.2.2.2.2.1,(y3.2.2.2.2.1,y3.2.2.2.2.2.2.2.2.2.2.2.2.2.2.2.2.2.2.1,y3.2.2.2.2.2.2.2.2.2.2.2.2.2.2.2.2.2.2.2.1),y3.2.2.2.2.2.2.2.2.2.2.2.2.2.2.2.2.2.2.2.2.1),0,0,y3.2.2.2.1,[]) (X96 a0 a1))) (rE (a0,0,0,a0.2.2.1,[]) (X96 a0 a1))) (X00 (a1.1==3) (rE ((a0.1,a1.2.2.1,a0.2.2),0,0,a0.2.2.1,[]) (X96 a0 a1)) (X00 (a1.1==4) W (X00 (a1.1==5) (Xtk a0.2.2.2.2.1/\∀r7,rU r7 (Xiq a0.2.2.2.2.1)->XoR r7.1.1 a0.2.2.2.2.1.1 a1.2.1/\∀r8,rU r8 (Xby r7.1.1 a0.2.2.2.2.1.1 a1.2.1)->X8L r8.1 a1.2.2.1 a1.2.2.2.1/\∀r9,rU r9 (X25 r8.1 a1.2.2.1 a1.2.2.2.1)->True/\∀r10,rU r10 (X04 r9.1)->rE (a0,0,0,a0.2.2.2.2.1.1,r10.1) (X96 a0 a1)) (X00 (a1.1==6) (XoP a0.2.2.2.2.1 a1.2.2.1/\∀r11,rU r11 (Xbf a0.2.2.2.2.1 a1.2.2.1)->rE ((a0.1,a0.2.1,a0.2.2.1,a0.2.2.2.1,r11.1,a0.2.2.2.2.2),0,0,r11.1.1,[]) (X96 a0 a1)) (X00 (a1.1==7) (pFl a0.2.2.2.2.1/\∀r12,rU r12 (fFl a0.2.2.2.2.1)->rE ((a0.1,a0.2.1,a0.2.2.1,a0.2.2.2.1,r12.1,a0.2.2.2.2.2),0,0,r12.1.1,[]) (X96 a0 a1)) (rE (a0,0,0,a0.2.2.2.2.1.1,[]) (X96 a0 a1))))))))))
theorem X8y.p(a0:U2q)(a1:XbM)(h:Xuh a0 a1){W:Prop}(hW:X0P a1=true->a1.1=4->a0.1=2->W):X8y.F a0 a1 W:=by
 delta X8y.F ln wI dC eQ gA iB lE rE rU tN;simp only[Bs,B0,B1,Yaa,X01,Yay];obtain⟨hS,hp,hk⟩:=h;refine⟨hk,λc=>by unfold X96;rw[Yae (by rw[c];decide)],λho=>?_⟩;have kk:=Xrz ho;have hkd:=XwW hS;have e0:X96 a0 a1=if a0.1=1 then fMt a0 a1 else fSh a0 a1:=by unfold X96;rw[Yah ho]
 obtain⟨e1,e2,e3,e4⟩:=XpR a0 a1;rw[e0];refine⟨λc=>?_,λc=>?_⟩
 . rcases hkd with h1 | h1
   . rw[Yah h1];unfold fMt;rw[Yae];intro h3;exact c (by rw[Yaz h3,h1];rfl)
   . rw[Yae (by omega)];have h3:a1.1<=3:=Decidable.byContradiction λh3=>c (by rw[Yav h3,h1];rfl);unfold fSh;rw[Yae (by omega),Yae (by omega),Yae (by omega),Yae (by omega)]
 have hm:a1.1<=3↔a0.1=1:=by rw[<-decide_eq_true_iff (p:=a1.1<=3),c,YbW]
 have hMt:a1.1<=3->(if a0.1=1 then fMt a0 a1 else fSh a0 a1)=XeF a0 a1:=λh=>by rw[Yah (hm.1 h)];unfold fMt;rw[Yah h]
 have hSh:¬a1.1<=3->(if a0.1=1 then fMt a0 a1 else fSh a0 a1)=fSh a0 a1:=λh=>Yae λc=>h (hm.2 c);have h2E:¬a1.1<=3->a0.1=2:=λh=>hkd.resolve_left λc=>h (hm.2 c);have hE:¬a1.1<=3->X3D a0.2.2.2.2.1=true:=λh=>Xtc hS (h2E h);refine⟨λh1=>?_,λh1=>⟨λh2=>?_,λh2=>⟨λh3=>?_,λh3=>⟨λh4=>?_,λh4=>⟨λh5=>?_,λh5=>⟨λh6=>?_,λh6=>⟨λh7=>?_,λh7=>by omega⟩⟩⟩⟩⟩⟩⟩
 . rw[hMt (by omega),e1 h1];exact⟨(Xwf hS (hm.1 (by omega)) ho).2.1,rfl⟩
 . obtain⟨_,hB,hh,hmk,hf⟩:=Xwf hS (hm.1 (by omega)) ho;have hf:=hf h2;have hBl:=hB.len;rw[w64 (x:=a1.2.2.1 - a0.2.1) (by omega) (by omega),hMt (by omega)];refine⟨λh3=>?_,λh3=>(e3 h1 h2 h3).symm⟩;rw[e2 h1 h2 h3];refine⟨⟨⟨by omega,by omega⟩,rfl,by simp[XfK],by simp⟩,?_⟩;rintro⟨i,k,hd,mk,fl,z0,z1,z2,z4,z5,z6,z7,c1,c2,c3,c4,l,bk,ca,fi,se,z3⟩ ⟨⟨q1,q2⟩,q3,q4,q5⟩;simp only at q1 q2 q3 q4 q5 ⊢;have q3o:=q3;simp only[XsG,Yaa]at q3;obtain⟨r1,r2,r3,r4⟩:=q3;have rb:bk=a0.2.2.2.1:=Ybh Prod.fst r4;have rr:((fl,(ca,fi)),se)=a0.2.2.2.2:=Ybh Prod.snd r4;subst rb;subst r3;refine⟨λhi=>?_,λhi=>?_⟩
   . have ht:XfK (a0.2.2.2.1.take (i+1).toNat) (a1.2.2.1 - a0.2.1)=XfK (a0.2.2.2.1.take i.toNat) (a1.2.2.1 - a0.2.1)++XfK [a0.2.2.2.1.getD i.toNat (0,0)] (a1.2.2.1 - a0.2.1):=by
      rw[tn1 q1,X0M (0,0) (by omega)];unfold XfK;rw[Ya2]
     rw[<-q4]at ht;rw[w64 (x:=i+1) (by omega) (by omega)];generalize a0.2.2.2.1.getD i.toNat (0,0)=x at ht ⊢;refine⟨q1,hi,λh4=>⟨q1,hi,by omega,by omega,⟨⟨by omega,by omega⟩,q3o,?_,by simp only[Yab,Yad,Yai];omega⟩,by unfold lmM;omega⟩,λh4=>⟨⟨⟨by omega,by omega⟩,q3o,?_,by omega⟩,by unfold lmM;omega⟩⟩
     . rw[ht];simp[XfK,h4]
     . rw[ht];simp[XfK,h4]
   . have e:i.toNat=a0.2.2.2.1.length:=by omega
     rw[e,Yat]at q4;rw[q4,r1,r2,<-rr]
 . rw[hMt (by omega),e4 h1 h2]
 . exact hW ho h4 (h2E (by omega))
 . obtain⟨l1,l2,l3,l4⟩:=Xrx (k:=a1.2.1) (a:=a1.2.2.1) (b:=a1.2.2.2.1) (hE (by omega)) hp.1;rw[hSh (by omega)];unfold fSh;rw[Yae h4,Yah h5,l4];exact⟨l1,l2,l3,rfl⟩
 . rw[hSh (by omega)];unfold fSh Xc6;rw[Yae h4,Yae h5,Yah h6,Yah (hE (by omega))];exact⟨(XpK (hE (by omega))).1,rfl⟩
 . rw[hSh (by omega)];unfold fSh Xdw;rw[Yae h4,Yae h5,Yae h6,Yah h7,Yah (hE (by omega))];exact⟨XeG (hE (by omega)) hp.1,rfl⟩
def Xef:Con:={A:=(.pair T4q XnR),shA:=[.agg 8,.agg 5],ownA:=[(3,78),(5,115),(6,9),(7,73)],R:=(.pair T4q Xiy),shR:=[(true,8),(true,4)],fresh:=[(7,73)],pre:=λ_ a=>(pDoA a.1 a.2),f:=some λ_ a=>((X96 a.1 a.2),((),()))}
def X5j.F(a0:U2q)(a1:XbM):Prop:=X8y.F a0 a1 (True/\∀r5,Eq r5 (X0s a1.2.2.2.2,(),())->XwR (a0.2.2.2.2.1.1,a0.2.2.2.2.1.2.1,a0.2.2.2.2.1.2.2) a1.2.1 r5.1.1/\∀r6,Eq r6 (Xc9 (a0.2.2.2.2.1.1,a0.2.2.2.2.1.2.1,a0.2.2.2.2.1.2.2) a1.2.1 r5.1.1,(),())->X00 (r6.1.2==(2:Int)) (X00 (r6.1.2==(3:Int)) (X00 (r6.1.2==(0:Int)) (Eq (((a0.1,a0.2.1,a0.2.2.1,a0.2.2.2.1,(r6.1.1.1,r6.1.1.2.1,r6.1.1.2.2),a0.2.2.2.2.2),3,0,r6.1.1.1,[]),(),()) (X96 a0 a1,(),())) (Eq (((a0.1,a0.2.1,a0.2.2.1,a0.2.2.2.1,(a0.2.2.2.2.1.1,a0.2.2.2.2.1.2.1,a0.2.2.2.2.1.2.2),a0.2.2.2.2.2),3,0,a0.2.2.2.2.1.1,[]),(),()) (X96 a0 a1,(),()))) (X00 (r6.1.2==(0:Int)) (Eq (((a0.1,a0.2.1,a0.2.2.1,a0.2.2.2.1,(r6.1.1.1,r6.1.1.2.1,r6.1.1.2.2),a0.2.2.2.2.2),2,0,r6.1.1.1,[]),(),()) (X96 a0 a1,(),())) (Eq (((a0.1,a0.2.1,a0.2.2.1,a0.2.2.2.1,(a0.2.2.2.2.1.1,a0.2.2.2.2.1.2.1,a0.2.2.2.2.1.2.2),a0.2.2.2.2.2),2,0,a0.2.2.2.2.1.1,[]),(),()) (X96 a0 a1,(),())))) (X00 (r6.1.2==(3:Int)) (X00 (r6.1.2==(0:Int)) (Eq (((a0.1,a0.2.1,a0.2.2.1,a0.2.2.2.1,(r6.1.1.1,r6.1.1.2.1,r6.1.1.2.2),a0.2.2.2.2.2),3,0,r6.1.1.1,[]),(),()) (X96 a0 a1,(),())) (Eq (((a0.1,a0.2.1,a0.2.2.1,a0.2.2.2.1,(a0.2.2.2.2.1.1,a0.2.2.2.2.1.2.1,a0.2.2.2.2.1.2.2),a0.2.2.2.2.2),3,0,a0.2.2.2.2.1.1,[]),(),()) (X96 a0 a1,(),()))) (X00 (r6.1.2==(0:Int)) (Eq (((a0.1,a0.2.1,a0.2.2.1,a0.2.2.2.1,(r6.1.1.1,r6.1.1.2.1,r6.1.1.2.2),a0.2.2.2.2.2),0,0,r6.1.1.1,[]),(),()) (X96 a0 a1,(),())) (Eq (((a0.1,a0.2.1,a0.2.2.1,a0.2.2.2.1,(a0.2.2.2.2.1.1,a0.2.2.2.2.1.2.1,a0.2.2.2.2.1.2.2),a0.2.2.2.2.2),0,0,a0.2.2.2.2.1.1,[]),(),()) (X96 a0 a1,(),())))))
def X5j.L(a0:U2q)(a1:XbM):Nat->Option X0f:=XLK [(1027674,⟨⟨[2,4,5],[7,8],[3,5,6],[kC 7 0 1000899 78,kA 3 3 13800393 78,kA 3 5 13800397 115,kA 3 6 13800399 9,kA 3 7 13800401 73,kA 5 3 13800649 78]⟩,T13q,λst y=>lmI a0 a1 y.1 y.2.1 y.2.2.1 y.2.2.2.1 y.2.2.2.2.1 y.2.2.2.2.2.1 y.2.2.2.2.2.2.1 y.2.2.2.2.2.2.2.1 y.2.2.2.2.2.2.2.2.1 y.2.2.2.2.2.2.2.2.2.1 y.2.2.2.2.2.2.2.2.2.2.1 y.2.2.2.2.2.2.2.2.2.2.2.1 y.2.2.2.2.2.2.2.2.2.2.2.2.1 y.2.2.2.2.2.2.2.2.2.2.2.2.2.1 y.2.2.2.2.2.2.2.2.2.2.2.2.2.2.1 y.2.2.2.2.2.2.2.2.2.2.2.2.2.2.2.1 y.2.2.2.2.2.2.2.2.2.2.2.2.2.2.2.2.1 y.2.2.2.2.2.2.2.2.2.2.2.2.2.2.2.2.2.1 y.2.2.2.2.2.2.2.2.2.2.2.2.2.2.2.2.2.2.1 y.2.2.2.2.2.2.2.2.2.2.2.2.2.2.2.2.2.2.2.1 y.2.2.2.2.2.2.2.2.2.2.2.2.2.2.2.2.2.2.2.2.1 y.2.2.2.2.2.2.2.2.2.2.2.2.2.2.2.2.2.2.2.2.2,λst y=>lmM a0 a1 y.1 y.2.1 y.2.2.1 y.2.2.2.1 y.2.2.2.2.1 y.2.2.2.2.2.1 y.2.2.2.2.2.2.1 y.2.2.2.2.2.2.2.1 y.2.2.2.2.2.2.2.2.1 y.2.2.2.2.2.2.2.2.2.1 y.2.2.2.2.2.2.2.2.2.2.1 y.2.2.2.2.2.2.2.2.2.2.2.1 y.2.2.2.2.2.2.2.2.2.2.2.2.1 y.2.2.2.2.2.2.2.2.2.2.2.2.2.1 y.2.2.2.2.2.2.2.2.2.2.2.2.2.2.1 y.2.2.2.2.2.2.2.2.2.2.2.2.2.2.2.1 y.2.2.2.2.2.2.2.2.2.2.2.2.2.2.2.2.1 y.2.2.2.2.2.2.2.2.2.2.2.2.2.2.2.2.2.1 y.2.2.2.2.2.2.2.2.2.2.2.2.2.2.2.2.2.2.1 y.2.2.2.2.2.2.2.2.2.2.2.2.2.2.2.2.2.2.2.1 y.2.2.2.2.2.2.2.2.2.2.2.2.2.2.2.2.2.2.2.2.1 y.2.2.2.2.2.2.2.2.2.2.2.2.2.2.2.2.2.2.2.2.2⟩)]
theorem X5j.p(a0:U2q)(a1:XbM)(h:(pDoA a0 a1)):X5j.F a0 a1:=
 X8y.p a0 a1 h.1 λho h4 hk2=>by
 simp only[Bs,B0,B1,Yaa,X01,Yay];obtain⟨⟨hS,hp,hk⟩,hna⟩:=h;have hEe:=Xtc hS hk2;have ep:Xc9 a0.2.2.2.2.1 a1.2.1 (X0s a1.2.2.2.2).1=ptR a0 a1:=rfl;obtain⟨hk4,hb4⟩:=Xpn ho h4;have hcode:=XpW hEe hk4 hb4.1 hb4.2;have hcode:(ptR a0 a1).2=0\/(ptR a0 a1).2=2\/(ptR a0 a1).2=3:=hcode;have eS:X96 a0 a1=fWr a0 a1:=by unfold X96 fSh;rw[Yah ho,Yae (by omega),Yah h4]
 rw[ep,eS];have hne:¬(ptR a0 a1).2=0:=λe=>hna ⟨hk2,ho,h4,e⟩;refine⟨⟨⟨hEe,hp.1,hk⟩,hne⟩,λc2=>⟨λc3=>by omega,λc3=>⟨λc0=>by omega,λc0=>?_⟩⟩,λc2=>⟨λc3=>⟨λc0=>by omega,λc0=>?_⟩,λc3=>by omega⟩⟩
 . unfold fWr;rw[Yae c0,Yah c2]
 . unfold fWr;rw[Yae c0,Yae c2]
theorem X5j.eq:EqS Xef Tryz.f44 [40,42] [X2Y.e,X12.e,X6v.e,X2y.e,X1g.e,X4H.e,X1A.e,X2w.e,X3l.e,X2z.e,X2Q.e] [] (λi x=>X5j.L x.1 x.2) (λi x=>X5j.F x.1 x.2):=by intro i x;kernel_rfl
theorem X5j.ok:X0h Tryz.prog 44 Xef:=X0S X5j.eq func44 rfl (by kernel_rfl) λi x h _ _=>X5j.p x.1 x.2 h
def XdH:Con:={A:=(.pair T4q XnR),shA:=[.agg 8,.agg 5],ownA:=[(3,78),(5,115),(6,9),(7,73)],R:=(.pair T4q Xiy),shR:=[(true,8),(true,4)],fresh:=[(7,73)],pre:=λ_ a=>(pDoB a.1 a.2),f:=some λ_ a=>((X96 a.1 a.2),((),()))}
def X7b.F(a0:U2q)(a1:XbM):Prop:=X8y.F a0 a1 (True/\∀r5,Eq r5 (X0s a1.2.2.2.2,(),())->XuL (a0.2.2.2.2.1.1,a0.2.2.2.2.1.2.1,a0.2.2.2.2.1.2.2) a1.2.1 r5.1.1/\∀r6,Eq r6 (Xc9 (a0.2.2.2.2.1.1,a0.2.2.2.2.1.2.1,a0.2.2.2.2.1.2.2) a1.2.1 r5.1.1,(),())->X00 (r6.1.2==(2:Int)) (X00 (r6.1.2==(3:Int)) (X00 (r6.1.2==(0:Int)) (Eq (((a0.1,a0.2.1,a0.2.2.1,a0.2.2.2.1,(r6.1.1.1,r6.1.1.2.1,r6.1.1.2.2),a0.2.2.2.2.2),3,0,r6.1.1.1,[]),(),()) (X96 a0 a1,(),())) False) (X00 (r6.1.2==(0:Int)) (Eq (((a0.1,a0.2.1,a0.2.2.1,a0.2.2.2.1,(r6.1.1.1,r6.1.1.2.1,r6.1.1.2.2),a0.2.2.2.2.2),2,0,r6.1.1.1,[]),(),()) (X96 a0 a1,(),())) False)) (X00 (r6.1.2==(3:Int)) (X00 (r6.1.2==(0:Int)) (Eq (((a0.1,a0.2.1,a0.2.2.1,a0.2.2.2.1,(r6.1.1.1,r6.1.1.2.1,r6.1.1.2.2),a0.2.2.2.2.2),3,0,r6.1.1.1,[]),(),()) (X96 a0 a1,(),())) False) (X00 (r6.1.2==(0:Int)) (Eq (((a0.1,a0.2.1,a0.2.2.1,a0.2.2.2.1,(r6.1.1.1,r6.1.1.2.1,r6.1.1.2.2),a0.2.2.2.2.2),0,0,r6.1.1.1,[]),(),()) (X96 a0 a1,(),())) False)))
theorem X7b.p(a0:U2q)(a1:XbM)(h:(pDoB a0 a1)):X7b.F a0 a1:=
 X8y.p a0 a1 h.1 λho h4 hk2=>by
 simp only[Bs,B0,B1,Yaa,X01,Yay];obtain⟨⟨hS,hp,hk⟩,hna⟩:=h;have hEe:=Xtc hS hk2;have ep:Xc9 a0.2.2.2.2.1 a1.2.1 (X0s a1.2.2.2.2).1=ptR a0 a1:=rfl;obtain⟨hk4,hb4⟩:=Xpn ho h4;have hcode:=XpW hEe hk4 hb4.1 hb4.2;have hcode:(ptR a0 a1).2=0\/(ptR a0 a1).2=2\/(ptR a0 a1).2=3:=hcode;have eS:X96 a0 a1=fWr a0 a1:=by unfold X96 fSh;rw[Yah ho,Yae (by omega),Yah h4]
 rw[ep,eS];have he:(ptR a0 a1).2=0:=hna.2.2.2;have fl0:(ptR a0 a1).1.1=a0.2.2.2.2.1.1:=Xtu hEe he;refine⟨⟨hEe,hp.1,hk⟩,λc2=>by omega,λc2=>⟨λc3=>by omega,λc3=>⟨λc0=>?_,λc0=>absurd he c0⟩⟩⟩;unfold fWr;rw[Yah c0,fl0];rfl
theorem X7b.eq:EqS XdH Tryz.f44 [40,42] [X2Y.e,X12.e,X6v.e,X2y.e,X1g.e,X5h.e,X1A.e,X2w.e,X3l.e,X2z.e,X2Q.e] [] (λi x=>X5j.L x.1 x.2) (λi x=>X7b.F x.1 x.2):=by intro i x;kernel_rfl
theorem X7b.ok:X0h Tryz.prog 44 XdH:=X0S X7b.eq func44 rfl (by kernel_rfl) λi x h _ _=>X7b.p x.1 x.2 h
def Xgp:Con:={A:=(.pair T4q XnR),shA:=[.agg 8,.agg 5],ownA:=[(3,78),(5,115),(6,9),(7,73)],R:=(.pair T4q Xiy),shR:=[(true,8),(true,4)],fresh:=[(7,73)],pre:=λ_ a=>(Xuh a.1 a.2),f:=some λ_ a=>((X96 a.1 a.2),((),()))}
theorem Xg9.ok:X0h Tryz.prog 44 Xgp:=λw M vs cs i x F FI b h1 h2 h3 h4 h5 h6 h7 hp=>by
 by_cases ha:acc x.1 x.2
 . exact Calls.mono (X7b.ok w M vs cs i x F FI b h1 h2 h3 h4 h5 h6 h7 ⟨hp,ha⟩) λe w h=>⟨h.ex⟩
 . exact Calls.mono (X5j.ok w M vs cs i x F FI b h1 h2 h3 h4 h5 h6 h7 ⟨hp,ha⟩) λe w h=>⟨h.ex⟩
def Xg9.e:GE:=⟨44,Xgp,⟨_,func44,rfl,rfl⟩,Xg9.ok⟩
section
open Go Go.Proofs.YthpdkligbfbjeaaGreat.Bv Go.Proofs Go.Shelf Go.RowKit Go.Lib
structure Xhk (P:Program) (ρ:Ren):Prop where
 mixed:P.follows .mixedOrders=true
 f22:∃nm:String,(nm== "runtime.NumGoroutine")=false/\P.funcs[ρ.f 22]?=some {Body2.n22 ρ with name:=nm}
 f29:∃fo:Func,P.funcs[ρ.f 29]?=some fo/\(fo.name== "runtime.NumGoroutine")=false/\fo.body.isNone=true/\Extern.findNext fo=none/\Extern.find fo=some (Extern.SlicesOverlaps.overlaps #[ρ.t 24,ρ.t 24] #[ρ.t 4])
 t0:P.underlying (ρ.t 0)=some (TypeDesc.tuple #[])
 a0:∀w,(isAgg (ρ.t 0)).run P w=.ok false w
 z0:∀w,(Go.sizeOf (ρ.t 0)).run P w=.ok 1 w
 v0:∀w,(zeroValue (ρ.t 0)).run P w=.ok (Value.tuple #[]) w
 t3:P.underlying (ρ.t 3)=some (TypeDesc.int IntKind.i64)
 a3:∀w,(isAgg (ρ.t 3)).run P w=.ok false w
 z3:∀w,(Go.sizeOf (ρ.t 3)).run P w=.ok 1 w
 v3:∀w,(zeroValue (ρ.t 3)).run P w=.ok (Value.int IntKind.i64 0) w
 t4:P.underlying (ρ.t 4)=some (TypeDesc.bool)
 a4:∀w,(isAgg (ρ.t 4)).run P w=.ok false w
 z4:∀w,(Go.sizeOf (ρ.t 4)).run P w=.ok 1 w
 v4:∀w,(zeroValue (ρ.t 4)).run P w=.ok (Value.bool false) w
 z9:∀w,(Go.sizeOf (ρ.t 9)).run P w=.ok 6 w
 t24:P.underlying (ρ.t 24)=some (TypeDesc.slice (ρ.t 9))
 a24:∀w,(isAgg (ρ.t 24)).run P w=.ok false w
 z24:∀w,(Go.sizeOf (ρ.t 24)).run P w=.ok 1 w
 v24:∀w,(zeroValue (ρ.t 24)).run P w=.ok (Value.slice none 0 0) w
 i9:∃i z,P.info? (ρ.t 9)=some i/\i.zero=some z/\z.cells.size=i.size/\i.size=6
variable {P:Program} {ρ:Ren}
set_option maxHeartbeats 4000000 in
theorem XqW(L:Xhk P ρ)(b off n c i vb voff m vc:Nat)(arr arrv:Array Value)(E Ev:TypeId)(us:List Value)(w:World)(hi:i<n)(hm:0<m)(hroom:n+m<=c)(hc63:c<=9223372036854775807)(hvb:vb≠b)(hb:w.heap[b]?=some (.cells arr E (0,0)))(hsz:off+c*6<=arr.size)(hv:w.heap[vb]?=some (.cells arrv Ev (0,0)))(hul:us.length=m*6)(hus:∀j u,us[j]?=some u->w.cell? ⟨vb,voff+j,none⟩=some u)(h1c:∀u∈(arr.toList.drop (off+i*6)).take ((n - i)*6),u.oneCell'=true)(h1v:∀u∈us,u.oneCell'=true):
 Calls P (ρ.f 22) #[.slice (some ⟨b,off,none⟩) n c,.int .i64 i,.slice (some ⟨vb,voff,none⟩) m vc] w λe w'=>
  e=.returned (.slice (some ⟨b,off,none⟩) (n+m) c)/\Xs9 (w.setRow b (X0K (X0K arr (off+(i+m)*6) ((arr.toList.drop (off+i*6)).take ((n - i)*6))) (off+i*6) us)) w':=by
 have t0:=L.t0;have a0:=L.a0;have z0:=L.z0;have v0:=L.v0;have t3:=L.t3;have a3:=L.a3;have z3:=L.z3;have v3:=L.v3;have t4:=L.t4;have a4:=L.a4;have z4:=L.z4;have v4:=L.v4;have z9:=L.z9;have t24:=L.t24;have a24:=L.a24;have z24:=L.z24;have v24:=L.v24;have u0:=run_underlying L.t0;have u3:=run_underlying L.t3;have u4:=run_underlying L.t4;have u24:=run_underlying L.t24;have hz1:¬((m:Int)=0):=by omega
 have hz2:¬((i:Int)=(n:Int)):=by omega
 have hov:∀lb cb,(callFunc (ρ.f 29) #[.slice (some ⟨vb,voff,none⟩) m vc,.slice (some ⟨b,off+(i+m)*6,none⟩) lb cb]).run P w=.ok (.value (.bool false)) w:=λlb cb=>by
  obtain⟨fo,h1,h2,h3,h4,h5⟩:=L.f29;rw [run_callFunc_extern h1 h2 h3 h4 h5,
   Lib.run_overlaps_apart w (ρ.t 24) (ρ.t 4) (ρ.t 9) L.t24 6 L.z9 ⟨vb,voff,none⟩ ⟨b,off+(i+m)*6,none⟩ m vc lb cb hvb Ev E arrv.size arr.size (by simp[World.shape?,hv]) (by simp[World.shape?,hb]) (by omega) (by simp[World.frozen?,hv]) (by simp[World.frozen?,hv])]
  rfl
 have mixed:=L.mixed;have hw1:IntKind.i64.wrap ((i:Int)+(m:Int))=(i:Int)+(m:Int):=by rw[IntKind.wrap_i64];omega
 have hb1:(0:Int)<=(i:Int)+(m:Int):=by omega
 have hin:i<=n:=by omega
 have htn:((i:Int)+(m:Int)).toNat=i+m:=by omega
 have hb2:¬(c=i+m):=by omega
 have hb3:(i:Int)<=(n:Int)+(m:Int):=by omega
 have hb4:¬(c=i):=by omega
 obtain⟨cs,hcs⟩:∃cs,cs=(arr.toList.drop (off+i*6)).take ((n - i)*6):=⟨_,rfl⟩
 rw[<-hcs]at h1c ⊢;have hcl:cs.length=(n - i)*6:=by
  rw[hcs,Yal,Yap,Yaq];omega
 have hcp1:∀ty dc sc,(Builtin.copy_ #[(ρ.t 24),(ρ.t 24)] ty #[.slice (some ⟨b,off+(i+m)*6,none⟩) (n+m - (i+m)) dc,.slice (some ⟨b,off+i*6,none⟩) (n+m - i) sc]).run P w.drew=.ok (goInt ((n - i:Nat):Int)) (w.drew.setRow b (X0K arr (off+(i+m)*6) cs)):=λty dc sc=>
  Xb4 w.drew L.t24 L.z9 (by exact hb) hcl (by simp only[Ycu];split<;>omega) (λj u hj=>by
   rw[X8S];rw[hcs,YaE]at hj;split at hj
   . exact X5z (w:=w.drew) hb hj
   . cases hj) (by rw[hcl];omega) h1c
 obtain⟨W1,hW1⟩:∃W1,W1=w.drew.setRow b (X0K arr (off+(i+m)*6) cs):=⟨_,rfl⟩
 have hA1:W1.heap[b]?=some (.cells (X0K arr (off+(i+m)*6) cs) E (0,0)):=by rw[hW1];exact setRow_heap w.drew b arr _ E _ hb
 have hs1:(X0K arr (off+(i+m)*6) cs).size=arr.size:=X5c (by rw[hcl];omega);have hcp2:∀(W:World),W.heap=W1.heap->∀ty dc,(Builtin.copy_ #[(ρ.t 24),(ρ.t 24)] ty #[.slice (some ⟨b,off+i*6,none⟩) (n+m - i) dc,.slice (some ⟨vb,voff,none⟩) m vc]).run P W=.ok (goInt (m:Int)) (W.setRow b (X0K (X0K arr (off+(i+m)*6) cs) (off+i*6) us)):=λW hW ty dc=>
  Xb4 W L.t24 L.z9 (by rw[hW];exact hA1) hul (by simp only[Ycu];split<;>omega) (λj u hj=>by
   rw[X8S];have h0:=hus j u hj;have h2:W.heap[vb]?=w.heap[vb]?:=by rw[hW,hW1];exact setRow_other w.drew b vb _ hvb
   simp only[World.cell?]at h0 ⊢;rw[h2];exact h0) (by rw[hs1,hul];omega) h1v
 rw[<-hW1]at hcp1;obtain⟨nm,hnm,F22⟩:=L.f22
 go_enter F22,Body2.n22_ntmps ρ
 go_wp2_with (simp only[hov])
 go_region_law_o (refine step_copy_runI rfl _ _ (ρ.t 24) (ρ.t 24) rfl _ _ (by simp[Act.eval,Act.put]) (by simp[Act.eval,Act.put]) (hcp1 _ _ _) ?_)
 go_wp2_with (at_builtin;refine wpList_copy_runI _ rfl _ _ (ρ.t 24) (ρ.t 24) rfl _ _ rfl rfl (hcp2 _ rfl _ _) ?_)
 go_ret
 refine⟨rfl,?_⟩;rw[setRow_setRow,<-hcs];exact⟨rfl,rfl,rfl,rfl⟩
set_option maxHeartbeats 4000000 in
theorem XrI(L:Xhk P ρ)(b off n c i vb voff m vc:Nat)(arr arrv:Array Value)(E Ev:TypeId)(us:List Value)(w:World)(hi:i<n)(hm:0<m)(hnc:n<=c)(hroom:c<n+m)(bytes:Nat)(hby:∀i,P.info? (ρ.t 9)=some i->i.bytes=bytes)(hbig:(n+m)*bytes<=140737488355328)(hnm:n+m<=maxLen)(hvb:vb≠b)(hb:w.heap[b]?=some (.cells arr E (0,0)))(hsz:off+c*6<=arr.size)(hv:w.heap[vb]?=some (.cells arrv Ev (0,0)))(hul:us.length=m*6)(hus:∀j u,us[j]?=some u->w.cell? ⟨vb,voff+j,none⟩=some u)(h1c:∀u∈(arr.toList.drop off).take (n*6),u.oneCell'=true)(h1v:∀u∈us,u.oneCell'=true):
 Calls P (ρ.f 22) #[.slice (some ⟨b,off,none⟩) n c,.int .i64 i,.slice (some ⟨vb,voff,none⟩) m vc] w λe w'=>
  ∃(G:Nat) (tl:List Value),n+m<=G/\G<=maxLen/\tl.length=(G - (n+m))*6/\e=.returned (.slice (some ⟨w.heap.size,0,none⟩) (n+m) G)/\
   Xs9 (w.alloc (.cells ((arr.toList.drop off).take (i*6)++(us++((arr.toList.drop (off+i*6)).take ((n - i)*6)++tl))).toArray (ρ.t 9))) w':=by
 have t0:=L.t0;have a0:=L.a0;have z0:=L.z0;have v0:=L.v0;have t3:=L.t3;have a3:=L.a3;have z3:=L.z3;have v3:=L.v3;have t4:=L.t4;have a4:=L.a4;have z4:=L.z4;have v4:=L.v4;have z9:=L.z9;have t24:=L.t24;have a24:=L.a24;have z24:=L.z24;have v24:=L.v24;have u0:=run_underlying L.t0;have u3:=run_underlying L.t3;have u4:=run_underlying L.t4;have u24:=run_underlying L.t24;have mixed:=L.mixed;obtain⟨i0,z,hi0,hz0,hzc,hzs⟩:=L.i9;have hzb:=hby i0 hi0;have hz2c:z.cells.size=6:=hzc.trans hzs;have hz1:¬((m:Int)=0):=by omega
 have hz2:¬((i:Int)=(n:Int)):=by omega
 have hz3:(c:Int)<(n:Int)+(m:Int):=by omega
 have hbw:b<w.heap.size:=(YaO.1 hb).1;have hvw:vb<w.heap.size:=(YaO.1 hv).1;have hkk:(n:Int)+(m:Int) - (i:Int)=((n+m - i:Nat):Int):=by omega
 have hik:i+(n+m - i)=n+m:=by omega
 have hal:arr.toList.length=arr.size:=Yaq;obtain⟨os,hos⟩:∃os,os=(arr.toList.drop off).take (i*6):=⟨_,rfl⟩
 obtain⟨cs,hcs⟩:∃cs,cs=(arr.toList.drop (off+i*6)).take ((n - i)*6):=⟨_,rfl⟩
 have hol:os.length=i*6:=by rw[hos,Yal,Yap];omega
 have hcl:cs.length=(n - i)*6:=by rw[hcs,Yal,Yap];omega
 have h1cs:∀u∈cs,u.oneCell'=true:=λu hu=>h1c u (by
  have e:(arr.toList.drop off).take (n*6)=os++cs:=by
   rw[hos,hcs,<-YaH,<-YcY];congr 1;omega
  rw[e];exact List.mem_append_right _ hu)
 have hold:(Builtin.firstCells i0.size i (.slice (some ⟨b,off,none⟩) i c)).run P w.drew=.ok os.toArray w.drew:=by
  rw[hzs];exact run_firstCells_some w.drew 6 i ⟨b,off,none⟩ i c os hol (λj v hj=>by
   rw[X8S];rw[hos,YaE]at hj;split at hj
   . exact X5z (w:=w.drew) hb hj
   . cases hj)
 have hrz:∀ty,(Builtin.append_ #[(ρ.t 24),(ρ.t 3)] ty #[.slice (some ⟨b,off,none⟩) i c,.int .i64 ((n:Int)+(m:Int) - (i:Int))]).run P w=
  .ok (.slice (some ⟨w.heap.size,0,none⟩) (n+m) (grownCap w (n+m) c (ρ.t 9))) (w.drew.alloc (.cells (os.toArray++Builtin.zeroCells z.cells (n+m - i)++Builtin.zeroCells z.cells (grownCap w (n+m) c (ρ.t 9) - (n+m))) (ρ.t 9))):=λty=>by
  have h:=Lib.run_append_grow_zeros w (ρ.t 24) (ρ.t 3) ty (ρ.t 9) i0 z .i64 .i64 L.t24 L.t3 hi0 hz0 (some ⟨b,off,none⟩) i c os hold (n+m - i) (by omega) (by omega) (by omega) (by simp only[maxLen]at hnm;omega) (by rw[hzb];exact YaW (YaY _ (by omega)) (YaW hbig (by decide))) (by rw[hzb,hik];exact growslice_fits hroom hbig);rw[hik]at h;rw[hkk];exact h
 obtain⟨G,hG⟩:∃G,G=grownCap w (n+m) c (ρ.t 9):=⟨_,rfl⟩
 obtain⟨ROW,hROW⟩:∃ROW:Array Value,ROW=os.toArray++Builtin.zeroCells z.cells (n+m - i)++Builtin.zeroCells z.cells (G - (n+m)):=⟨_,rfl⟩
 rw[<-hG]at hrz;rw[<-hROW]at hrz;have hRl:ROW.size=i*6+(n+m - i)*6+(G - (n+m))*6:=by
  rw[hROW];simp only[YcP,YbI,size_zeroCells,hz2c,hol]
 have hGn:n+m<=G:=by rw[hG];exact grownCap_ge w _ _ _
 have hGm:G<=maxLen:=by rw[hG];exact grownCap_le_maxLen w (n+m) c (ρ.t 9) hnm
 have hG63:G<=9223372036854775807:=by simp only[maxLen]at hGm;omega
 obtain⟨W1,hW1⟩:∃W1,W1=w.drew.alloc (.cells ROW (ρ.t 9)):=⟨_,rfl⟩
 rw[<-hW1]at hrz;have hH1:W1.heap[w.heap.size]?=some (.cells ROW (ρ.t 9) (0,0)):=by rw[hW1];exact heap_alloc_new w.drew _
 have hHo:∀k,k<w.heap.size->W1.heap[k]?=w.heap[k]?:=λk hk=>by rw[hW1];exact heap_alloc_old w.drew _ hk
 have hcpA:∀(W:World),W.heap=W1.heap->∀ty dc,(Builtin.copy_ #[(ρ.t 24),(ρ.t 24)] ty #[.slice (some ⟨w.heap.size,i*6,none⟩) (n+m - i) dc,.slice (some ⟨vb,voff,none⟩) m vc]).run P W=.ok (goInt (m:Int)) (W.setRow w.heap.size (X0K ROW (i*6) us)):=λW hW ty dc=>
  Xb4 W L.t24 L.z9 (by rw[hW];exact hH1) hul (by simp only[Ycu];split<;>omega) (λj u hj=>by
   rw[X8S];have h0:=hus j u hj;have h2:W.heap[vb]?=w.heap[vb]?:=by rw[hW];exact hHo vb hvw
   simp only[World.cell?]at h0 ⊢;rw[h2];exact h0) (by rw[hRl,hul];omega) h1v
 have hsA:(X0K ROW (i*6) us).size=ROW.size:=X5c (by rw[hRl,hul];omega);obtain⟨W2,hW2⟩:∃W2,W2=W1.setRow w.heap.size (X0K ROW (i*6) us):=⟨_,rfl⟩
 have hH2:W2.heap[w.heap.size]?=some (.cells (X0K ROW (i*6) us) (ρ.t 9) (0,0)):=by rw[hW2];exact setRow_heap W1 _ ROW _ _ _ hH1
 have hbN:b≠w.heap.size:=by omega
 have hcpB:∀(W:World),W.heap=W2.heap->∀ty dc sc,(Builtin.copy_ #[(ρ.t 24),(ρ.t 24)] ty #[.slice (some ⟨w.heap.size,(i+m)*6,none⟩) (n+m - (i+m)) dc,.slice (some ⟨b,off+i*6,none⟩) (n - i) sc]).run P W=.ok (goInt ((n - i:Nat):Int)) (W.setRow w.heap.size (X0K (X0K ROW (i*6) us) ((i+m)*6) cs)):=λW hW ty dc sc=>
  Xb4 W L.t24 L.z9 (by rw[hW];exact hH2) hcl (by simp only[Ycu];split<;>omega) (λj u hj=>by
   rw[X8S];rw[hcs,YaE]at hj;split at hj
   . have h2:W.heap[b]?=some (.cells arr E (0,0)):=by rw[hW,hW2,setRow_other W1 _ b _ hbN,hHo b hbw];exact hb
     exact X5z (w:=W) h2 hj
   . cases hj) (by rw[hsA,hRl,hcl];omega) h1cs
 have hGi:¬(G=i):=by omega
 have hGim:¬(G=i+m):=by omega
 have hci:¬(c=i):=by omega
 have hw1:IntKind.i64.wrap ((i:Int)+(m:Int))=(i:Int)+(m:Int):=by rw[IntKind.wrap_i64];omega
 have hb1:(0:Int)<=(i:Int)+(m:Int):=by omega
 have hin:i<=n:=by omega
 have htn:((i:Int)+(m:Int)).toNat=i+m:=by omega
 have hb3:(i:Int)<=(n:Int):=by omega
 have hfin:(X0K (X0K ROW (i*6) us) ((i+m)*6) cs).toList=os++(us++(cs++ROW.toList.drop ((n+m)*6))):=by
  have hRL:ROW.toList.length=ROW.size:=Yaq;have e1:(X0K ROW (i*6) us).toList=os++(us++ROW.toList.drop (i*6+m*6)):=by
   simp only[X0K,hul,Yam]
   congr 1
   rw[hROW,YbZ,YbZ,Yam,YbM hol]
  simp only[X0K]at e1 ⊢;rw[e1];have e2:(os++(us++ROW.toList.drop (i*6+m*6))).take ((i+m)*6)=os++us:=by
   rw[<-Yam,YbM (by rw[Yab,hol,hul,Ya0])]
  have e3:(os++(us++ROW.toList.drop (i*6+m*6))).drop ((i+m)*6+cs.length)=ROW.toList.drop ((n+m)*6):=by
   rw[<-Yam,<-YaH,Ycf (by rw[Yab,hol,hul,Ya0]),YaH]
   congr 1;omega
  rw[e2,e3,Yam,Yam]
 have htl:(ROW.toList.drop ((n+m)*6)).length=(G - (n+m))*6:=by rw[Yap,Yaq,hRl];omega
 obtain⟨A2,hA2⟩:∃A2,A2=X0K (X0K ROW (i*6) us) ((i+m)*6) cs:=⟨_,rfl⟩
 rw[<-hA2]at hcpB hfin;have hA2':A2=(os++(us++(cs++ROW.toList.drop ((n+m)*6)))).toArray:=by rw[<-hfin]
 have hend:∀W':World,W'.heap=(W2.setRow w.heap.size A2).heap->W'.os=w.os->W'.tape=w.tape->W'.output=w.output->Xs9 (w.alloc (.cells (os++(us++(cs++ROW.toList.drop ((n+m)*6)))).toArray (ρ.t 9))) W':=λW' k1 k2 k3 k4=>by
  refine⟨?_,k2,k3,k4⟩;rw[k1,hW2,setRow_setRow,<-hA2',hW1];apply Array.ext_getElem?;intro k;by_cases hk:k=w.heap.size
  . subst hk;rw[setRow_heap (w.drew.alloc (.cells ROW (ρ.t 9))) _ ROW _ _ _ (by exact heap_alloc_new w.drew _)];exact(heap_alloc_new w _).symm
  . rw[setRow_other _ _ k _ hk];by_cases hlt:k<w.heap.size
    . have q1:(w.drew.alloc (.cells ROW (ρ.t 9))).heap[k]?=w.heap[k]?:=heap_alloc_old w.drew _ hlt;have q2:(w.alloc (.cells A2 (ρ.t 9))).heap[k]?=w.heap[k]?:=heap_alloc_old w _ hlt;rw[q1,q2]
    . have s1:(w.drew.alloc (.cells ROW (ρ.t 9))).heap.size=w.heap.size+1:=Ycq ..;have s2:(w.alloc (.cells A2 (ρ.t 9))).heap.size=w.heap.size+1:=Ycq ..;rw[Ycc (by omega),Ycc (by omega)]
 rw[<-hos,<-hcs];obtain⟨nm,hnm2,F22⟩:=L.f22;clear hkk hik hold hROW hG hfin hA2' hA2 hRl hsA
 go_enter F22,Body2.n22_ntmps ρ
 go_wp2_with (first
  | (at_builtin;refine Lib.wpList_append_run _ rfl _ _ _ _ rfl _ _ rfl rfl _ _ (hrz _) ?_)
  | (at_builtin;refine wpList_copy_runI _ rfl _ _ (ρ.t 24) (ρ.t 24) rfl _ _ rfl rfl (hcpA _ (by rw[hW1];rfl) _ _) ?_))
 go_region_law_o (refine step_copy_runI rfl _ _ (ρ.t 24) (ρ.t 24) rfl (.slice (some ⟨w.heap.size,(i+m)*6,none⟩) (n+m - (i+m)) (G - (i+m))) (.slice (some ⟨b,off+i*6,none⟩) (n - i) (c - i)) (by simp[Act.eval,Act.put]) (by simp[Act.eval,Act.put]) (hcpB _ (by rw[hW2,hW1];rfl) (ρ.t 3) (G - (i+m)) (c - i)) ?_)
 go_wp2
 go_ret
 refine⟨G,ROW.toList.drop ((n+m)*6),hGn,hGm,htl,rfl,hend _ ?_ ?_ ?_ ?_⟩
 . rw[hW2,hW1];rfl
 . rfl
 . rfl
 . rfl
set_option maxHeartbeats 4000000 in
theorem XtS(L:Xhk P ρ)(s v v':Value)(w w':World)(n m:Nat)(ad:Option Addr)(c:Nat)(ad2:Addr)(vc:Nat)(hs:s=.slice ad n c)(hv:v=.slice (some ad2) m vc)(hnil:ad=none->n=0)(hm:0<m)(hnc:n<=c)(hc63:c<=9223372036854775807)(hrun:∀ty,(Builtin.append_ #[ρ.t 24,ρ.t 24] ty #[s,v]).run P w=.ok v' w'):
 Calls P (ρ.f 22) #[s,.int .i64 n,v] w λe w1=>e=.returned v'/\Xs9 w' w1:=by
 have t0:=L.t0;have a0:=L.a0;have z0:=L.z0;have v0:=L.v0;have t3:=L.t3;have a3:=L.a3;have z3:=L.z3;have v3:=L.v3;have t4:=L.t4;have a4:=L.a4;have z4:=L.z4;have v4:=L.v4;have z9:=L.z9;have t24:=L.t24;have a24:=L.a24;have z24:=L.z24;have v24:=L.v24;have u0:=run_underlying L.t0;have u3:=run_underlying L.t3;have u4:=run_underlying L.t4;have u24:=run_underlying L.t24;have mixed:=L.mixed;have hz1:¬((m:Int)=0):=by omega
 obtain⟨nm,hnm2,F22⟩:=L.f22;subst hs;subst hv
 go_enter F22,Body2.n22_ntmps ρ
 cases ad with
 | none=>
   have h0:=hnil rfl;subst h0
   go_wp2_with (at_builtin;refine Lib.wpList_append_run _ rfl _ _ _ _ rfl _ _ rfl rfl _ _ (hrun _) ?_)
   all_goals (go_ret;exact⟨rfl,⟨rfl,rfl,rfl,rfl⟩⟩)
 | some a=>
   obtain⟨ab,ao,asp⟩:=a
   go_wp2_with (at_builtin;refine Lib.wpList_append_run _ rfl _ _ _ _ rfl _ _ rfl rfl _ _ (hrun _) ?_)
   all_goals (go_ret;exact⟨rfl,⟨rfl,rfl,rfl,rfl⟩⟩)
theorem Xum(L:Xhk P ρ){τ:Ty}(hτ:size τ=6){bytes:Nat}(hby:∀i,P.info? (ρ.t 9)=some i->i.bytes=bytes)(w:World){s v:Value}{l lv:List (El τ)}{bs bv:List Nat}(hs:X4Q w τ s l bs)(hv:X4Q w τ v lv bv)(hnd:(bs++bv).Nodup)(i:Nat)(hi:i<=List.length l)(hlv:0<List.length lv)(h63:List.length l+List.length lv<=maxLen)(hbig:(List.length l+List.length lv)*bytes<=140737488355328):
 Calls P (ρ.f 22) #[s,.int .i64 i,v] w λe w'=>∃s' bs',e=.returned s'/\X4Q w' τ s' (l.take i++(lv++l.drop i)) bs'/\Xei w w' bs bs' bv:=by
 obtain⟨n1,n2,n3⟩:=YaF.1 hnd;have hdis:∀x∈bv,x∉bs:=λx hx hx'=>n3 x hx' x hx rfl;rcases hv.cases with⟨_,_,rfl,_⟩ | ⟨vb,voff,vc,arrv,Ev,b1v,ev,rfl,hvb,k2,k3,k4,k5⟩
 . simp at hlv
 have n2':=YaB.1 n2;obtain⟨us,hus⟩:∃us,us=(arrv.toList.drop voff).take (List.length lv*size τ):=⟨_,rfl⟩
 rw[<-hus]at k5;have hul:us.length=List.length lv*6:=by rw[k5.length,X0V,hτ]
 have hsrc:∀j u,us[j]?=some u->w.cell? ⟨vb,voff+j,none⟩=some u:=λj u hj=>by
  rw[hus,YaE]at hj;split at hj
  . exact X5z hvb hj
  . cases hj
 have hmaxc:maxLen<=9223372036854775807:=by decide
 by_cases hin:i=List.length l
 ·
  subst hin;obtain⟨i0,z,hi0,hz0,hzc,hzs⟩:=L.i9;have hrun:=λty=>Xar (ty:=ty) L.t24 hi0 hz0 hzc (hzs.trans hτ.symm) (by rw[hτ];decide) hs n1 (a:=⟨vb,voff,none⟩) (c:=vc) (λj u hj=>by rw[X8S];exact hsrc j u hj) k5 n2'.2 (λx hx=>hdis x (Yan _ hx)) hlv h63 (by rw[hby i0 hi0];exact hbig);have hty:∀ty ty',(Builtin.append_ #[ρ.t 24,ρ.t 24] ty #[s,v]).run P w=(Builtin.append_ #[ρ.t 24,ρ.t 24] ty' #[s,v]).run P w:=λty ty'=>rfl;obtain⟨v',w',bs',r1,r2,r3⟩:=hrun (ρ.t 24);rw[<-ev]at r1;obtain⟨ad,c,es,c1,c2⟩:=hs.slice;have hnil:ad=none->List.length l=0:=λe=>by
   rcases hs.cases with⟨_,_,e2,_⟩ | ⟨_,_,_,_,_,_,e2,_⟩
   . rw[e2];rfl
   . rw[es,e]at e2;cases e2
  refine(XtS L s v v' w w' (List.length l) (List.length lv) ad c ⟨vb,voff,none⟩ vc es ev hnil hlv c1 (by omega) (λty=>(hty ty (ρ.t 24)).trans r1)).mono ?_;rintro e w1 ⟨rfl,hk⟩;refine⟨v',bs',rfl,?_,?_⟩
  . rw[Yat,YbO,Ybd];exact hk.own r2
  . exact Xei.like ⟨r3.nodup,λx hx=>(r3.sub x hx).imp id (Or.imp (Yan _) id),r3.size,r3.keep,r3.os,r3.tape,r3.output⟩ hk
 have hilt:i<List.length l:=by omega
 rcases hs.cases with⟨_,_,rfl,_⟩ | ⟨b,off,c,arr,E,b1,es,rfl,hb,q2,q3,q4,q5⟩
 . simp at hilt
 have n1':=YaB.1 n1;have hvbb:vb≠b:=λe=>hdis vb (by simp) (by simp[e]);have hal:arr.toList.length=arr.size:=Yaq;rw[hτ]at q4 q5;have hcm:List.length l*6<=c*6:=YaY 6 q2;have hfl:X0o τ l=X0o τ (l.take i)++X0o τ (l.drop i):=by rw[<-X1f,YaJ]
 obtain⟨v1,v2,b11,b12,e1,e2,o1,o2⟩:=q5.split hfl;have hl1:v1.length=i*6:=by rw[o1.length,X0V,hτ,Yal,Ya9 hi]
 have hl2:v2.length=(List.length l - i)*6:=by rw[o2.length,X0V,hτ,Yap]
 have ev1:v1=(arr.toList.drop off).take (i*6):=by
  have:=Ybh (List.take (i*6)) e1;rw[YbL,Ya9 (by omega),YbM hl1]at this;exact this.symm
 have ev2:v2=(arr.toList.drop (off+i*6)).take ((List.length l - i)*6):=by
  have:=Ybh (List.drop (i*6)) e1;rw[Ycf hl1,YbQ,YaH]at this;rw[<-this];congr 1;omega
 have hone:∀u∈(arr.toList.drop off).take (List.length l*6),u.oneCell'=true:=q5.one;have one2:∀u∈v2,u.oneCell'=true:=o2.one;have hfa:X0o τ (l.take i++(lv++l.drop i))=X0o τ (l.take i)++(X0o τ lv++X0o τ (l.drop i)):=by rw[X1f,X1f]
 have hlen:List.length (l.take i++(lv++l.drop i))=List.length l+List.length lv:=by simp only[Yab,Yal,Yap];omega
 have hnd3:(([b]:List Nat)++(b11++b12)).Nodup:=by rw[<-e2];exact n1
 have hnd4:=XmQ (bv:=b1v) hnd3 n2'.2 (λx hx=>by rw[<-e2];exact hdis x (Yan _ hx));have hlt1:=o1.lt;have hlt2:=o2.lt;have hltv:=k5.lt;have hlt:∀x∈b11++(b1v++b12),x<w.heap.size:=λx hx=>by
  simp only[Yaf]at hx;rcases hx with h | h | h
  . exact hlt1 x h
  . exact hltv x h
  . exact hlt2 x h
 by_cases hroom:List.length l+List.length lv<=c
 ·
  rw[es,ev];refine(XqW L b off (List.length l) c i vb voff (List.length lv) vc arr arrv E Ev us w hilt hlv hroom (by omega) hvbb hb q4 hvb hul hsrc (by rw[<-ev2];exact one2) k5.one).mono ?_;rintro e w1 ⟨rfl,hk⟩;rw[<-ev2]at hk;obtain⟨A,hA⟩:∃A,A=X0K (X0K arr (off+(i+List.length lv)*6) v2) (off+i*6) us:=⟨_,rfl⟩
  rw[<-hA]at hk;have hAs:A.size=arr.size:=by
   rw[hA,X5c (by rw[X5c (by rw[hl2];omega),hul];omega),X5c (by rw[hl2];omega)]
  have hAl:(A.toList.drop off).take ((List.length l+List.length lv)*6)=v1++(us++v2):=by
   have f1:(X0K arr (off+(i+List.length lv)*6) v2).toList=arr.toList.take (off+(i+List.length lv)*6)++(v2++arr.toList.drop (off+(i+List.length lv)*6+v2.length)):=by simp only[X0K,Yam]
   have f2:A.toList=arr.toList.take (off+i*6)++(us++(v2++arr.toList.drop (off+(i+List.length lv)*6+v2.length))):=by
    rw[hA];have:(X0K (X0K arr (off+(i+List.length lv)*6) v2) (off+i*6) us).toList=(X0K arr (off+(i+List.length lv)*6) v2).toList.take (off+i*6)++us++(X0K arr (off+(i+List.length lv)*6) v2).toList.drop (off+i*6+us.length):=rfl;rw[this,f1];have lt1:(arr.toList.take (off+(i+List.length lv)*6)).length=off+(i+List.length lv)*6:=by rw[Yal];omega
    rw[YaZ (by omega),YbL,Ya9 (by omega),Ycf (by rw[lt1,hul];omega),Yam]
   have g0:(arr.toList.take (off+i*6)).drop off=v1:=by rw[ev1,YbQ,YbY]
   rw[f2,YbT (by rw[Yal];omega),g0,<-Yam us,<-Yam v1,YbM (by simp only[Yab,hl1,hul,hl2];omega)]
  have fr:∀{vs:List Value} {cs:List X02} {bb:List Nat},X1v w vs cs bb->b∉bb->X1v w1 vs cs bb:=λhh hn=>hh.frame λx hx=>by
   rw[hk.heap];exact setRow_other w b x _ (λe=>by subst e;exact hn hx)
  have nb:b∉b11/\b∉b1v/\b∉b12:=by
   have:=(YaB.1 (show(b::(b11++(b1v++b12))).Nodup from hnd4)).1;simpa only[Yaf,YcD] using this
  refine⟨_,b::(b11++(b1v++b12)),rfl,?_,⟨hnd4,λx hx=>?_,by rw[hk.heap];simp,λk h1 h2=>?_,hk.os,hk.tape,hk.output⟩⟩
  . rw[<-hlen];refine X4Q.mk (arr:=A) (e:=E) (by rw[hk.heap];exact setRow_heap w b arr A E _ hb) (by rw[hlen];exact hroom) q3 (by rw[hAs,hτ];exact q4) ?_;rw[hlen,hτ,hAl,hfa];exact(fr o1 nb.1).append ((fr k5 nb.2.1).append (fr o2 nb.2.2))
  . simp only[Yak,Yaf]at hx;rcases hx with rfl | hx | hx | hx
    . exact .inl (by simp)
    . exact .inl (by rw[e2];simp[hx])
    . exact .inr (.inl (by simp[hx]))
    . exact .inl (by rw[e2];simp[hx])
  . rw[hk.heap];exact setRow_other w b k _ (λe=>by subst e;exact h2 (by simp))
 ·
  rw[es,ev];refine(XrI L b off (List.length l) c i vb voff (List.length lv) vc arr arrv E Ev us w hilt hlv q2 (by omega) bytes hby hbig h63 hvbb hb q4 hvb hul hsrc hone k5.one).mono ?_;rintro e w1 ⟨G,tl,g1,g2,g3,rfl,hk⟩;rw[<-ev1,<-ev2]at hk;have hH:w1.heap[w.heap.size]?=some (.cells (v1++(us++(v2++tl))).toArray (ρ.t 9) (0,0)):=by rw[hk.heap];exact heap_alloc_new w _
  have hO:∀k,k<w.heap.size->w1.heap[k]?=w.heap[k]?:=λk h=>by rw[hk.heap];exact heap_alloc_old w _ h
  refine⟨_,w.heap.size::(b11++(b1v++b12)),rfl,?_,⟨YaB.2 ⟨λh=>Nat.lt_irrefl _ (hlt _ h),(YaF.1 hnd4).2.1⟩,λx hx=>?_,?_,λk h1 _=>hO k h1,hk.os,hk.tape,hk.output⟩⟩
  . rw[<-hlen]at g1 ⊢;refine X4Q.mk hH g1 g2 ?_ ?_
    . simp only[YbI,Yab,hl1,hul,hl2,g3,hτ];rw[hlen]at g1;omega
    . rw[hlen,hτ,YbK,hfa];have f3:((v1++(us++(v2++tl))).toArray.toList).take ((List.length l+List.length lv)*6)=v1++(us++v2):=by
       show(v1++(us++(v2++tl))).take _=_;rw[<-Yam us,<-Yam v1,YbM (by simp only[Yab,hl1,hul,hl2];omega)]
      rw[f3];exact(o1.frame λg h=>hO g (hlt1 g h)).append ((k5.frame λg h=>hO g (hltv g h)).append (o2.frame λg h=>hO g (hlt2 g h)))
  . simp only[Yak,Yaf]at hx;rcases hx with rfl | hx | hx | hx
    . exact .inr (.inr (YaC _))
    . exact .inl (by rw[e2];simp[hx])
    . exact .inr (.inl (by simp[hx]))
    . exact .inl (by rw[e2];simp[hx])
  . rw[hk.heap];have:(w.alloc (.cells (v1++(us++(v2++tl))).toArray (ρ.t 9))).heap.size=w.heap.size+1:=Ycq ..;omega
theorem XwK(L:Xhk P ρ){τ:Ty}(hτ:size τ=6){bytes:Nat}(hby:∀i,P.info? (ρ.t 9)=some i->i.bytes=bytes)(hb:bytes<=128):X0h P (ρ.f 22) (Xbh τ (ρ.t 9)):=by
 intro w M vs cs i x F FI b hM hargs hown hio hiv hnd hnone hpre;obtain⟨p1',p2',p3,p4⟩:=hpre;have p1:(0:Int)<=x.2.1:=p1';have p2:(show Int from x.2.1)<=((List.length x.1:Nat):Int):=p2';have hbn:b=none:=by cases b with | none=>rfl | some g=>cases hio
 subst hbn;obtain⟨u0,u1,u2,rfl,rfl⟩:∃u0 u1 u2,vs=[u0,u1,u2]/\cs=[u0,u1,u2]:=by
  cases hargs with
  | cons h0 r0=>cases r0 with
    | cons h1 r1=>cases r1 with
      | cons h2 r2=>cases r2;obtain⟨rfl,_⟩:=h0;obtain⟨rfl,_⟩:=h1;obtain⟨rfl,_⟩:=h2;exact⟨_,_,_,rfl,rfl⟩
 have ho0:X4Q w τ u0 x.1 (F 0):=by
  obtain⟨u,t,l,h1,h2,h3⟩:=hown.own 0 (ρ.t 9) rfl;cases h1;have h2':some (X02.lst τ x.1 none)=some (.lst t l none):=h2;cases h2';exact h3
 have ho2:X4Q w τ u2 x.2.2 (F 2):=by
  obtain⟨u,t,l,h1,h2,h3⟩:=hown.own 2 (ρ.t 9) rfl;cases h1;have h2':some (X02.lst τ x.2.2 none)=some (.lst t l none):=h2;cases h2';exact h3
 have ho1:u1=.int .i64 x.2.1:=hown.rd 1 u1 (.int .i64 x.2.1) rfl rfl rfl;have hblk:X5B (Xbh τ (ρ.t 9)) none F FI=F 0++F 2:=by simp[X5B,Xbh,X98]
 rw[hblk]at hnd hnone;have hx:((x.2.1.toNat:Nat):Int)=x.2.1:=by omega
 have hml:(1099511627776:Nat)<=maxLen:=by decide
 have hmul:(List.length x.1+List.length x.2.2)*bytes<=140737488355328:=YaW (Nat.mul_le_mul p4 hb) (by decide);have hi1:(x.2.1:Int).toNat<=List.length x.1:=Int.toNat_le.2 p2';have h:=Xum L hτ hby w ho0 ho2 hnd x.2.1.toNat hi1 p3 (YaW p4 hml) hmul;rw[hx,<-ho1]at h;refine h.mono ?_;rintro e w' ⟨s',bs',rfl,hO,hR⟩;have hsub:∀g∈bs',(w.heap.size<=g\/g∈F 0++F 2):=λg hg=>by
  rcases hR.sub g hg with k | k | k
  . exact .inr (Yb9 _ k)
  . exact .inr (List.mem_append_right _ k)
  . exact .inl k
 have hMn:∀g∈bs',∀ad,ad.block=g->M ad=none:=λg hg ad had=>by
  rcases hsub g hg with k | k
  . cases hm:M ad with
    | none=>rfl
    | some v=>
      have h1:=hM ad v hm;have h2:=block_lt_of_cell h1;omega
  . exact hnone g k ad had
 have hsl:∃ad c,s'=.slice ad (List.length (x.1.take x.2.1.toNat++(x.2.2++x.1.drop x.2.1.toNat))) c:=by
  obtain⟨ad,c,k,_⟩:=hO.slice;exact⟨ad,c,k⟩
 obtain⟨sad,sc,hsv⟩:=hsl;refine⟨[s'],(x.1.take x.2.1.toNat++(x.2.2++x.1.drop x.2.1.toNat),((),())),[s'],M,λ_=>bs',λ_=>[],λ_=>[],[],rfl,rfl,Mem.le_refl _,λad v hm=>?_,⟨hR.os,hR.tape,hR.output,hR.size,λk h1 h2=>hR.keep k h1 (λh=>h2 (by rw[hblk];exact Yb9 _ h))⟩,λ_ _ _ h=>h,?_,?_,(λg hg=>by cases hg),?_,?_,?_,?_,?_⟩
 . have h1:=hM ad v hm;have hlt:=block_lt_of_cell h1;have hnb:ad.block∉F 0:=λh=>by rw[hnone ad.block (Yb9 _ h) ad rfl]at hm;cases hm
   have h2:=hR.keep ad.block hlt hnb;simp only[World.cell?]at h1 ⊢;rw[h2];exact h1
 . refine⟨rfl,?_⟩;have:=Xdf.cons (v:=s') (ag:=false) (n:=1) (by rw[hsv];rfl) (by rw[hsv];rfl) Xdf.nil;rw[hsv]at this ⊢;exact this
 . refine⟨rfl,λj u c hj h1 h2=>?_,λj e' hj=>?_⟩
   . cases j with
     | zero=>cases hj
     | succ j=>simp at h1
   . cases j with
     | zero=>exact⟨s',τ,_,rfl,rfl,hO⟩
     | succ j=>exact absurd hj (by rw[show(Xbh τ (ρ.t 9)).fresh=[(0,ρ.t 9)] from rfl,X08,Yae (by omega)];exact λh=>by cases h)
 . refine⟨rfl,λk j e' hk=>by simp[Xbh]at hk⟩
 . intro j e' hj t l tag hc;obtain⟨i0,z,hi0,hz0,hzc,hzs⟩:=L.i9;cases j with
   | zero=>
     have e1:e'=ρ.t 9:=by cases (show some (ρ.t 9)=some e' from hj);rfl
     have e2:some (X02.lst τ (x.1.take x.2.1.toNat++(x.2.2++x.1.drop x.2.1.toNat)) none)=some (.lst t l tag):=hc;cases e2;subst e1;exact⟨⟨i0,hi0,hzs.trans hτ.symm⟩,by omega⟩
   | succ j=>exact absurd hj (by rw[show(Xbh τ (ρ.t 9)).fresh=[(0,ρ.t 9)] from rfl,X08,Yae (by omega)];exact λh=>by cases h)
 . intro j e' hj;cases hj
 . simpa [Xbh,X98] using hR.nodup
 . intro g hg;have hg':g∈bs':=by simpa [Xbh,X98] using hg
   refine⟨?_,?_,hMn g hg'⟩
   . rcases hsub g hg' with k | k
     . exact .inl k
     . exact .inr ⟨by rw[hblk];exact k,by simp⟩
   . exact X1v.lt hO g hg'
end
section
open Go Go.Proofs.YthpdkligbfbjeaaGreat.Bv Go.Proofs Go.Shelf Go.RowKit Go.Lib
def X0Z:Ren:=⟨λn=>if n=22 then 62 else if n=29 then 101 else if n=30 then 102 else n,λn=>if n=24 then 38 else if n=9 then 73 else n,λn=>n⟩
set_option maxRecDepth 100000 in
theorem X5Z:Tryz.f62={Body2.n22 X0Z with name:=Tryz.f62.name}:=by kernel_rfl
theorem X64:Xhk Tryz.prog X0Z where
 mixed:=rfl
 f22:=⟨Tryz.f62.name,by kernel_rfl,by rw[<-X5Z];exact func62⟩
 f29:=⟨Tryz.f101,func101,by kernel_rfl,by kernel_rfl,by kernel_rfl,by kernel_rfl⟩
 t0:=by kernel_rfl
 a0:=λw=>by kernel_rfl
 z0:=λw=>by kernel_rfl
 v0:=λw=>by kernel_rfl
 t3:=by kernel_rfl
 a3:=λw=>by kernel_rfl
 z3:=λw=>by kernel_rfl
 v3:=λw=>by kernel_rfl
 t4:=by kernel_rfl
 a4:=λw=>by kernel_rfl
 z4:=λw=>by kernel_rfl
 v4:=λw=>by kernel_rfl
 t24:=by kernel_rfl
 a24:=λw=>by kernel_rfl
 z24:=λw=>by kernel_rfl
 v24:=λw=>by kernel_rfl
 z9:=λw=>by kernel_rfl
 i9:=by
  obtain⟨i,z,h1,h2,h3,h4,h5⟩:=(XgY 73 _ rfl).info;have h6:z.cells.size=6:=by rw[<-Yaq,h5];rfl
  exact⟨i,z,h1,h4,h6.trans h2.symm,h2⟩
theorem X6o:∀i,Tryz.prog.info? (X0Z.t 9)=some i->i.bytes=56:=λi hi=>by
 obtain⟨i',z,h1,h2,h3,h4,h5⟩:=(XgY 73 _ rfl).info;have h1':Tryz.prog.info? (X0Z.t 9)=some i':=h1;rw[h1']at hi;cases hi;exact h3
def X3B(l:List U6q)(i:Int)(v:List U6q):List U6q:=l.take i.toNat++(v++l.drop i.toNat)
def X3E(l:List U6q)(i:Int)(v:List U6q):Prop:=0<=i/\i<=l.length/\0<v.length/\l.length+v.length<=1099511627776
def X4i:Con:={A:=(.pair (.list T1q) (.pair (.int .i64) (.list T1q))),shA:=[.one,.one,.one],ownA:=[(0,73),(2,73)],R:=(.list T1q),shR:=[(false,1)],fresh:=[(0,73)],pre:=λ_ a=>(X3E a.1 a.2.1 a.2.2),f:=some λ_ a=>((X3B a.1 a.2.1 a.2.2),((),()))}
theorem X2G.ok:X0h Tryz.prog 62 X4i:=XwK (τ:=T1q) X64 rfl X6o (by decide)
def X2G.e:GE:=⟨62,X4i,⟨_,func62,rfl,rfl⟩,X2G.ok⟩
end
def Xxq(l:List X7a):Prop:=Asc ltI Prod.fst l/\∀x∈l,0<=x.1/\x.1<=1099511627776
def Xyw(l:List X7a)(t:Int):Bool:=l.any λx=>decide (x.1=t)
theorem XpU{l:List X7a}{t:Int}:Xyw l t=true↔∃x∈l,x.1=t:=by simp[Xyw]
def Xl6(x:X7a)(t:Int):Int:=IntKind.wrap .i64 (x.1 - t)
def pBsC(l:List X7a)(t:Int)(u:Unit):Prop:=Xxq l/\0<=t/\t<=1099511627776/\l.length<=1099511627776
def XuQ(l:List X7a)(t:Int)(u:Unit):Int×Bool:=((pos ltI Prod.fst t l:Nat),Xyw l t)
structure XrR (l:List X7a) (t:Int) (u:Unit) (i j:Int):Prop where
 h1:0<=i
 h2:i<=j
 h3:j<=l.length
 h4:∀k,k<i.toNat->ltI (l.getD k ((0,(0,(0,(0,(0,[]))))):X7a)).1 t=true
 h5:∀k,j.toNat<=k->k<l.length->ltI (l.getD k ((0,(0,(0,(0,(0,[]))))):X7a)).1 t=false
def XwN(l:List X7a)(t:Int)(u:Unit)(i j:Int):Nat:=(j - i).toNat
theorem Xvv{l:List X7a}(h:Xxq l){i:Nat}(hi:i<l.length):0<=(l.getD i ((0,(0,(0,(0,(0,[]))))):X7a)).1/\(l.getD i ((0,(0,(0,(0,(0,[]))))):X7a)).1<=1099511627776:=h.2 _ (X10 hi)
theorem Xvq{l:List X7a}{t:Int}{u:Unit}{i j k:Int}(h:Xxq l)(hI:XrR l t u i j)(h1:i<=k)(h2:k<j)(hk:(l.getD k.toNat ((0,(0,(0,(0,(0,[]))))):X7a)).1<t):XrR l t u (k+1) j:=by
 obtain⟨q1,q2,q3,q4,q5⟩:=hI;refine⟨by omega,by omega,q3,λx hx=>?_,q5⟩;by_cases e:x=k.toNat
 . subst e;simpa using hk
 . have:=X6g ((0,(0,(0,(0,(0,[]))))):X7a) h.1 (i:=x) (j:=k.toNat) (by omega) (by omega);simp only[ltI,Yaj]at this ⊢;omega
theorem XvM{l:List X7a}{t:Int}{u:Unit}{i j k:Int}(h:Xxq l)(hI:XrR l t u i j)(h1:i<=k)(h2:k<j)(hk:¬(l.getD k.toNat ((0,(0,(0,(0,(0,[]))))):X7a)).1<t):XrR l t u i k:=by
 obtain⟨q1,q2,q3,q4,q5⟩:=hI;refine⟨q1,h1,by omega,q4,λx hx hl=>?_⟩;by_cases e:x=k.toNat
 . subst e;simpa using hk
 . have:=X6g ((0,(0,(0,(0,(0,[]))))):X7a) h.1 (i:=k.toNat) (j:=x) (by omega) hl;simp only[ltI,Yaj,Yaw]at this ⊢;omega
theorem XoM{l:List X7a}{t:Int}{u:Unit}{i j:Int}(h:Xxq l)(hI:XrR l t u i j)(hij:¬i<j):pos ltI Prod.fst t l=i.toNat/\Xyw l t=(decide (i<l.length)&&decide ((l.getD i.toNat ((0,(0,(0,(0,(0,[]))))):X7a)).1=t)):=by
 obtain⟨q1,q2,q3,q4,q5⟩:=hI;have e:i=j:=by omega
 subst e;refine⟨Xpu ((0,(0,(0,(0,(0,[]))))):X7a) (by omega) q4 q5,?_⟩;rw[Ybq,XpU,Yac,Yaj,Yaj];constructor
 . rintro⟨x,hx,hxt⟩;obtain⟨k,hk,e⟩:=YaM hx;rw[<-X0O (d:=((0,(0,(0,(0,(0,[]))))):X7a)) hk]at e;have a1:¬k<i.toNat:=λhh=>by have:=q4 k hh;rw[e]at this;simp at this;omega
   have a2:¬i.toNat<k:=λhh=>by
    have:=X6g ((0,(0,(0,(0,(0,[]))))):X7a) h.1 hh hk;have a3:=q5 i.toNat (YaC _) (by omega);simp only[ltI,Yaj,Yaw]at this a3;rw[e]at this;omega
   have a4:k=i.toNat:=by omega
   subst a4;exact⟨by omega,by rw[e];exact hxt⟩
 . rintro⟨h1,h2⟩;exact⟨_,X10 (by omega),h2⟩
theorem Xrg{l:List X7a}(h:X4q l=true):Xxq l/\l.length<=4/\∀x∈l,1<=x.2.1/\x.2.1<=1000000:=by
 have h4:=XlK h;have hb:∀i,i<l.length->((0<=(l.getD i Xd5).1/\(l.getD i Xd5).1<=4)/\1<=(l.getD i Xd5).2.1/\(l.getD i Xd5).2.1<=1000000)/\(i=0\/(l.getD (i - 1) Xd5).1<(l.getD i Xd5).1):=λi hi=>by
  have:=Xm4 h i hi;simp only[XqL,ss1,Yac,Ya5,Yaj,fIn]at this;exact⟨⟨by omega,this.1.2.1⟩,this.2⟩
 have hm:∀x∈l,∃i,i<l.length/\l.getD i Xd5=x:=λx hx=>by
  obtain⟨i,hi,e⟩:=YaM hx;exact⟨i,hi,by rw[X0O hi,e]⟩
 refine⟨⟨?_,λx hx=>?_⟩,h4,λx hx=>?_⟩
 . have hs:∀(d:Nat) (i:Nat),i+d+1<l.length->(l.getD i Xd5).1<(l.getD (i+d+1) Xd5).1:=by
    intro d
    induction d with
    | zero=>intro i hi;have:=(hb (i+1) hi).2;simp at this;exact this
    | succ d ih=>
      intro i hi;have a:=ih i (by omega);have c:=(hb (i+(d+1)+1) hi).2;simp only[Yct]at c;rcases c with c | c
      . omega
      . exact Int.lt_trans a c
   refine Yb8.2 λi j hi hj hij=>?_;have:=hs (j - i - 1) i (by omega);rw[show i+(j - i - 1)+1=j by omega,X0O hi,X0O hj]at this;simpa using this
 . obtain⟨i,hi,e⟩:=hm x hx;have:=(hb i hi).1.1;rw[e]at this;omega
 . obtain⟨i,hi,e⟩:=hm x hx;have:=(hb i hi).1.2;rw[e]at this;exact this
def X5R(l:List X7a)(c:Int):Int×Bool:=XuQ l c ()
def Xh6(l:List X7a)(c:Int):Prop:=X4q l=true/\1<=c/\c<=4
theorem Xtl{l:List X7a}{c:Int}(h:Xh6 l c):0<=(X5R l c).1/\(X5R l c).1<=l.length/\((X5R l c).2=true->(X5R l c).1<l.length):=by
 have hp:=Xne (lt:=ltI) (key:=Prod.fst) c l;have e:(X5R l c).1=((pos ltI Prod.fst c l:Nat):Int):=rfl;rw[e];refine⟨by omega,by omega,λhh=>?_⟩;have hT:Xyw l c=true:=hh;obtain⟨y,hy,e⟩:=XpU.1 hT;by_cases hc:pos ltI Prod.fst c l<l.length
 . omega
 . have e2:pos ltI Prod.fst c l=l.length:=by omega
   have:=Xf5 (lt:=ltI) (key:=Prod.fst) (k:=c) (l:=l) (x:=y) (by rw[e2,Yat];exact hy);simp only[ltI,Yaj]at this;omega
def Xxs:Ans:=(0,(0,(0,[])))
def Xng(l:List X7a)(c:Int):Int×Ans:=if (X5R l c).2=true then((l.getD (X5R l c).1.toNat Xd5).2.1,(l.getD (X5R l c).1.toNat Xd5).2.2) else(0,Xxs)
def X4k(s:Stt)(c:Int):Int×Ans:=Xng s.2.2.2.2.2 c
def XgI(s:Stt)(c:Int):Int×Bool:=X5R s.2.2.2.2.2 c
def XcX(s:Stt)(c:Int):Prop:=Xh6 s.2.2.2.2.2 c
def XwT(l:List X7a)(x:X7a):List X7a:=if (X5R l x.1).2=true then l.set (X5R l x.1).1.toNat x else l.take (X5R l x.1).1.toNat++([x]++l.drop (X5R l x.1).1.toNat)
def setS(s:Stt)(l:List X7a):Stt:=(s.1,(s.2.1,(s.2.2.1,(s.2.2.2.1,(s.2.2.2.2.1,l)))))
def ixA(a:Ans)(i:Int):Ans:=(a.1,(i,a.2.2))
def X4f(s:Stt)(c n:Int)(o:Opp)(i:Int):Stt×(Ans×Bool):=
 if X9M c=true/\X9r n=true/\fIn i 1 100000=true then
  if n=(X4k s c).1 then(s,((X4k s c).2,false))
  else if n=(X4k s c).1+1 then(setS (X96 s o).1 (XwT (X96 s o).1.2.2.2.2.2 (c,(n,ixA (X96 s o).2 i))),(ixA (X96 s o).2 i,true))
  else(s,(Xxs,false))
 else(s,(Xxs,false))
def X93(s:Stt)(c n:Int)(o:Opp)(i:Int):Stt×(Ans×Bool):=if X2U s=true then X4f s c n o i else((0,(0,(0,([],((0,([],[])),[]))))),(Xxs,false))
def XhS(s:Stt)(c n:Int)(o:Opp)(i:Int):Prop:=pDo s o
def XhE(s:Stt)(c n:Int)(o:Opp)(i:Int):Prop:=Xuh s o
def s12I(s:Stt)(c i k hd mk:Int)(bk:List Bkt)(fl:Int)(ca:List Ser)(fi:List Str)(se:List X7a):Prop:=((k,(hd,(mk,(bk,((fl,(ca,fi)),se))))):Stt)=s/\XrR s.2.2.2.2.2 c () i s.2.2.2.2.2.length
def s12M(s:Stt)(c i k hd mk:Int)(bk:List Bkt)(fl:Int)(ca:List Ser)(fi:List Str)(se:List X7a):Nat:=(s.2.2.2.2.2.length - i).toNat
theorem Xoc{s:Stt}(h:X2U s=true):X4q s.2.2.2.2.2=true:=by
 unfold X2U at h;rw[Yac]at h;exact h.1
theorem XoI(s:Stt)(o:Opp):(X96 s o).1.2.2.2.2.2=s.2.2.2.2.2:=by
 have hr:(X8U s o).1.2.2.2.2.2=s.2.2.2.2.2:=by
  unfold X8U;split
  . rfl
  . split<;>rfl
 have hm:(XeF s o).1.2.2.2.2.2=s.2.2.2.2.2:=by
  unfold XeF;split
  . exact hr
  . split
    . split<;>rfl
    . rfl
 unfold X96;split
 . split
   . unfold fMt;split
     . exact hm
     . rfl
   . unfold fSh;split
     . unfold fWr;split
       . rfl
       . split<;>rfl
     . split
       . rfl
       . split
         . rfl
         . split<;>rfl
 . rfl
theorem Xsu{l:List X7a}{c:Int}(h:Xh6 l c):0<=(Xng l c).1/\(Xng l c).1<=1000000:=by
 obtain⟨_,_,r3⟩:=Xrg h.1;have hi:=Xtl h;unfold Xng;split
 . rename_i hh;have:=r3 _ (X10 (d:=Xd5) (l:=l) (i:=(X5R l c).1.toNat) (by have:=hi.2.2 hh;omega));simp only;omega
 . exact⟨Int.le_refl _,by decide⟩
theorem XmR(s:Stt)(c n:Int)(o:Opp)(i:Int):(¬(X9M c=true/\X9r n=true/\fIn i 1 100000=true)->X4f s c n o i=(s,(Xxs,false)))/\
 (X9M c=true/\X9r n=true/\fIn i 1 100000=true->n=(X4k s c).1->X4f s c n o i=(s,((X4k s c).2,false)))/\
 (X9M c=true/\X9r n=true/\fIn i 1 100000=true->¬n=(X4k s c).1->¬n=(X4k s c).1+1->X4f s c n o i=(s,(Xxs,false)))/\
 (X9M c=true/\X9r n=true/\fIn i 1 100000=true->¬n=(X4k s c).1->n=(X4k s c).1+1->X4f s c n o i=(setS (X96 s o).1 (XwT (X96 s o).1.2.2.2.2.2 (c,(n,ixA (X96 s o).2 i))),(ixA (X96 s o).2 i,true))):=by
 refine⟨λh=>?_,λh h2=>?_,λh h2 h3=>?_,λh h2 h3=>?_⟩
 . unfold X4f;rw[Yae h]
 . unfold X4f;rw[Yah h,Yah h2]
 . unfold X4f;rw[Yah h,Yae h2,Yae h3]
 . unfold X4f;rw[Yah h,Yae h2,Yah h3]
def X6d:Con:=cQ (.pair T1q (.int .i64)) [.agg 6,.one] (.int .i64) [(false,1)] (λ_=>True) λa=>(Xl6 a.1 a.2)
def X1m.F(a0:U6q)(a1:Int):Prop:=Eq (wI (a0.1 - a1),(),()) (Xl6 a0 a1,(),())
theorem X1m.p(a0:U6q)(a1:Int)(h:True)(hw:Wf X6d.A (a0,a1)):X1m.F a0 a1:=by
 delta X1m.F wI;simp only[Bs,B0,B1,Yaa,X01,Xl6,Yay]
 repeat' (with_reducible (first | (refine And.intro ?_ ?_) | intro _))
 all_goals (try simp (disch:=omega) only[w64,wu8,tn0,tn1,tm1,tm2,Yab,Yad,Yai]at*)
 all_goals (try simp (disch:=omega) only[w64,wu8,tn0,tn1,tm1,tm2,Yab,Yad,Yai]at*)
 all_goals (try omega)
 all_goals (try grind[])
def X1m.e:GE:=mE X6d func100 [3] [] [] noL (λi x=>X1m.F x.1 x.2) λi x h _ hw=>X1m.p x.1 x.2 h hw
def X0D:Con:=cQ (.pair (.list T1q) (.pair (.int .i64) .unit)) [.one,.one,.clo 100 []] Xpe [(false,1),(false,1)] (λa=>(pBsC a.1 a.2.1 a.2.2)) λa=>(XuQ a.1 a.2.1 a.2.2)
def X05.F(a0:(List U6q))(a1:Int)(a2:Unit):Prop:=eQ [(0,vL T1q a0),(1,vI a1),(2,.fn 100 [] []),(8,vI (ln a0))]/\XrR a0 a1 a2 0 (ln a0)/\∀(y1:Int×Int),XrR a0 a1 a2 y1.1 y1.2->dC (y1.1<y1.2) (0<=(1:Int)/\iB (wI (Int.fdiv (IntKind.wrap .u64 (wI (y1.1+y1.2))) (2^min (tN 1) (IntKind.bits .u64)))) a0 (True/\∀r2,rU r2 (Xl6 ((gA a0 (wI (Int.fdiv (IntKind.wrap .u64 (wI (y1.1+y1.2))) (2^min (tN 1) (IntKind.bits .u64)))) (0,0,0,0,0,[])).1,(gA a0 (wI (Int.fdiv (IntKind.wrap .u64 (wI (y1.1+y1.2))) (2^min (tN 1) (IntKind.bits .u64)))) (0,0,0,0,0,[])).2.1,(gA a0 (wI (Int.fdiv (IntKind.wrap .u64 (wI (y1.1+y1.2))) (2^min (tN 1) (IntKind.bits .u64)))) (0,0,0,0,0,[])).2.2.1,(gA a0 (wI (Int.fdiv (IntKind.wrap .u64 (wI (y1.1+y1.2))) (2^min (tN 1) (IntKind.bits .u64)))) (0,0,0,0,0,[])).2.2.2.1,(gA a0 (wI (Int.fdiv (IntKind.wrap .u64 (wI (y1.1+y1.2))) (2^min (tN 1) (IntKind.bits .u64)))) (0,0,0,0,0,[])).2.2.2.2.1,(gA a0 (wI (Int.fdiv (IntKind.wrap .u64 (wI (y1.1+y1.2))) (2^min (tN 1) (IntKind.bits .u64)))) (0,0,0,0,0,[])).2.2.2.2.2) a1)->dC (r2.1<0) (eQ [(0,vL T1q a0),(1,vI a1),(2,.fn 100 [] []),(8,vI (ln a0))]/\XrR a0 a1 a2 (wI (wI (Int.fdiv (IntKind.wrap .u64 (wI (y1.1+y1.2))) (2^min (tN 1) (IntKind.bits .u64)))+1)) y1.2/\XwN a0 a1 a2 (wI (wI (Int.fdiv (IntKind.wrap .u64 (wI (y1.1+y1.2))) (2^min (tN 1) (IntKind.bits .u64)))+1)) y1.2<XwN a0 a1 a2 y1.1 y1.2) (eQ [(0,vL T1q a0),(1,vI a1),(2,.fn 100 [] []),(8,vI (ln a0))]/\XrR a0 a1 a2 y1.1 (wI (Int.fdiv (IntKind.wrap .u64 (wI (y1.1+y1.2))) (2^min (tN 1) (IntKind.bits .u64))))/\XwN a0 a1 a2 y1.1 (wI (Int.fdiv (IntKind.wrap .u64 (wI (y1.1+y1.2))) (2^min (tN 1) (IntKind.bits .u64))))<XwN a0 a1 a2 y1.1 y1.2))) (dC (y1.1<ln a0) (iB y1.1 a0 (True/\∀r3,rU r3 (Xl6 ((gA a0 y1.1 (0,0,0,0,0,[])).1,(gA a0 y1.1 (0,0,0,0,0,[])).2.1,(gA a0 y1.1 (0,0,0,0,0,[])).2.2.1,(gA a0 y1.1 (0,0,0,0,0,[])).2.2.2.1,(gA a0 y1.1 (0,0,0,0,0,[])).2.2.2.2.1,(gA a0 y1.1 (0,0,0,0,0,[])).2.2.2.2.2) a1)->rE (y1.1,r3.1==0) (XuQ a0 a1 a2))) (rE (y1.1,false) (XuQ a0 a1 a2)))
def X05.L(a0:(List U6q))(a1:Int)(a2:Unit):Nat->Option X0f:=XLK [(60,⟨⟨[0,1,2,8],[9,10],[],[]⟩,T0q,λst y=>XrR a0 a1 a2 y.1 y.2,λst y=>XwN a0 a1 a2 y.1 y.2⟩)]
theorem X05.p(a0:(List U6q))(a1:Int)(a2:Unit)(h:(pBsC a0 a1 a2)):X05.F a0 a1 a2:=by
 delta X05.F ln tN wI dC eQ gA iB rE rU vI vL;simp only[Bs,B0,B1,Yaa,X01,Xl6,Yay];obtain⟨hp,ht0,ht1,hl⟩:=h;refine⟨⟨by omega,by omega,by omega,by simp,λk h1 h2=>by omega⟩,?_⟩;rintro⟨i,j⟩ hI;simp only at hI ⊢;have q1:=hI.h1;have q2:=hI.h2;have q3:=hI.h3;refine⟨λhij=>?_,λhij=>?_⟩
 . rw[w64 (x:=i+j) (by omega) (by omega),wu64 (x:=i+j) (by omega) (by omega),half (by omega) (by omega),w64 (x:=(i+j) / 2) (by omega) (by omega)];have hk:=Xvv hp (i:=((i+j) / 2).toNat) (by omega);rw[w64 (x:=(a0.getD ((i+j) / 2).toNat ((0,(0,(0,(0,(0,[]))))):X7a)).1 - a1) (by omega) (by omega),w64 (x:=(i+j) / 2+1) (by omega) (by omega)];refine⟨by omega,by omega,by omega,λh1=>⟨Xvq hp hI (by omega) (by omega) (by omega),by unfold XwN;omega⟩,λh1=>⟨XvM hp hI (by omega) (by omega) (by omega),by unfold XwN;omega⟩⟩
 . obtain⟨e1,e2⟩:=XoM hp hI hij;have e3:((i.toNat:Nat):Int)=i:=by omega
   refine⟨λh1=>⟨by omega,by omega,?_⟩,λh1=>?_⟩
   . have hk:=Xvv hp (i:=i.toNat) (by omega);rw[w64 (by omega) (by omega)];simp only[XuQ,e1,e2,e3,Yaz h1,YaQ,Yaa,Ybw,Ybm];rw[Ybq];simp;omega
   . simp only[XuQ,e1,e2,e3,Yav h1,Ybk]
def X05.e:GE:=mE X0D func99 [3,4] [X1m.e] [] (λi x=>X05.L x.1 x.2.1 x.2.2) (λi x=>X05.F x.1 x.2.1 x.2.2) λi x h _ _=>X05.p x.1 x.2.1 x.2.2 h
def X7w:Con:=cQ (.pair (.list T1q) (.int .i64)) [.one,.one] Xpe [(false,1),(false,1)] (λa=>(Xh6 a.1 a.2)) λa=>(X5R a.1 a.2)
def X2h.F(a0:(List U6q))(a1:Int):Prop:=pBsC a0 a1 ()/\∀r1,Eq r1 (XuQ a0 a1 (),(),())->Eq ((r1.1.1,r1.1.2),(),()) (X5R a0 a1,(),())
theorem X2h.p(a0:(List U6q))(a1:Int)(h:(Xh6 a0 a1)):X2h.F a0 a1:=by
 unfold X2h.F;simp only[Bs,B0,B1,Yaa,X01,Yay];obtain⟨hs,h1,h2⟩:=h;obtain⟨r1,r2,r3⟩:=Xrg hs;exact⟨⟨r1,by omega,by omega,by omega⟩,rfl⟩
def X2h.e:GE:=mE X7w func61 [3,4] [X05.e,X1m.e] [] noL (λi x=>X2h.F x.1 x.2) λi x h _ _=>X2h.p x.1 x.2 h
def Xbz:Con:=cQ (.pair T4q (.int .i64)) [.agg 8,.one] (.pair (.int .i64) Xiy) [(false,1),(true,4)] (λa=>(XcX a.1 a.2)) λa=>(X4k a.1 a.2)
def X5i.F(a0:U2q)(a1:Int):Prop:=Xh6 a0.2.2.2.2.2 a1/\∀r1,Eq r1 (X5R a0.2.2.2.2.2 a1,(),())->X00 (!r1.1.2) (Eq ((0,0,0,0,[]),(),()) (X4k a0 a1,(),())) (0<=r1.1.1/\r1.1.1<ln a0.2.2.2.2.2/\0<=r1.1.1/\r1.1.1<ln a0.2.2.2.2.2/\Eq (((List.getD a0.2.2.2.2.2 (tN r1.1.1) (0,0,0,0,0,[])).2.1,(List.getD a0.2.2.2.2.2 (tN r1.1.1) (0,0,0,0,0,[])).2.2.1,(List.getD a0.2.2.2.2.2 (tN r1.1.1) (0,0,0,0,0,[])).2.2.2.1,(List.getD a0.2.2.2.2.2 (tN r1.1.1) (0,0,0,0,0,[])).2.2.2.2.1,(List.getD a0.2.2.2.2.2 (tN r1.1.1) (0,0,0,0,0,[])).2.2.2.2.2),(),()) (X4k a0 a1,(),()))
theorem X5i.p(a0:U2q)(a1:Int)(h:(XcX a0 a1)):X5i.F a0 a1:=by
 delta X5i.F ln tN;simp only[Bs,B0,B1,Yaa,X01,Yay];have hi:=Xtl (show Xh6 a0.2.2.2.2.2 a1 from h);refine⟨h,λc=>?_,λc=>⟨hi.1,hi.2.2 c,hi.1,hi.2.2 c,?_⟩⟩
 . have c:(X5R a0.2.2.2.2.2 a1).2=false:=c;unfold X4k Xng;rw[Yae (by rw[c];decide)];rfl
 . have c:(X5R a0.2.2.2.2.2 a1).2=true:=c;unfold X4k Xng;rw[Yah c];rfl
def X5i.e:GE:=mE Xbz func59 [3,42] [X2h.e] [] noL (λi x=>X5i.F x.1 x.2) λi x h _ _=>X5i.p x.1 x.2 h
def X7z:Con:=cQ (.pair T4q (.int .i64)) [.agg 8,.one] Xpe [(false,1),(false,1)] (λa=>(XcX a.1 a.2)) λa=>(XgI a.1 a.2)
def X1s.F(a0:U2q)(a1:Int):Prop:=eQ [(1,vI a1),(2,.box 3 0)]/\s12I a0 a1 0 a0.1 a0.2.1 a0.2.2.1 a0.2.2.2.1 a0.2.2.2.2.1.1 a0.2.2.2.2.1.2.1 a0.2.2.2.2.1.2.2 a0.2.2.2.2.2/\∀(y1:Int×Int×Int×Int×U8q×Int×List U3q×List U7q×List U6q),s12I a0 a1 y1.1 y1.2.1 y1.2.2.1 y1.2.2.2.1 y1.2.2.2.2.1 y1.2.2.2.2.2.1 y1.2.2.2.2.2.2.1 y1.2.2.2.2.2.2.2.1 y1.2.2.2.2.2.2.2.2->dC (y1.1<ln y1.2.2.2.2.2.2.2.2) (iB y1.1 y1.2.2.2.2.2.2.2.2 (dC ((gA y1.2.2.2.2.2.2.2.2 y1.1 (0,0,0,0,0,[])).1>=a1) (iB y1.1 y1.2.2.2.2.2.2.2.2 (rE (y1.1,(gA y1.2.2.2.2.2.2.2.2 y1.1 (0,0,0,0,0,[])).1==a1) (XgI a0 a1))) (eQ [(1,vI a1),(2,.box 3 0)]/\s12I a0 a1 (wI (y1.1+1)) y1.2.1 y1.2.2.1 y1.2.2.2.1 y1.2.2.2.2.1 y1.2.2.2.2.2.1 y1.2.2.2.2.2.2.1 y1.2.2.2.2.2.2.2.1 y1.2.2.2.2.2.2.2.2/\s12M a0 a1 (wI (y1.1+1)) y1.2.1 y1.2.2.1 y1.2.2.2.1 y1.2.2.2.2.1 y1.2.2.2.2.2.1 y1.2.2.2.2.2.2.1 y1.2.2.2.2.2.2.2.1 y1.2.2.2.2.2.2.2.2<s12M a0 a1 y1.1 y1.2.1 y1.2.2.1 y1.2.2.2.1 y1.2.2.2.2.1 y1.2.2.2.2.2.1 y1.2.2.2.2.2.2.1 y1.2.2.2.2.2.2.2.1 y1.2.2.2.2.2.2.2.2))) (rE (ln y1.2.2.2.2.2.2.2.2,false) (XgI a0 a1))
def X1s.L(a0:U2q)(a1:Int):Nat->Option X0f:=XLK [(26,⟨⟨[1,2],[6],[3],[]⟩,XyI,λst y=>s12I a0 a1 y.1 y.2.1 y.2.2.1 y.2.2.2.1 y.2.2.2.2.1 y.2.2.2.2.2.1 y.2.2.2.2.2.2.1 y.2.2.2.2.2.2.2.1 y.2.2.2.2.2.2.2.2,λst y=>s12M a0 a1 y.1 y.2.1 y.2.2.1 y.2.2.2.1 y.2.2.2.2.1 y.2.2.2.2.2.1 y.2.2.2.2.2.2.1 y.2.2.2.2.2.2.2.1 y.2.2.2.2.2.2.2.2⟩)]
theorem X1s.p(a0:U2q)(a1:Int)(h:(XcX a0 a1)):X1s.F a0 a1:=by
 delta X1s.F ln wI dC eQ gA iB rE vI tN;simp only[Bs,B0,B1,Yaa,X01,Yay];obtain⟨hs,t1,t2⟩:=h;obtain⟨hR,r2,r3⟩:=Xrg hs;refine⟨⟨rfl,⟨by omega,by omega,by omega,by simp,λk h1 h2=>by omega⟩⟩,?_⟩;rintro⟨i,k,hd,mk,bk,fl,ca,fi,se⟩ ⟨ea,hI⟩;simp only at ea hI ⊢;subst ea;simp only at*;have q1:=hI.h1;have q2:=hI.h2;rw[w64 (x:=i+1) (by omega) (by omega)];refine⟨λhi=>⟨q1,hi,λg=>⟨q1,hi,?_⟩,λg=>⟨⟨rfl,Xvq hR hI (Int.le_refl _) hi (by first | omega | (simp only;omega))⟩,by unfold s12M;simp only;omega⟩⟩,λhi=>?_⟩
 . obtain⟨e1,e2⟩:=XoM hR (XvM hR hI (Int.le_refl _) hi (by first | omega | (simp only;omega))) (by omega);unfold XgI X5R XuQ;simp only;rw[e1,e2,Yaz hi,YaQ];exact Prod.ext (by simp only;omega) (by simp only;rw[Ybq];simp)
 . obtain⟨e1,e2⟩:=XoM hR hI hi;unfold XgI X5R XuQ;simp only;rw[e1,e2,Yav hi,Ybk];exact Prod.ext (by simp only;omega) rfl
def X1s.e:GE:=mE X7z func45 [3,4] [] [] (λi x=>X1s.L x.1 x.2) (λi x=>X1s.F x.1 x.2) λi x h _ _=>X1s.p x.1 x.2 h
def XaG:Con:=cQ (.pair T4q (.int .i64)) [.agg 8,.one] (.pair (.int .i64) Xiy) [(false,1),(true,4)] (λa=>(XcX a.1 a.2)) λa=>(X4k a.1 a.2)
def X4N.F(a0:U2q)(a1:Int):Prop:=XcX (a0.1,a0.2.1,a0.2.2.1,a0.2.2.2.1,(a0.2.2.2.2.1.1,a0.2.2.2.2.1.2.1,a0.2.2.2.2.1.2.2),a0.2.2.2.2.2) a1/\∀r1,Eq r1 (XgI (a0.1,a0.2.1,a0.2.2.1,a0.2.2.2.1,(a0.2.2.2.2.1.1,a0.2.2.2.2.1.2.1,a0.2.2.2.2.1.2.2),a0.2.2.2.2.2) a1,(),())->X00 (!r1.1.2) (Eq ((0,0,0,0,[]),(),()) (X4k a0 a1,(),())) (0<=r1.1.1/\r1.1.1<ln a0.2.2.2.2.2/\0<=r1.1.1/\r1.1.1<ln a0.2.2.2.2.2/\Eq (((List.getD a0.2.2.2.2.2 (tN r1.1.1) (0,0,0,0,0,[])).2.1,(List.getD a0.2.2.2.2.2 (tN r1.1.1) (0,0,0,0,0,[])).2.2.1,(List.getD a0.2.2.2.2.2 (tN r1.1.1) (0,0,0,0,0,[])).2.2.2.1,(List.getD a0.2.2.2.2.2 (tN r1.1.1) (0,0,0,0,0,[])).2.2.2.2.1,(List.getD a0.2.2.2.2.2 (tN r1.1.1) (0,0,0,0,0,[])).2.2.2.2.2),(),()) (X4k a0 a1,(),()))
theorem X4N.p(a0:U2q)(a1:Int)(h:(XcX a0 a1)):X4N.F a0 a1:=by
 delta X4N.F ln tN;simp only[Bs,B0,B1,Yaa,X01,Yay];have hi:=Xtl (show Xh6 a0.2.2.2.2.2 a1 from h);refine⟨h,λc=>?_,λc=>⟨hi.1,hi.2.2 c,hi.1,hi.2.2 c,?_⟩⟩
 . have c:(X5R a0.2.2.2.2.2 a1).2=false:=c;unfold X4k Xng;rw[Yae (by rw[c];decide)];rfl
 . have c:(X5R a0.2.2.2.2.2 a1).2=true:=c;unfold X4k Xng;rw[Yah c];rfl
def X4N.e:GE:=mE XaG func43 [3,42] [X1s.e] [] noL (λi x=>X4N.F x.1 x.2) λi x h _ _=>X4N.p x.1 x.2 h
def Xcd:Con:=cW XvK [.agg 8,.one,.one,.agg 5,.one] (.pair T4q (.pair Xiy .bool)) [(true,8),(true,4),(false,1)] [(3,78),(5,115),(6,9),(7,73)] (λa=>(XhE a.1 a.2.1 a.2.2.1 a.2.2.2.1 a.2.2.2.2)) λa=>(X4f a.1 a.2.1 a.2.2.1 a.2.2.2.1 a.2.2.2.2)
def X5K.F(a0:U2q)(a1:Int)(a2:Int)(a3:XbM)(a4:Int):Prop:=True/\∀r1,Eq r1 ((λa=>fIn a 1 4) a1,(),())->X00 (!r1.1) (Xa7 (a0.1,a0.2.1,a0.2.2.1,a0.2.2.2.1,(a0.2.2.2.2.1.1,a0.2.2.2.2.1.2.1,a0.2.2.2.2.1.2.2),a0.2.2.2.2.2)/\∀r2,Eq r2 (Xda (a0.1,a0.2.1,a0.2.2.1,a0.2.2.2.1,(a0.2.2.2.2.1.1,a0.2.2.2.2.1.2.1,a0.2.2.2.2.1.2.2),a0.2.2.2.2.2),(),())->Eq (((r2.1.1,r2.1.2.1,r2.1.2.2.1,r2.1.2.2.2.1,(r2.1.2.2.2.2.1.1,r2.1.2.2.2.2.1.2.1,r2.1.2.2.2.2.1.2.2),r2.1.2.2.2.2.2),(0,0,0,[]),false),(),()) (X4f a0 a1 a2 a3 a4,(),())) (True/\∀r3,Eq r3 ((λa=>fIn a 1 1000000) a2,(),())->X00 (!r3.1) (Xa7 (a0.1,a0.2.1,a0.2.2.1,a0.2.2.2.1,(a0.2.2.2.2.1.1,a0.2.2.2.2.1.2.1,a0.2.2.2.2.1.2.2),a0.2.2.2.2.2)/\∀r4,Eq r4 (Xda (a0.1,a0.2.1,a0.2.2.1,a0.2.2.2.1,(a0.2.2.2.2.1.1,a0.2.2.2.2.1.2.1,a0.2.2.2.2.1.2.2),a0.2.2.2.2.2),(),())->Eq (((r4.1.1,r4.1.2.1,r4.1.2.2.1,r4.1.2.2.2.1,(r4.1.2.2.2.2.1.1,r4.1.2.2.2.2.1.2.1,r4.1.2.2.2.2.1.2.2),r4.1.2.2.2.2.2),(0,0,0,[]),false),(),()) (X4f a0 a1 a2 a3 a4,(),())) (True/\∀r5,Eq r5 (fIn a4 1 100000,(),())->X00 (!r5.1) (Xa7 (a0.1,a0.2.1,a0.2.2.1,a0.2.2.2.1,(a0.2.2.2.2.1.1,a0.2.2.2.2.1.2.1,a0.2.2.2.2.1.2.2),a0.2.2.2.2.2)/\∀r6,Eq r6 (Xda (a0.1,a0.2.1,a0.2.2.1,a0.2.2.2.1,(a0.2.2.2.2.1.1,a0.2.2.2.2.1.2.1,a0.2.2.2.2.1.2.2),a0.2.2.2.2.2),(),())->Eq (((r6.1.1,r6.1.2.1,r6.1.2.2.1,r6.1.2.2.2.1,(r6.1.2.2.2.2.1.1,r6.1.2.2.2.2.1.2.1,r6.1.2.2.2.2.1.2.2),r6.1.2.2.2.2.2),(0,0,0,[]),false),(),()) (X4f a0 a1 a2 a3 a4,(),())) (XcX (a0.1,a0.2.1,a0.2.2.1,a0.2.2.2.1,(a0.2.2.2.2.1.1,a0.2.2.2.2.1.2.1,a0.2.2.2.2.1.2.2),a0.2.2.2.2.2) a1/\∀r7,Eq r7 (X4k (a0.1,a0.2.1,a0.2.2.1,a0.2.2.2.1,(a0.2.2.2.2.1.1,a0.2.2.2.2.1.2.1,a0.2.2.2.2.1.2.2),a0.2.2.2.2.2) a1,(),())->X00 (a2==r7.1.1) (Xa7 (a0.1,a0.2.1,a0.2.2.1,a0.2.2.2.1,(a0.2.2.2.2.1.1,a0.2.2.2.2.1.2.1,a0.2.2.2.2.1.2.2),a0.2.2.2.2.2)/\∀r8,Eq r8 (Xda (a0.1,a0.2.1,a0.2.2.1,a0.2.2.2.1,(a0.2.2.2.2.1.1,a0.2.2.2.2.1.2.1,a0.2.2.2.2.1.2.2),a0.2.2.2.2.2),(),())->Eq (((r8.1.1,r8.1.2.1,r8.1.2.2.1,r8.1.2.2.2.1,(r8.1.2.2.2.2.1.1,r8.1.2.2.2.2.1.2.1,r8.1.2.2.2.2.1.2.2),r8.1.2.2.2.2.2),(r7.1.2.1,r7.1.2.2.1,r7.1.2.2.2.1,r7.1.2.2.2.2),false),(),()) (X4f a0 a1 a2 a3 a4,(),())) (X00 (a2 !=wI (r7.1.1+(1:Int))) (Xa7 (a0.1,a0.2.1,a0.2.2.1,a0.2.2.2.1,(a0.2.2.2.2.1.1,a0.2.2.2.2.1.2.1,a0.2.2.2.2.1.2.2),a0.2.2.2.2.2)/\∀r9,Eq r9 (Xda (a0.1,a0.2.1,a0.2.2.1,a0.2.2.2.1,(a0.2.2.2.2.1.1,a0.2.2.2.2.1.2.1,a0.2.2.2.2.1.2.2),a0.2.2.2.2.2),(),())->Eq (((r9.1.1,r9.1.2.1,r9.1.2.2.1,r9.1.2.2.2.1,(r9.1.2.2.2.2.1.1,r9.1.2.2.2.2.1.2.1,r9.1.2.2.2.2.1.2.2),r9.1.2.2.2.2.2),(0,0,0,[]),false),(),()) (X4f a0 a1 a2 a3 a4,(),())) (Xuh (a0.1,a0.2.1,a0.2.2.1,a0.2.2.2.1,(a0.2.2.2.2.1.1,a0.2.2.2.2.1.2.1,a0.2.2.2.2.1.2.2),a0.2.2.2.2.2) (a3.1,a3.2.1,a3.2.2.1,a3.2.2.2.1,a3.2.2.2.2)/\∀r10,Eq r10 (X96 (a0.1,a0.2.1,a0.2.2.1,a0.2.2.2.1,(a0.2.2.2.2.1.1,a0.2.2.2.2.1.2.1,a0.2.2.2.2.1.2.2),a0.2.2.2.2.2) (a3.1,a3.2.1,a3.2.2.1,a3.2.2.2.1,a3.2.2.2.2),(),())->Xh6 r10.1.1.2.2.2.2.2 a1/\∀r11,Eq r11 (X5R r10.1.1.2.2.2.2.2 a1,(),())->X00 r11.1.2 (0<=r11.1.1/\r11.1.1<ln r10.1.1.2.2.2.2.2/\Eq (((r10.1.1.1,r10.1.1.2.1,r10.1.1.2.2.1,r10.1.1.2.2.2.1,(r10.1.1.2.2.2.2.1.1,r10.1.1.2.2.2.2.1.2.1,r10.1.1.2.2.2.2.1.2.2),List.set r10.1.1.2.2.2.2.2 (tN r11.1.1) (a1,a2,r10.1.2.1,a4,r10.1.2.2.2.1,r10.1.2.2.2.2)),(r10.1.2.1,a4,r10.1.2.2.2.1,r10.1.2.2.2.2),true),(),()) (X4f a0 a1 a2 a3 a4,(),())) (X3E r10.1.1.2.2.2.2.2 r11.1.1 [(a1,a2,r10.1.2.1,a4,r10.1.2.2.2.1,r10.1.2.2.2.2)]/\∀r12,Eq r12 (X3B r10.1.1.2.2.2.2.2 r11.1.1 [(a1,a2,r10.1.2.1,a4,r10.1.2.2.2.1,r10.1.2.2.2.2)],(),())->Eq (((r10.1.1.1,r10.1.1.2.1,r10.1.1.2.2.1,r10.1.1.2.2.2.1,(r10.1.1.2.2.2.2.1.1,r10.1.1.2.2.2.2.1.2.1,r10.1.1.2.2.2.2.1.2.2),r12.1),(r10.1.2.1,a4,r10.1.2.2.2.1,r10.1.2.2.2.2),true),(),()) (X4f a0 a1 a2 a3 a4,(),())))))))
theorem X5K.p(a0:U2q)(a1:Int)(a2:Int)(a3:XbM)(a4:Int)(h:(XhE a0 a1 a2 a3 a4)):X5K.F a0 a1 a2 a3 a4:=by
 delta X5K.F ln tN wI;simp only[Bs,B0,B1,Yaa,X01,Yay];obtain⟨hS,hp,hk⟩:=id h;have hc:=Xhf hS;have hse:=Xoc hS;obtain⟨E1,E2,E3,E4⟩:=XmR a0 a1 a2 a3 a4;refine⟨λc=>⟨hc,(E1 λq=>by have:=q.1;rw[show X9M a1=false from c]at this;cases this).symm⟩,λc1=>⟨λc=>⟨hc,(E1 λq=>by have:=q.2.1;rw[show X9r a2=false from c]at this;cases this).symm⟩,λc2=>⟨λc=>⟨hc,(E1 λq=>by have:=q.2.2;rw[c]at this;cases this).symm⟩,λc3=>?_⟩⟩⟩;have ok:X9M a1=true/\X9r a2=true/\fIn a4 1 100000=true:=⟨c1,c2,c3⟩
 have hcl:=X0R.1 c1;have hs12:Xh6 a0.2.2.2.2.2 a1:=⟨hse,hcl.1,hcl.2⟩
 have hi:=Xtl hs12;obtain⟨_,r4,_⟩:=Xrg hse;have hl:0<=(X4k a0 a1).1/\(X4k a0 a1).1<=1000000:=Xsu hs12;have hds:=XoI a0 a3;have hP:∀L:List X7a,∀X:Int×Ans,XwT L (a1,X)=if (X5R L a1).2=true then L.set (X5R L a1).1.toNat (a1,X) else L.take (X5R L a1).1.toNat++([(a1,X)]++L.drop (X5R L a1).1.toNat):=λ_ _=>rfl;rw[w64 (x:=(X4k a0 a1).1+1) (by omega) (by omega)];refine⟨hs12,λq=>⟨hc,(E2 ok q).symm⟩,λq=>⟨λr=>⟨hc,(E3 ok q r).symm⟩,λr=>⟨⟨hS,hp,hk⟩,by show Xh6 (X96 a0 a3).1.2.2.2.2.2 a1;rw[hds];exact hs12,λt=>?_,λt=>?_⟩⟩⟩
 . have t:(X5R (X96 a0 a3).1.2.2.2.2.2 a1).2=true:=t;rw[E4 ok q r,hP,Yah t];rw[hds]at t ⊢;exact⟨hi.1,hi.2.2 t,rfl⟩
 . rw[E4 ok q r,hP,Yae (by rw[t];decide)];rw[hds];exact⟨⟨hi.1,hi.2.1,by simp,by simp only[Yad,Yai];omega⟩,rfl⟩
def X5K.e:GE:=mE Xcd func24 [40,42,4] [X0X.e,X3e.e,X3h.e,X2H.e,X5i.e,X3N.e,X2h.e,X2G.e] [] noL (λi x=>X5K.F x.1 x.2.1 x.2.2.1 x.2.2.2.1 x.2.2.2.2) λi x h _ _=>X5K.p x.1 x.2.1 x.2.2.1 x.2.2.2.1 x.2.2.2.2 h
def Xcx:Con:=cW XvK [.agg 8,.one,.one,.agg 5,.one] (.pair T4q (.pair Xiy .bool)) [(true,8),(true,4),(false,1)] [(3,78),(5,115),(6,9),(7,73)] (λa=>(XhS a.1 a.2.1 a.2.2.1 a.2.2.2.1 a.2.2.2.2)) λa=>(X93 a.1 a.2.1 a.2.2.1 a.2.2.2.1 a.2.2.2.2)
def X5W.F(a0:U2q)(a1:Int)(a2:Int)(a3:XbM)(a4:Int):Prop:=pSt (a0.1,a0.2.1,a0.2.2.1,a0.2.2.2.1,(a0.2.2.2.2.1.1,a0.2.2.2.2.1.2.1,a0.2.2.2.2.1.2.2),a0.2.2.2.2.2)/\∀r1,Eq r1 (X2U (a0.1,a0.2.1,a0.2.2.1,a0.2.2.2.1,(a0.2.2.2.2.1.1,a0.2.2.2.2.1.2.1,a0.2.2.2.2.1.2.2),a0.2.2.2.2.2),(),())->X00 (!r1.1) (Eq (((0,0,0,([]:U8q),(0,([]:List U3q),([]:List U7q)),([]:List U6q)),(0,0,0,[]),false),(),()) (X93 a0 a1 a2 a3 a4,(),())) (XhE (a0.1,a0.2.1,a0.2.2.1,a0.2.2.2.1,(a0.2.2.2.2.1.1,a0.2.2.2.2.1.2.1,a0.2.2.2.2.1.2.2),a0.2.2.2.2.2) a1 a2 (a3.1,a3.2.1,a3.2.2.1,a3.2.2.2.1,a3.2.2.2.2) a4/\∀r2,Eq r2 (X4f (a0.1,a0.2.1,a0.2.2.1,a0.2.2.2.1,(a0.2.2.2.2.1.1,a0.2.2.2.2.1.2.1,a0.2.2.2.2.1.2.2),a0.2.2.2.2.2) a1 a2 (a3.1,a3.2.1,a3.2.2.1,a3.2.2.2.1,a3.2.2.2.2) a4,(),())->Eq (((r2.1.1.1,r2.1.1.2.1,r2.1.1.2.2.1,r2.1.1.2.2.2.1,(r2.1.1.2.2.2.2.1.1,r2.1.1.2.2.2.2.1.2.1,r2.1.1.2.2.2.2.1.2.2),r2.1.1.2.2.2.2.2),(r2.1.2.1.1,r2.1.2.1.2.1,r2.1.2.1.2.2.1,r2.1.2.1.2.2.2),r2.1.2.2),(),()) (X93 a0 a1 a2 a3 a4,(),()))
theorem X5W.p(a0:U2q)(a1:Int)(a2:Int)(a3:XbM)(a4:Int)(h:(XhS a0 a1 a2 a3 a4)):X5W.F a0 a1 a2 a3 a4:=by
 unfold X5W.F;simp only[Bs,B0,B1,Yaa,X01,Yay];have h:pDo a0 a3:=h;unfold X93;refine⟨h.1,λc=>?_,λc=>⟨⟨c,h.1,h.2⟩,?_⟩⟩
 . rw[Yae (by rw[c];decide)];rfl
 . rw[Yah c]
def X5W.e:GE:=mE Xcx func9 [40,42,4] [X4w.e,X5K.e] [] noL (λi x=>X5W.F x.1 x.2.1 x.2.2.1 x.2.2.2.1 x.2.2.2.2) λi x h _ _=>X5W.p x.1 x.2.1 x.2.2.1 x.2.2.2.1 x.2.2.2.2 h
def X9V:Con:={A:=XvK,shA:=[.agg 8,.one,.one,.agg 5,.one],ownA:=[(3,78),(5,115),(6,9),(7,73)],R:=(.pair T4q (.pair Xiy .bool)),shR:=[(true,8),(true,4),(false,1)],pre:=λ_ a=>(XhE a.1 a.2.1 a.2.2.1 a.2.2.2.1 a.2.2.2.2),f:=some λ_ a=>((X4f a.1 a.2.1 a.2.2.1 a.2.2.2.1 a.2.2.2.2),((),()))}
def X3L.F(a0:U2q)(a1:Int)(a2:Int)(a3:XbM)(a4:Int):Prop:=True/\∀r1,Eq r1 (fIn a1 1 4,(),())->X00 (!r1.1) (Eq (((a0.1,a0.2.1,a0.2.2.1,a0.2.2.2.1,(a0.2.2.2.2.1.1,a0.2.2.2.2.1.2.1,a0.2.2.2.2.1.2.2),a0.2.2.2.2.2),(0,0,0,[]),false),(),()) (X4f a0 a1 a2 a3 a4,(),())) (True/\∀r2,Eq r2 (fIn a2 1 1000000,(),())->X00 (!r2.1) (Eq (((a0.1,a0.2.1,a0.2.2.1,a0.2.2.2.1,(a0.2.2.2.2.1.1,a0.2.2.2.2.1.2.1,a0.2.2.2.2.1.2.2),a0.2.2.2.2.2),(0,0,0,[]),false),(),()) (X4f a0 a1 a2 a3 a4,(),())) (True/\∀r3,Eq r3 (fIn a4 1 100000,(),())->X00 (!r3.1) (Eq (((a0.1,a0.2.1,a0.2.2.1,a0.2.2.2.1,(a0.2.2.2.2.1.1,a0.2.2.2.2.1.2.1,a0.2.2.2.2.1.2.2),a0.2.2.2.2.2),(0,0,0,[]),false),(),()) (X4f a0 a1 a2 a3 a4,(),())) (XcX (a0.1,a0.2.1,a0.2.2.1,a0.2.2.2.1,(a0.2.2.2.2.1.1,a0.2.2.2.2.1.2.1,a0.2.2.2.2.1.2.2),a0.2.2.2.2.2) a1/\∀r4,Eq r4 (X4k (a0.1,a0.2.1,a0.2.2.1,a0.2.2.2.1,(a0.2.2.2.2.1.1,a0.2.2.2.2.1.2.1,a0.2.2.2.2.1.2.2),a0.2.2.2.2.2) a1,(),())->X00 (a2==r4.1.1) (Eq (((a0.1,a0.2.1,a0.2.2.1,a0.2.2.2.1,(a0.2.2.2.2.1.1,a0.2.2.2.2.1.2.1,a0.2.2.2.2.1.2.2),a0.2.2.2.2.2),(r4.1.2.1,r4.1.2.2.1,r4.1.2.2.2.1,r4.1.2.2.2.2),false),(),()) (X4f a0 a1 a2 a3 a4,(),())) (X00 (a2 !=wI (r4.1.1+(1:Int))) (Eq (((a0.1,a0.2.1,a0.2.2.1,a0.2.2.2.1,(a0.2.2.2.2.1.1,a0.2.2.2.2.1.2.1,a0.2.2.2.2.1.2.2),a0.2.2.2.2.2),(0,0,0,[]),false),(),()) (X4f a0 a1 a2 a3 a4,(),())) (Xuh (a0.1,a0.2.1,a0.2.2.1,a0.2.2.2.1,(a0.2.2.2.2.1.1,a0.2.2.2.2.1.2.1,a0.2.2.2.2.1.2.2),a0.2.2.2.2.2) (a3.1,a3.2.1,a3.2.2.1,a3.2.2.2.1,a3.2.2.2.2)/\∀r5,Eq r5 (X96 (a0.1,a0.2.1,a0.2.2.1,a0.2.2.2.1,(a0.2.2.2.2.1.1,a0.2.2.2.2.1.2.1,a0.2.2.2.2.1.2.2),a0.2.2.2.2.2) (a3.1,a3.2.1,a3.2.2.1,a3.2.2.2.1,a3.2.2.2.2),(),())->XcX (r5.1.1.1,r5.1.1.2.1,r5.1.1.2.2.1,r5.1.1.2.2.2.1,(r5.1.1.2.2.2.2.1.1,r5.1.1.2.2.2.2.1.2.1,r5.1.1.2.2.2.2.1.2.2),r5.1.1.2.2.2.2.2) a1/\∀r6,Eq r6 (XgI (r5.1.1.1,r5.1.1.2.1,r5.1.1.2.2.1,r5.1.1.2.2.2.1,(r5.1.1.2.2.2.2.1.1,r5.1.1.2.2.2.2.1.2.1,r5.1.1.2.2.2.2.1.2.2),r5.1.1.2.2.2.2.2) a1,(),())->X00 r6.1.2 (0<=r6.1.1/\r6.1.1<ln r5.1.1.2.2.2.2.2/\Eq (((r5.1.1.1,r5.1.1.2.1,r5.1.1.2.2.1,r5.1.1.2.2.2.1,(r5.1.1.2.2.2.2.1.1,r5.1.1.2.2.2.2.1.2.1,r5.1.1.2.2.2.2.1.2.2),List.set r5.1.1.2.2.2.2.2 (tN r6.1.1) (a1,a2,r5.1.2.1,a4,r5.1.2.2.2.1,r5.1.2.2.2.2)),(r5.1.2.1,a4,r5.1.2.2.2.1,r5.1.2.2.2.2),true),(),()) (X4f a0 a1 a2 a3 a4,(),())) (0<=r6.1.1/\r6.1.1<=ln r5.1.1.2.2.2.2.2/\List.length ([]:List U6q)+List.length (List.drop 0 (List.take (tN r6.1.1) r5.1.1.2.2.2.2.2))<=9223372036854775807/\(List.length ([]:List U6q)+List.length (List.drop 0 (List.take (tN r6.1.1) r5.1.1.2.2.2.2.2)))*56<=140737488355328/\List.length (([]:List U6q)++List.drop 0 (List.take (tN r6.1.1) r5.1.1.2.2.2.2.2))+List.length [(a1,a2,r5.1.2.1,a4,r5.1.2.2.2.1,r5.1.2.2.2.2)]<=9223372036854775807/\(List.length (([]:List U6q)++List.drop 0 (List.take (tN r6.1.1) r5.1.1.2.2.2.2.2))+List.length [(a1,a2,r5.1.2.1,a4,r5.1.2.2.2.1,r5.1.2.2.2.2)])*56<=140737488355328/\0<=r6.1.1/\r6.1.1<=ln r5.1.1.2.2.2.2.2/\List.length (([]:List U6q)++List.drop 0 (List.take (tN r6.1.1) r5.1.1.2.2.2.2.2)++[(a1,a2,r5.1.2.1,a4,r5.1.2.2.2.1,r5.1.2.2.2.2)])+List.length (List.drop (tN r6.1.1) (List.take (List.length r5.1.1.2.2.2.2.2) r5.1.1.2.2.2.2.2))<=9223372036854775807/\(List.length (([]:List U6q)++List.drop 0 (List.take (tN r6.1.1) r5.1.1.2.2.2.2.2)++[(a1,a2,r5.1.2.1,a4,r5.1.2.2.2.1,r5.1.2.2.2.2)])+List.length (List.drop (tN r6.1.1) (List.take (List.length r5.1.1.2.2.2.2.2) r5.1.1.2.2.2.2.2)))*56<=140737488355328/\Eq (((r5.1.1.1,r5.1.1.2.1,r5.1.1.2.2.1,r5.1.1.2.2.2.1,(r5.1.1.2.2.2.2.1.1,r5.1.1.2.2.2.2.1.2.1,r5.1.1.2.2.2.2.1.2.2),([]:List U6q)++List.drop 0 (List.take (tN r6.1.1) r5.1.1.2.2.2.2.2)++[(a1,a2,r5.1.2.1,a4,r5.1.2.2.2.1,r5.1.2.2.2.2)]++List.drop (tN r6.1.1) (List.take (List.length r5.1.1.2.2.2.2.2) r5.1.1.2.2.2.2.2)),(r5.1.2.1,a4,r5.1.2.2.2.1,r5.1.2.2.2.2),true),(),()) (X4f a0 a1 a2 a3 a4,(),())))))))
theorem X3L.p(a0:U2q)(a1:Int)(a2:Int)(a3:XbM)(a4:Int)(h:(XhE a0 a1 a2 a3 a4)):X3L.F a0 a1 a2 a3 a4:=by
 delta X3L.F ln tN wI;simp only[Bs,B0,B1,Yaa,X01,Yay];obtain⟨hS,hp,hk⟩:=id h;have hc:=Xhf hS;have hse:=Xoc hS;obtain⟨E1,E2,E3,E4⟩:=XmR a0 a1 a2 a3 a4;refine⟨λc=>(E1 λq=>by have:=q.1;rw[show X9M a1=false from c]at this;cases this).symm,λc1=>⟨λc=>(E1 λq=>by have:=q.2.1;rw[show X9r a2=false from c]at this;cases this).symm,λc2=>⟨λc=>(E1 λq=>by have:=q.2.2;rw[c]at this;cases this).symm,λc3=>?_⟩⟩⟩;have ok:X9M a1=true/\X9r a2=true/\fIn a4 1 100000=true:=⟨c1,c2,c3⟩
 have hcl:=X0R.1 c1;have hs12:Xh6 a0.2.2.2.2.2 a1:=⟨hse,hcl.1,hcl.2⟩
 have hi:=Xtl hs12;obtain⟨_,r4,_⟩:=Xrg hse;have hl:0<=(X4k a0 a1).1/\(X4k a0 a1).1<=1000000:=Xsu hs12;have hds:=XoI a0 a3;have hP:∀L:List X7a,∀X:Int×Ans,XwT L (a1,X)=if (X5R L a1).2=true then L.set (X5R L a1).1.toNat (a1,X) else L.take (X5R L a1).1.toNat++([(a1,X)]++L.drop (X5R L a1).1.toNat):=λ_ _=>rfl;rw[w64 (x:=(X4k a0 a1).1+1) (by omega) (by omega)];refine⟨hs12,λq=>(E2 ok q).symm,λq=>⟨λr=>(E3 ok q r).symm,λr=>⟨⟨hS,hp,hk⟩,by show Xh6 (X96 a0 a3).1.2.2.2.2.2 a1;rw[hds];exact hs12,λt=>?_,λt=>?_⟩⟩⟩
 . have t:(X5R (X96 a0 a3).1.2.2.2.2.2 a1).2=true:=t;have eS:XgI (X96 a0 a3).1 a1=X5R a0.2.2.2.2.2 a1:=by show X5R (X96 a0 a3).1.2.2.2.2.2 a1=_;rw[hds]
   rw[eS];rw[E4 ok q r,hP,Yah t];rw[hds]at t ⊢;exact⟨hi.1,hi.2.2 t,rfl⟩
 . have t:(X5R (X96 a0 a3).1.2.2.2.2.2 a1).2=false:=t;have eS:XgI (X96 a0 a3).1 a1=X5R a0.2.2.2.2.2 a1:=by show X5R (X96 a0 a3).1.2.2.2.2.2 a1=_;rw[hds]
   rw[E4 ok q r,hP,Yae (by rw[t];decide),eS];rw[hds];have l1:((a0.2.2.2.2.2).take (X5R a0.2.2.2.2.2 a1).1.toNat).length<=4:=by rw[Yal];omega
   have l2:((a0.2.2.2.2.2).drop (X5R a0.2.2.2.2.2 a1).1.toNat).length<=4:=by rw[Yap];omega
   simp only[YbK,Yat,YaV,Yam];exact⟨hi.1,hi.2.1,by omega,by omega,by omega,by omega,hi.1,hi.2.1,by omega,by omega,rfl⟩
def X3L.e:GE:=mE X9V func18 [40,42,4] [X26.e,X4N.e,Xg9.e,X1s.e] [] noL (λi x=>X3L.F x.1 x.2.1 x.2.2.1 x.2.2.2.1 x.2.2.2.2) λi x h _ _=>X3L.p x.1 x.2.1 x.2.2.1 x.2.2.2.1 x.2.2.2.2 h
def XcL:Con:=cQ XvK [.agg 8,.one,.one,.agg 5,.one] (.pair T4q (.pair Xiy .bool)) [(true,8),(true,4),(false,1)] (λa=>(XhS a.1 a.2.1 a.2.2.1 a.2.2.2.1 a.2.2.2.2)) λa=>(X93 a.1 a.2.1 a.2.2.1 a.2.2.2.1 a.2.2.2.2)
def X5S.F(a0:U2q)(a1:Int)(a2:Int)(a3:XbM)(a4:Int):Prop:=pSt (a0.1,a0.2.1,a0.2.2.1,a0.2.2.2.1,(a0.2.2.2.2.1.1,a0.2.2.2.2.1.2.1,a0.2.2.2.2.1.2.2),a0.2.2.2.2.2)/\∀r1,Eq r1 (X2U (a0.1,a0.2.1,a0.2.2.1,a0.2.2.2.1,(a0.2.2.2.2.1.1,a0.2.2.2.2.1.2.1,a0.2.2.2.2.1.2.2),a0.2.2.2.2.2),(),())->X00 (!r1.1) (Eq (((0,0,0,([]:U8q),(0,([]:List U3q),([]:List U7q)),([]:List U6q)),(0,0,0,[]),false),(),()) (X93 a0 a1 a2 a3 a4,(),())) (Xa7 (a0.1,a0.2.1,a0.2.2.1,a0.2.2.2.1,(a0.2.2.2.2.1.1,a0.2.2.2.2.1.2.1,a0.2.2.2.2.1.2.2),a0.2.2.2.2.2)/\∀r2,Eq r2 (Xda (a0.1,a0.2.1,a0.2.2.1,a0.2.2.2.1,(a0.2.2.2.2.1.1,a0.2.2.2.2.1.2.1,a0.2.2.2.2.1.2.2),a0.2.2.2.2.2),(),())->XhE (r2.1.1,r2.1.2.1,r2.1.2.2.1,r2.1.2.2.2.1,(r2.1.2.2.2.2.1.1,r2.1.2.2.2.2.1.2.1,r2.1.2.2.2.2.1.2.2),r2.1.2.2.2.2.2) a1 a2 (a3.1,a3.2.1,a3.2.2.1,a3.2.2.2.1,a3.2.2.2.2) a4/\∀r3,Eq r3 (X4f (r2.1.1,r2.1.2.1,r2.1.2.2.1,r2.1.2.2.2.1,(r2.1.2.2.2.2.1.1,r2.1.2.2.2.2.1.2.1,r2.1.2.2.2.2.1.2.2),r2.1.2.2.2.2.2) a1 a2 (a3.1,a3.2.1,a3.2.2.1,a3.2.2.2.1,a3.2.2.2.2) a4,(),())->Eq (((r3.1.1.1,r3.1.1.2.1,r3.1.1.2.2.1,r3.1.1.2.2.2.1,(r3.1.1.2.2.2.2.1.1,r3.1.1.2.2.2.2.1.2.1,r3.1.1.2.2.2.2.1.2.2),r3.1.1.2.2.2.2.2),(r3.1.2.1.1,r3.1.2.1.2.1,r3.1.2.1.2.2.1,r3.1.2.1.2.2.2),r3.1.2.2),(),()) (X93 a0 a1 a2 a3 a4,(),()))
theorem X5S.p(a0:U2q)(a1:Int)(a2:Int)(a3:XbM)(a4:Int)(h:(XhS a0 a1 a2 a3 a4)):X5S.F a0 a1 a2 a3 a4:=by
 unfold X5S.F;simp only[Bs,B0,B1,Yaa,X01,Yay,Xda];have h:pDo a0 a3:=h;unfold X93;refine⟨h.1,λc=>?_,λc=>⟨Xhf c,⟨c,h.1,h.2⟩,?_⟩⟩
 . rw[Yae (by rw[c];decide)];rfl
 . rw[Yah c]
def X5S.e:GE:=mE XcL func6 [40,42,4] [X3o.e,X3L.e,X4z.e] [] noL (λi x=>X5S.F x.1 x.2.1 x.2.2.1 x.2.2.2.1 x.2.2.2.2) λi x h _ _=>X5S.p x.1 x.2.1 x.2.2.1 x.2.2.2.1 x.2.2.2.2 h
def Xxy(x:XbM):Nat:=(x.2.1.length)+(x.2.2.2.2.length)
def XsW(x:XbM)(left:Int):Prop:=WfD XnR x/\0<=left/\left<=1048576
def Xjo(x:XbM)(left:Int):Int:=fSz (Xxy x) left
def XdS:Con:=cQ (.pair XnR (.int .i64)) [.agg 5,.one] (.int .i64) [(false,1)] (λa=>(XsW a.1 a.2)) λa=>(Xjo a.1 a.2)
def X6X.F(a0:XbM)(a1:Int):Prop:=X00 (decide (wI (a1 - ln a0.2.1)<(0:Int))) (Eq (-1,(),()) (Xjo a0 a1,(),())) (X00 (decide (wI (wI (a1 - ln a0.2.1) - ln a0.2.2.2.2)<(0:Int))) (Eq (-1,(),()) (Xjo a0 a1,(),())) (Eq (wI (wI (a1 - ln a0.2.1) - ln a0.2.2.2.2),(),()) (Xjo a0 a1,(),())))
theorem X6X.p(a0:XbM)(a1:Int)(h:(XsW a0 a1))(hw:Wf XdS.A (a0,a1)):X6X.F a0 a1:=by
 delta X6X.F ln wI;obtain⟨hwf,p1,p2⟩:=h;have w1:a0.2.1.length<=9223372036854775807:=hwf.2.1;have w4:a0.2.2.2.2.length<=9223372036854775807:=hwf.2.2.2.2;simp only[Bs,B0,B1,Yaa,X01,Xxy,Xjo]
 repeat' (with_reducible (first | (refine And.intro ?_ ?_) | intro _))
 all_goals (try simp (disch:=omega) only[w64,wu8,tn0,tn1,tm1,tm2,Yab,Yad,Yai]at*)
 all_goals (try simp (disch:=omega) only[w64,wu8,tn0,tn1,tm1,tm2,Yab,Yad,Yai]at*)
 all_goals (try omega)
 all_goals (try grind[fSz])
def X6X.e:GE:=mE XdS func5 [3] [] [] noL (λi x=>X6X.F x.1 x.2) λi x h _ hw=>X6X.p x.1 x.2 h hw
def XhY(x:XbM):Prop:=Xxy x<=1048576
def XiU(x:XbM):XbM:=x
def Xe3:Con:=cQ XnR [.agg 5] XnR [(true,5)] (λa=>(XhY a)) λa=>(XiU a)
def X76.F(a0:XbM):Prop:=Eq ((a0.1,a0.2.1,a0.2.2.1,a0.2.2.2.1,a0.2.2.2.2),(),()) (XiU a0,(),())
theorem X76.p(a0:XbM)(h:(XhY a0))(hw:Wf Xe3.A a0):X76.F a0:=by
 unfold X76.F;have hp:Xxy a0<=1048576:=h;simp only[Xxy]at hp;simp only[Bs,B0,B1,Yaa,X01,Xxy,XiU,XhY]
 repeat' (with_reducible (first | (refine And.intro ?_ ?_) | intro _))
 all_goals (try simp (disch:=omega) only[w64,wu8,tn0,tn1,tm1,tm2,Yab,Yad,Yai]at*)
 all_goals (try simp (disch:=omega) only[w64,wu8,tn0,tn1,tm1,tm2,Yab,Yad,Yai]at*)
 all_goals (try omega)
 all_goals (try grind[])
def X76.e:GE:=mE Xe3 func8 [46] [] [] noL (λi x=>X76.F x) λi x h _ hw=>X76.p x h hw
theorem XvO:∀l:List Bkt,cL X0C l=2*l.length
 | []=>by simp[cL]
 | x::l=>by rw[X4C,XvO l,show X0C x=2 from rfl,Yad];omega
theorem XvI:∀l:List X7a,cL X0G l=6*l.length
 | []=>by simp[cL]
 | x::l=>by rw[X4C,XvI l,show X0G x=6 from rfl,Yad];omega
theorem c_of(s:Stt):0<=X5s s/\X5s s<=2*s.2.2.2.1.length+2*tot s.2.2.2.2.1.2.1+s.2.2.2.2.1.2.2.length+6*s.2.2.2.2.2.length:=by
 have h1:=XvO s.2.2.2.1;have h2:=Xsc s.2.2.2.2.1.2.1;have h3:=XvR s.2.2.2.2.1.2.2;have h4:=XvI s.2.2.2.2.2;simp only[X5s];omega
theorem n_c{s:Stt}(h:XcZ s<=1048576):X5s s<=100000000:=by
 have h1:=c_of s;unfold XcZ at h;have h2:=XvD s.2.2.2.2.1.2.1;have h3:X8n s.2.2.2.2.1=nL X3d s.2.2.2.2.1.2.1+nL List.length s.2.2.2.2.1.2.2:=rfl;have h4:=XpN List.length s.2.2.2.2.1.2.2;have h5:=XpN X33 s.2.2.2.2.2;omega
theorem Xte(s:Stt)(o:Opp)(h:s.2.2.2.1.length<=1000):(X8U s o).1.2.2.2.1.length<=1000/\(X8U s o).1.2.2.2.2=s.2.2.2.2:=by
 unfold X8U;split
 . exact⟨h,rfl⟩
 . split
   . exact⟨h,rfl⟩
   . exact⟨by simp only;omega,rfl⟩
theorem Xun(s:Stt)(o:Opp)(h:s.2.2.2.1.length<=1000):(XeF s o).1.2.2.2.1.length<=1000/\(XeF s o).1.2.2.2.2=s.2.2.2.2:=by
 unfold XeF;split
 . exact Xte s o h
 . split
   . split
     . exact⟨YaW (Ycx _ _) h,rfl⟩
     . exact⟨h,rfl⟩
   . exact⟨h,rfl⟩
theorem XiE{s:Stt}{e:Eng}(h:Xa7 s)(he:tot e.2.1<=2000000/\e.2.2.length<=2000000):Xa7 (setE s e):=⟨h.1,⟨by show tot e.2.1<=_;omega,by show e.2.2.length<=_;omega⟩,h.2.2⟩
theorem Xuc{s:Stt}{o:Opp}(h:pDo s o):Xa7 (fDo s o).1:=by
 unfold fDo;split
 . rename_i hS;have hc:=Xhf hS;unfold X96;split
   . split
     . unfold fMt;split
       . obtain⟨m1,m2⟩:=Xun s o hc.1;unfold Xa7;rw[m2];exact⟨m1,hc.2⟩
       . exact hc
     . unfold fSh;split
       . unfold fWr;split
         . exact XiE hc (Xx6 h.1.1)
         . split<;>exact hc
       . split
         . exact hc
         . split
           . exact XiE hc (Xsq _ _)
           . split
             . exact XiE hc (XrC h.1.1)
             . exact hc
   . exact hc
 . exact⟨by simp,⟨by simp[tot,cL],by simp⟩,by simp⟩
theorem Xtj(l:List X7a)(x:X7a):(XwT l x).length<=l.length+1:=by
 unfold XwT;split
 . simp
 . simp only[Yab,Yad,Yai,Yal,Yap];omega
theorem XoF{s:Stt}{c n:Int}{o:Opp}{i:Int}(h:pDo s o):Xa7 (X93 s c n o i).1:=by
 unfold X93;split
 . rename_i hS;have hc:=Xhf hS;unfold X4f;split
   . split
     . exact hc
     . split
       . have hd:=Xuc h;unfold fDo at hd;rw[Yah hS]at hd;obtain⟨d1,d2,d3⟩:=hd;obtain⟨_,h4,_⟩:=Xrg (Xoc hS);refine⟨d1,d2,?_⟩;show(XwT (X96 s o).1.2.2.2.2.2 _).length<=_;rw[XoI];exact YaW (Xtj _ _) (by omega)
       . exact hc
   . exact hc
 . exact⟨by simp,⟨by simp[tot,cL],by simp⟩,by simp⟩
def X2R.F(a0:U2q)(a1:Int)(a2:Int)(a3:XbM)(a4:Int):Prop:=Xjk (a0.1,a0.2.1,a0.2.2.1,a0.2.2.2.1,(a0.2.2.2.2.1.1,a0.2.2.2.2.1.2.1,a0.2.2.2.2.1.2.2),a0.2.2.2.2.2) 1048576/\∀r1,Eq r1 (Xb6 (a0.1,a0.2.1,a0.2.2.1,a0.2.2.2.1,(a0.2.2.2.2.1.1,a0.2.2.2.2.1.2.1,a0.2.2.2.2.1.2.2),a0.2.2.2.2.2) 1048576,(),())->X00 (decide (r1.1<(0:Int))) (Eq (true,(),()) (true,(),())) (XsW (a3.1,a3.2.1,a3.2.2.1,a3.2.2.2.1,a3.2.2.2.2) r1.1/\∀r2,Eq r2 (Xjo (a3.1,a3.2.1,a3.2.2.1,a3.2.2.2.1,a3.2.2.2.2) r1.1,(),())->X00 (decide (r2.1<(0:Int))) (Eq (true,(),()) (true,(),())) (Xb7 (a0.1,a0.2.1,a0.2.2.1,a0.2.2.2.1,(a0.2.2.2.2.1.1,a0.2.2.2.2.1.2.1,a0.2.2.2.2.1.2.2),a0.2.2.2.2.2)/\∀r3,Eq r3 (XaX (a0.1,a0.2.1,a0.2.2.1,a0.2.2.2.1,(a0.2.2.2.2.1.1,a0.2.2.2.2.1.2.1,a0.2.2.2.2.1.2.2),a0.2.2.2.2.2),(),())->XhY (a3.1,a3.2.1,a3.2.2.1,a3.2.2.2.1,a3.2.2.2.2)/\∀r4,Eq r4 (XiU (a3.1,a3.2.1,a3.2.2.1,a3.2.2.2.1,a3.2.2.2.2),(),())->XhS (r3.1.1,r3.1.2.1,r3.1.2.2.1,r3.1.2.2.2.1,(r3.1.2.2.2.2.1.1,r3.1.2.2.2.2.1.2.1,r3.1.2.2.2.2.1.2.2),r3.1.2.2.2.2.2) a1 a2 (r4.1.1,r4.1.2.1,r4.1.2.2.1,r4.1.2.2.2.1,r4.1.2.2.2.2) a4/\∀r5,Eq r5 (X93 (r3.1.1,r3.1.2.1,r3.1.2.2.1,r3.1.2.2.2.1,(r3.1.2.2.2.2.1.1,r3.1.2.2.2.2.1.2.1,r3.1.2.2.2.2.1.2.2),r3.1.2.2.2.2.2) a1 a2 (r4.1.1,r4.1.2.1,r4.1.2.2.1,r4.1.2.2.2.1,r4.1.2.2.2.2) a4,(),())->Xb7 (a0.1,a0.2.1,a0.2.2.1,a0.2.2.2.1,(a0.2.2.2.2.1.1,a0.2.2.2.2.1.2.1,a0.2.2.2.2.1.2.2),a0.2.2.2.2.2)/\∀r6,Eq r6 (XaX (a0.1,a0.2.1,a0.2.2.1,a0.2.2.2.1,(a0.2.2.2.2.1.1,a0.2.2.2.2.1.2.1,a0.2.2.2.2.1.2.2),a0.2.2.2.2.2),(),())->XhY (a3.1,a3.2.1,a3.2.2.1,a3.2.2.2.1,a3.2.2.2.2)/\∀r7,Eq r7 (XiU (a3.1,a3.2.1,a3.2.2.1,a3.2.2.2.1,a3.2.2.2.2),(),())->XhS (r6.1.1,r6.1.2.1,r6.1.2.2.1,r6.1.2.2.2.1,(r6.1.2.2.2.2.1.1,r6.1.2.2.2.2.1.2.1,r6.1.2.2.2.2.1.2.2),r6.1.2.2.2.2.2) a1 a2 (r7.1.1,r7.1.2.1,r7.1.2.2.1,r7.1.2.2.2.1,r7.1.2.2.2.2) a4/\∀r8,Eq r8 (X93 (r6.1.1,r6.1.2.1,r6.1.2.2.1,r6.1.2.2.2.1,(r6.1.2.2.2.2.1.1,r6.1.2.2.2.2.1.2.1,r6.1.2.2.2.2.1.2.2),r6.1.2.2.2.2.2) a1 a2 (r7.1.1,r7.1.2.1,r7.1.2.2.1,r7.1.2.2.2.1,r7.1.2.2.2.2) a4,(),())->True/\∀r9,Eq r9 (X5k (r8.1.1.1,r8.1.1.2.1,r8.1.1.2.2.1,r8.1.1.2.2.2.1,(r8.1.1.2.2.2.2.1.1,r8.1.1.2.2.2.2.1.2.1,r8.1.1.2.2.2.2.1.2.2),r8.1.1.2.2.2.2.2) (r5.1.1.1,r5.1.1.2.1,r5.1.1.2.2.1,r5.1.1.2.2.2.1,(r5.1.1.2.2.2.2.1.1,r5.1.1.2.2.2.2.1.2.1,r5.1.1.2.2.2.2.1.2.2),r5.1.1.2.2.2.2.2),(),())->X00 (!r9.1) (Eq (false,(),()) (true,(),())) (True/\∀r10,Eq r10 (X4T (r8.1.2.1.1,r8.1.2.1.2.1,r8.1.2.1.2.2.1,r8.1.2.1.2.2.2) (r5.1.2.1.1,r5.1.2.1.2.1,r5.1.2.1.2.2.1,r5.1.2.1.2.2.2),(),())->X00 (!r10.1) (Eq (false,(),()) (true,(),())) (X00 (!r8.1.2.2==r5.1.2.2) (Eq (false,(),()) (true,(),())) (Xb7 (a0.1,a0.2.1,a0.2.2.1,a0.2.2.2.1,(a0.2.2.2.2.1.1,a0.2.2.2.2.1.2.1,a0.2.2.2.2.1.2.2),a0.2.2.2.2.2)/\∀r11,Eq r11 (XaX (a0.1,a0.2.1,a0.2.2.1,a0.2.2.2.1,(a0.2.2.2.2.1.1,a0.2.2.2.2.1.2.1,a0.2.2.2.2.1.2.2),a0.2.2.2.2.2),(),())->True/\∀r12,Eq r12 (X5k (r6.1.1,r6.1.2.1,r6.1.2.2.1,r6.1.2.2.2.1,(r6.1.2.2.2.2.1.1,r6.1.2.2.2.2.1.2.1,r6.1.2.2.2.2.1.2.2),r6.1.2.2.2.2.2) (r11.1.1,r11.1.2.1,r11.1.2.2.1,r11.1.2.2.2.1,(r11.1.2.2.2.2.1.1,r11.1.2.2.2.2.1.2.1,r11.1.2.2.2.2.1.2.2),r11.1.2.2.2.2.2),(),())->X00 (!r12.1) (Eq (false,(),()) (true,(),())) (X7c (r6.1.1,r6.1.2.1,r6.1.2.2.1,r6.1.2.2.2.1,(r6.1.2.2.2.2.1.1,r6.1.2.2.2.2.1.2.1,r6.1.2.2.2.2.1.2.2),r6.1.2.2.2.2.2) 1/\∀r13,Eq r13 ((X7P (r6.1.1,r6.1.2.1,r6.1.2.2.1,r6.1.2.2.2.1,(r6.1.2.2.2.2.1.1,r6.1.2.2.2.2.1.2.1,r6.1.2.2.2.2.1.2.2),r6.1.2.2.2.2.2) 1).1,(),(X7P (r6.1.1,r6.1.2.1,r6.1.2.2.1,r6.1.2.2.2.1,(r6.1.2.2.2.2.1.1,r6.1.2.2.2.2.1.2.1,r6.1.2.2.2.2.1.2.2),r6.1.2.2.2.2.2) 1).2)->X00 (decide (r13.1<(0:Int))) (Eq (false,(),()) (true,(),())) (True/\∀r14,Eq r14 (X5k (r8.1.1.1,r8.1.1.2.1,r8.1.1.2.2.1,r8.1.1.2.2.2.1,(r8.1.1.2.2.2.2.1.1,r8.1.1.2.2.2.2.1.2.1,r8.1.1.2.2.2.2.1.2.2),r8.1.1.2.2.2.2.2) (r5.1.1.1,r5.1.1.2.1,r5.1.1.2.2.1,r5.1.1.2.2.2.1,(r5.1.1.2.2.2.2.1.1,r5.1.1.2.2.2.2.1.2.1,r5.1.1.2.2.2.2.1.2.2),r5.1.1.2.2.2.2.2),(),())->X00 (!r14.1) (Eq (false,(),()) (true,(),())) (True/\∀r15,Eq r15 (X4T (r8.1.2.1.1,r8.1.2.1.2.1,r8.1.2.1.2.2.1,r8.1.2.1.2.2.2) (r5.1.2.1.1,r5.1.2.1.2.1,r5.1.2.1.2.2.1,r5.1.2.1.2.2.2),(),())->X00 (!r15.1) (Eq (false,(),()) (true,(),())) (X00 (!r8.1.2.2==r5.1.2.2) (Eq (false,(),()) (true,(),())) (X7c (r8.1.1.1,r8.1.1.2.1,r8.1.1.2.2.1,r8.1.1.2.2.2.1,(r8.1.1.2.2.2.2.1.1,r8.1.1.2.2.2.2.1.2.1,r8.1.1.2.2.2.2.1.2.2),r8.1.1.2.2.2.2.2) 1/\∀r16,Eq r16 ((X7P (r8.1.1.1,r8.1.1.2.1,r8.1.1.2.2.1,r8.1.1.2.2.2.1,(r8.1.1.2.2.2.2.1.1,r8.1.1.2.2.2.2.1.2.1,r8.1.1.2.2.2.2.1.2.2),r8.1.1.2.2.2.2.2) 1).1,(),(X7P (r8.1.1.1,r8.1.1.2.1,r8.1.1.2.2.1,r8.1.1.2.2.2.1,(r8.1.1.2.2.2.2.1.1,r8.1.1.2.2.2.2.1.2.1,r8.1.1.2.2.2.2.1.2.2),r8.1.1.2.2.2.2.2) 1).2)->X7c (r8.1.1.1,r8.1.1.2.1,r8.1.1.2.2.1,r16.2.2.1,(r8.1.1.2.2.2.2.1.1,r16.2.2.2.1,r16.2.2.2.2.1),r16.2.2.2.2.2) 1/\∀r17,Eq r17 (X7R (r8.1.1.1,r8.1.1.2.1,r8.1.1.2.2.1,r16.2.2.1,(r8.1.1.2.2.2.2.1.1,r16.2.2.2.1,r16.2.2.2.2.1),r16.2.2.2.2.2) 1,(),())->X00 (decide (r17.1<(0:Int))) (Eq (false,(),()) (true,(),())) (X00 (r17.1 !=r16.1) (Eq (false,(),()) (true,(),())) (Xb7 (a0.1,a0.2.1,a0.2.2.1,a0.2.2.2.1,(a0.2.2.2.2.1.1,a0.2.2.2.2.1.2.1,a0.2.2.2.2.1.2.2),a0.2.2.2.2.2)/\∀r18,Eq r18 (XaX (a0.1,a0.2.1,a0.2.2.1,a0.2.2.2.1,(a0.2.2.2.2.1.1,a0.2.2.2.2.1.2.1,a0.2.2.2.2.1.2.2),a0.2.2.2.2.2),(),())->XhY (a3.1,a3.2.1,a3.2.2.1,a3.2.2.2.1,a3.2.2.2.2)/\∀r19,Eq r19 (XiU (a3.1,a3.2.1,a3.2.2.1,a3.2.2.2.1,a3.2.2.2.2),(),())->XhS (r18.1.1,r18.1.2.1,r18.1.2.2.1,r18.1.2.2.2.1,(r18.1.2.2.2.2.1.1,r18.1.2.2.2.2.1.2.1,r18.1.2.2.2.2.1.2.2),r18.1.2.2.2.2.2) a1 a2 (r19.1.1,r19.1.2.1,r19.1.2.2.1,r19.1.2.2.2.1,r19.1.2.2.2.2) a4/\∀r20,Eq r20 (X93 (r18.1.1,r18.1.2.1,r18.1.2.2.1,r18.1.2.2.2.1,(r18.1.2.2.2.2.1.1,r18.1.2.2.2.2.1.2.1,r18.1.2.2.2.2.1.2.2),r18.1.2.2.2.2.2) a1 a2 (r19.1.1,r19.1.2.1,r19.1.2.2.1,r19.1.2.2.2.1,r19.1.2.2.2.2) a4,(),())->True/\∀r21,Eq r21 (X5k (r20.1.1.1,r20.1.1.2.1,r20.1.1.2.2.1,r20.1.1.2.2.2.1,(r20.1.1.2.2.2.2.1.1,r20.1.1.2.2.2.2.1.2.1,r20.1.1.2.2.2.2.1.2.2),r20.1.1.2.2.2.2.2) (r5.1.1.1,r5.1.1.2.1,r5.1.1.2.2.1,r5.1.1.2.2.2.1,(r5.1.1.2.2.2.2.1.1,r5.1.1.2.2.2.2.1.2.1,r5.1.1.2.2.2.2.1.2.2),r5.1.1.2.2.2.2.2),(),())->X00 (!r21.1) (Eq (false,(),()) (true,(),())) (True/\∀r22,Eq r22 (X4T (r20.1.2.1.1,r20.1.2.1.2.1,r20.1.2.1.2.2.1,r20.1.2.1.2.2.2) (r5.1.2.1.1,r5.1.2.1.2.1,r5.1.2.1.2.2.1,r5.1.2.1.2.2.2),(),())->X00 (!r22.1) (Eq (false,(),()) (true,(),())) (X00 (!r20.1.2.2==r5.1.2.2) (Eq (false,(),()) (true,(),())) (X7c (r8.1.1.1,r8.1.1.2.1,r8.1.1.2.2.1,r16.2.2.1,(r8.1.1.2.2.2.2.1.1,r16.2.2.2.1,r16.2.2.2.2.1),r16.2.2.2.2.2) 1/\∀r23,Eq r23 (X7R (r8.1.1.1,r8.1.1.2.1,r8.1.1.2.2.1,r16.2.2.1,(r8.1.1.2.2.2.2.1.1,r16.2.2.2.1,r16.2.2.2.2.1),r16.2.2.2.2.2) 1,(),())->X00 (decide (r23.1<(0:Int))) (Eq (false,(),()) (true,(),())) (X00 (r23.1 !=r16.1) (Eq (false,(),()) (true,(),())) (Eq (true,(),()) (true,(),()))))))))))))))))))
theorem X2R.p(a0:U2q)(a1:Int)(a2:Int)(a3:XbM)(a4:Int)(h:WfD XvK (a0,a1,a2,a3,a4))(hw:Wf (Xpi XvK [.agg 8,.one,.one,.agg 5,.one]).A (a0,a1,a2,a3,a4)):X2R.F a0 a1 a2 a3 a4:=by
 unfold X2R.F;simp only[Bs,B0,B1,Yaa,X01,Xb6,XaX,Xjo,XiU,Yay];refine⟨⟨h.1,by omega,by omega⟩,λ_=>trivial,λh1=>?_⟩;have hn:=Xsp h1;have hps:=XyM h.1 hn;simp only[XwH h1]at*;refine⟨⟨h.2.2.2.1,by omega,by omega⟩,λ_=>trivial,λh2=>?_⟩;have hn2:=Xwt h2;have hp:Xb7 a0:=hn;have hp2:XhY a3:=by unfold XhY;omega
 have hq:pDo a0 a3:=⟨hps,h.2.2.2.1.2.1⟩
 have hq':XhS a0 a1 a2 a3 a4:=hq;have hc:=n_c hn;have hc0:=c_of a0;have hc1:=c_of (X93 a0 a1 a2 a3 a4).1;obtain⟨d1,⟨d2,d3⟩,d4⟩:=XoF (c:=a1) (n:=a2) (i:=a4) hq;have hm0:X7c a0 1:=⟨by omega,by omega⟩
 have hk1:¬(1+X5s a0<0):=by omega
 obtain⟨o1,o2⟩:=Xsx (X93 a0 a1 a2 a3 a4).1 1;have hm2:X7c (X93 a0 a1 a2 a3 a4).1 1:=⟨by omega,by omega⟩
 have hm3:X7c (Xfo (X93 a0 a1 a2 a3 a4).1 1) 1:=⟨by omega,by rw[o2];omega⟩
 have hh:X7R (Xfo (X93 a0 a1 a2 a3 a4).1 1) 1=1+X5s (X93 a0 a1 a2 a3 a4).1:=by unfold X7R;rw[X54 o1,o2]
 have hk2:¬(1+X5s (X93 a0 a1 a2 a3 a4).1<0):=by omega
 have he:∀x:Stt,X5k x x=true:=λx=>by simp[X5k]
 have he2:∀x:Ans,X4T x x=true:=λx=>by simp[X4T]
 simp only[X7P,Xmn];simp only[Xfo]at hm3 hh;simp[hp,hp2,hq',hm0,hm2,hm3,hh,hk1,hk2,he,he2]
set_option maxRecDepth 100000 in
theorem X2R.eq:EqS (Xpi XvK [.agg 8,.one,.one,.agg 5,.one]) Tryz.f3 [4] [X4L.e,X6X.e,X5S.e,X4E.e,X76.e,X5W.e,X4D.e,X3f.e,X34.e,X35.e] [] noL (λi x=>X2R.F x.1 x.2.1 x.2.2.1 x.2.2.2.1 x.2.2.2.2):=by intro i x;kernel_rfl
theorem X2R.ok:X0h Tryz.prog 3 (Xpi XvK [.agg 8,.one,.one,.agg 5,.one]):=X0S X2R.eq func3 rfl (by kernel_rfl) λi x h _ hw=>X2R.p x.1 x.2.1 x.2.2.1 x.2.2.2.1 x.2.2.2.2 h hw
end Go.Proofs.YthpdkligbfbjeaaGreat.B
