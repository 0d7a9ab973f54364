/- Part 4 of the walk: contracts of functions, their formulas and proofs. -/
import Derived.Test.YtgmafgmjbaoomaaGreatXC
set_option maxRecDepth 100000
set_option linter.unusedVariables false
set_option linter.unusedSimpArgs false
namespace Go.Proofs.YtgmafgmjbaoomaaGreat.B
open Go Go.Proofs.YtgmafgmjbaoomaaGreat.Bv Go.Proofs.Tryz
def Xfh(c:Int×(Int×Int))(p:Bkt):Bool:=Xds p.1 c.2.2
def Xhc(l:List Bkt)(c:Int×(Int×Int)):Prop:=l.length<=1099511627776
def XaF(l:List Bkt)(c:Int×(Int×Int)):Int:=if l.findIdx (Xfh c)<l.length then((l.findIdx (Xfh c):Nat):Int) else -1
def Xqe(l:List Bkt)(c:Int×(Int×Int))(i:Int):Prop:=0<=i/\i<=l.length/\∀j,j<i.toNat->Xfh c (l.getD j (0,0))=false
def Xug(l:List Bkt)(c:Int×(Int×Int))(i:Int):Nat:=(l.length - i).toNat
theorem XtH{l:List Bkt}{c:Int×(Int×Int)}{i:Int}(h:Xqe l c i)(hi:i<l.length)(hd:Xfh c (l.getD i.toNat (0,0))=true):i=XaF l c:=by
 obtain⟨h1,h2,h3⟩:=h
 have e:l.findIdx (Xfh c)=i.toNat:=by
  refine(Ycy (by omega)).2 ⟨by rw[X0O (by omega)]at hd;exact hd,λj hj=>?_⟩
  have:=h3 j hj
  rw[X0O (by omega)]at this;exact this
 unfold XaF
 rw[e,Yah (by omega)];omega
theorem Xvm{l:List Bkt}{c:Int×(Int×Int)}{i:Int}(h:Xqe l c i)(hi:¬i<l.length):-1=XaF l c:=by
 obtain⟨h1,h2,h3⟩:=h
 have e:¬l.findIdx (Xfh c)<l.length:=λhlt=>by
  have a:=Ybx (w:=hlt)
  have b:=h3 (l.findIdx (Xfh c)) (by omega)
  rw[X0O hlt,a]at b;cases b
 unfold XaF
 rw[Yae e]
def Xki(l:List Bkt)(c:Int×(Int×Int)):List Bkt:=l.filter λp=>!Xfh c p
structure Xqx (l:List Bkt) (c:Int×(Int×Int)) (i j:Int) (s:List Bkt):Prop where
 h1:0<=i
 h2:i<j
 h3:j<=l.length
 h4:s.length=l.length
 h5:s.take i.toNat=(l.take j.toNat).filter λp=>!Xfh c p
 h6:s.drop j.toNat=l.drop j.toNat
def Xvz(l:List Bkt)(c:Int×(Int×Int))(i j:Int)(s:List Bkt):Nat:=(l.length - j).toNat
theorem Xuf{l:List Bkt}{c:Int×(Int×Int)}(h:¬XaF l c= -1):0<=XaF l c/\XaF l c<l.length/\Xqx l c (XaF l c) (XaF l c+1) l:=by
 unfold XaF at h ⊢
 split at h
 . rename_i hlt
   rw[Yah hlt]
   refine⟨by omega,by omega,⟨by omega,by omega,by omega,rfl,?_,rfl⟩⟩
   rw[tn1 (by omega),YaE,X0J (0,0) hlt,YaY]
   have a:=Ybx (w:=hlt)
   have hk:(l.take (l.findIdx (Xfh c))).filter (λp=>!Xfh c p)=l.take (l.findIdx (Xfh c)):=YbV.2 λx hx=>by
    obtain⟨k,hk,e⟩:=YaQ hx
    rw[Yal]at hk
    have:=YcR (xs:=l) (p:=Xfh c) (i:=k) (by omega)
    rw[YcM]at e
    rw[<-e];simpa using this
   rw[hk,X0O hlt]
   simp[a]
 . exact absurd rfl h
theorem Xvj{l:List Bkt}{c:Int×(Int×Int)}(h:XaF l c= -1):l=Xki l c:=by
 unfold XaF at h
 split at h
 . omega
 . rename_i hn
   refine(YbV.2 λx hx=>?_).symm
   have:=YcP.1 (Ydu (YcQ (p:=Xfh c)) (by omega)) x hx
   simp[this]
theorem Xwe{l:List Bkt}{c:Int×(Int×Int)}{i j:Int}{s:List Bkt}(h:Xqx l c i j s)(hj:j<l.length):s.getD j.toNat (0,0)=l.getD j.toNat (0,0):=by
 obtain⟨h1,h2,h3,h4,h5,h6⟩:=h
 have a:=X3U (0,0) (l:=s) (i:=j.toNat) (by omega)
 have b:=X3U (0,0) (l:=l) (i:=j.toNat) (by omega)
 rw[a,b]at h6
 exact(List.cons.inj h6).1
theorem XtS{l:List Bkt}{c:Int×(Int×Int)}{i j:Int}{s:List Bkt}(h:Xqx l c i j s)(hj:j<l.length)(hd:Xfh c (l.getD j.toNat (0,0))=false):Xqx l c (i+1) (j+1) (s.set i.toNat (l.getD j.toNat (0,0))):=by
 obtain⟨h1,h2,h3,h4,h5,h6⟩:=h
 refine⟨by omega,by omega,by omega,by rw[YaV,h4],?_,?_⟩
 . rw[tn1 h1,tn1 (by omega:0<=j),X0J (0,0) (by omega:j.toNat<l.length),YaY,<-h5]
   have:(s.set i.toNat (l.getD j.toNat (0,0))).take (i.toNat+1)=s.take i.toNat++[l.getD j.toNat (0,0)]:=by
    rw[X0J (0,0) (by rw[YaV];omega),Yck (YaB _)]
    congr 2
    rw[Yap,YbX (by omega)];rfl
   rw[this]
   generalize l.getD j.toNat (0,0)=x at hd ⊢
   simp[hd]
 . rw[tn1 (by omega:0<=j),Ycj (by omega),<-YaI,h6,YaI]
theorem Xu9{l:List Bkt}{c:Int×(Int×Int)}{i j:Int}{s:List Bkt}(h:Xqx l c i j s)(hj:j<l.length)(hd:Xfh c (l.getD j.toNat (0,0))=true):Xqx l c i (j+1) s:=by
 obtain⟨h1,h2,h3,h4,h5,h6⟩:=h
 refine⟨by omega,by omega,by omega,h4,?_,?_⟩
 . rw[tn1 (by omega:0<=j),X0J (0,0) (by omega:j.toNat<l.length),YaY,<-h5]
   generalize l.getD j.toNat (0,0)=x at hd ⊢
   simp[hd]
 . rw[tn1 (by omega:0<=j),<-YaI,h6,YaI]
theorem Xwg{l:List Bkt}{c:Int×(Int×Int)}{i j:Int}{s r:List Bkt}(h:Xqx l c i j s)(hj:¬j<l.length):List.take i.toNat (List.take i.toNat s++r)=Xki l c:=by
 obtain⟨h1,h2,h3,h4,h5,h6⟩:=h
 have e:j.toNat=l.length:=by omega
 rw[e,Yat]at h5
 rw[Ya2 (by rw[Yal];omega),YbR,Nat.min_self,h5];rfl
def Xfq(c:Int×(Int×Int))(p:Int):Bool:=Xds p c.2.2
def Xh5(l:List Int)(c:Int×(Int×Int)):Prop:=l.length<=1099511627776
def Xat(l:List Int)(c:Int×(Int×Int)):Int:=if l.findIdx (Xfq c)<l.length then((l.findIdx (Xfq c):Nat):Int) else -1
def Xq4(l:List Int)(c:Int×(Int×Int))(i:Int):Prop:=0<=i/\i<=l.length/\∀j,j<i.toNat->Xfq c (l.getD j 0)=false
def Xub(l:List Int)(c:Int×(Int×Int))(i:Int):Nat:=(l.length - i).toNat
theorem Xu6{l:List Int}{c:Int×(Int×Int)}{i:Int}(h:Xq4 l c i)(hi:i<l.length)(hd:Xfq c (l.getD i.toNat 0)=true):i=Xat l c:=by
 obtain⟨h1,h2,h3⟩:=h
 have e:l.findIdx (Xfq c)=i.toNat:=by
  refine(Ycy (by omega)).2 ⟨by rw[X0O (by omega)]at hd;exact hd,λj hj=>?_⟩
  have:=h3 j hj
  rw[X0O (by omega)]at this;exact this
 unfold Xat
 rw[e,Yah (by omega)];omega
theorem Xvh{l:List Int}{c:Int×(Int×Int)}{i:Int}(h:Xq4 l c i)(hi:¬i<l.length):-1=Xat l c:=by
 obtain⟨h1,h2,h3⟩:=h
 have e:¬l.findIdx (Xfq c)<l.length:=λhlt=>by
  have a:=Ybx (w:=hlt)
  have b:=h3 (l.findIdx (Xfq c)) (by omega)
  rw[X0O hlt,a]at b;cases b
 unfold Xat
 rw[Yae e]
def Xjv(l:List Int)(c:Int×(Int×Int)):List Int:=l.filter λp=>!Xfq c p
structure Xqw (l:List Int) (c:Int×(Int×Int)) (i j:Int) (s:List Int):Prop where
 h1:0<=i
 h2:i<j
 h3:j<=l.length
 h4:s.length=l.length
 h5:s.take i.toNat=(l.take j.toNat).filter λp=>!Xfq c p
 h6:s.drop j.toNat=l.drop j.toNat
def Xvu(l:List Int)(c:Int×(Int×Int))(i j:Int)(s:List Int):Nat:=(l.length - j).toNat
theorem XtL{l:List Int}{c:Int×(Int×Int)}(h:¬Xat l c= -1):0<=Xat l c/\Xat l c<l.length/\Xqw l c (Xat l c) (Xat l c+1) l:=by
 unfold Xat at h ⊢
 split at h
 . rename_i hlt
   rw[Yah hlt]
   refine⟨by omega,by omega,⟨by omega,by omega,by omega,rfl,?_,rfl⟩⟩
   rw[tn1 (by omega),YaE,X0J 0 hlt,YaY]
   have a:=Ybx (w:=hlt)
   have hk:(l.take (l.findIdx (Xfq c))).filter (λp=>!Xfq c p)=l.take (l.findIdx (Xfq c)):=YbV.2 λx hx=>by
    obtain⟨k,hk,e⟩:=YaQ hx
    rw[Yal]at hk
    have:=YcR (xs:=l) (p:=Xfq c) (i:=k) (by omega)
    rw[YcM]at e
    rw[<-e];simpa using this
   rw[hk,X0O hlt]
   simp[a]
 . exact absurd rfl h
theorem Xwi{l:List Int}{c:Int×(Int×Int)}(h:Xat l c= -1):l=Xjv l c:=by
 unfold Xat at h
 split at h
 . omega
 . rename_i hn
   refine(YbV.2 λx hx=>?_).symm
   have:=YcP.1 (Ydu (YcQ (p:=Xfq c)) (by omega)) x hx
   simp[this]
theorem Xvf{l:List Int}{c:Int×(Int×Int)}{i j:Int}{s:List Int}(h:Xqw l c i j s)(hj:j<l.length):s.getD j.toNat 0=l.getD j.toNat 0:=by
 obtain⟨h1,h2,h3,h4,h5,h6⟩:=h
 have a:=X3U 0 (l:=s) (i:=j.toNat) (by omega)
 have b:=X3U 0 (l:=l) (i:=j.toNat) (by omega)
 rw[a,b]at h6
 exact(List.cons.inj h6).1
theorem Xtn{l:List Int}{c:Int×(Int×Int)}{i j:Int}{s:List Int}(h:Xqw l c i j s)(hj:j<l.length)(hd:Xfq c (l.getD j.toNat 0)=false):Xqw l c (i+1) (j+1) (s.set i.toNat (l.getD j.toNat 0)):=by
 obtain⟨h1,h2,h3,h4,h5,h6⟩:=h
 refine⟨by omega,by omega,by omega,by rw[YaV,h4],?_,?_⟩
 . rw[tn1 h1,tn1 (by omega:0<=j),X0J 0 (by omega:j.toNat<l.length),YaY,<-h5]
   have:(s.set i.toNat (l.getD j.toNat 0)).take (i.toNat+1)=s.take i.toNat++[l.getD j.toNat 0]:=by
    rw[X0J 0 (by rw[YaV];omega),Yck (YaB _)]
    congr 2
    rw[Yap,YbX (by omega)];rfl
   rw[this]
   generalize l.getD j.toNat 0=x at hd ⊢
   simp[hd]
 . rw[tn1 (by omega:0<=j),Ycj (by omega),<-YaI,h6,YaI]
theorem XtC{l:List Int}{c:Int×(Int×Int)}{i j:Int}{s:List Int}(h:Xqw l c i j s)(hj:j<l.length)(hd:Xfq c (l.getD j.toNat 0)=true):Xqw l c i (j+1) s:=by
 obtain⟨h1,h2,h3,h4,h5,h6⟩:=h
 refine⟨by omega,by omega,by omega,h4,?_,?_⟩
 . rw[tn1 (by omega:0<=j),X0J 0 (by omega:j.toNat<l.length),YaY,<-h5]
   generalize l.getD j.toNat 0=x at hd ⊢
   simp[hd]
 . rw[tn1 (by omega:0<=j),<-YaI,h6,YaI]
theorem Xvd{l:List Int}{c:Int×(Int×Int)}{i j:Int}{s r:List Int}(h:Xqw l c i j s)(hj:¬j<l.length):List.take i.toNat (List.take i.toNat s++r)=Xjv l c:=by
 obtain⟨h1,h2,h3,h4,h5,h6⟩:=h
 have e:j.toNat=l.length:=by omega
 rw[e,Yat]at h5
 rw[Ya2 (by rw[Yal];omega),YbR,Nat.min_self,h5];rfl
def dlB(p:Bkt)(c:Int×(Int×Int)):Bool:=Xfh c p
def Xw5(p:Int)(c:Int×(Int×Int)):Bool:=Xfq c p
def X7Y:Con:=cQ (.pair T0q (.pair (.int .i64) T0q)) [.agg 2,.pptr 3] .bool [(false,1)] (λ_=>True) λa=>(dlB a.1 a.2)
def X2l.F(a0:(Int×Int))(a1:Xnn):Prop:=(True/\∀r1,(Eq r1 ((Xds a0.1 a1.2.2),((),())))->(Eq (r1.1,((),())) ((dlB a0 a1),((),()))))
theorem X2l.p(a0:(Int×Int))(a1:Xnn)(h:True):X2l.F a0 a1:=by
 unfold X2l.F
 simp only[Bs,B0,B1,Yaa,X01,dlB,Xfh]
def X2l.e:GE:=mE X7Y func100 [4] [X5x.e] [] noL (λi x=>X2l.F x.1 x.2) λi x h _ _=>X2l.p x.1 x.2 h
def X6X:Con:=cQ (.pair (.int .i64) (.pair (.int .i64) T0q)) [.one,.pptr 3] .bool [(false,1)] (λ_=>True) λa=>(Xw5 a.1 a.2)
def X1M.F(a0:Int)(a1:Xnn):Prop:=(True/\∀r1,(Eq r1 ((Xds a0 a1.2.2),((),())))->(Eq (r1.1,((),())) ((Xw5 a0 a1),((),()))))
theorem X1M.p(a0:Int)(a1:Xnn)(h:True):X1M.F a0 a1:=by
 unfold X1M.F
 simp only[Bs,B0,B1,Yaa,X01,Xw5,Xfq]
def X1M.e:GE:=mE X6X func145 [4] [X5x.e] [] noL (λi x=>X1M.F x.1 x.2) λi x h _ _=>X1M.p x.1 x.2 h
def X13:Con:=cQ (.pair X7m (.pair (.int .i64) T0q)) [.one,.clop 100 3] (.int .i64) [(false,1)] (λa=>(Xhc a.1 a.2)) λa=>(XaF a.1 a.2)
def X09.F(a0:U9q)(a1:Xnn):Prop:=(eS [(0,.val false [.lst T0q a0 none]),(1,.fn 100 [] [.pptr [.int .i64 a1.1,.int .i64 a1.2.1,.int .i64 a1.2.2]]),(7,.val false [.int .i64 (ln a0)])] [(0,.val false [.lst T0q a0 none]),(1,.fn 100 [] [.pptr [.int .i64 a1.1,.int .i64 a1.2.1,.int .i64 a1.2.2]]),(7,.val false [.int .i64 (ln a0)])]/\((Xqe a0 a1 0)/\∀(y1:Int),(Xqe a0 a1 y1)->(X00 (decide (y1<(ln a0))) (0<=y1/\(y1<(ln a0)/\(True/\∀r2,(Eq r2 ((dlB ((List.getD a0 (tN y1) (0,0)).1,(List.getD a0 (tN y1) (0,0)).2) (a1.1,(a1.2.1,a1.2.2))),((),())))->(X00 r2.1 (Eq (y1,((),())) ((XaF a0 a1),((),()))) (eS [(0,.val false [.lst T0q a0 none]),(1,.fn 100 [] [.pptr [.int .i64 a1.1,.int .i64 a1.2.1,.int .i64 a1.2.2]]),(7,.val false [.int .i64 (ln a0)])] [(0,.val false [.lst T0q a0 none]),(1,.fn 100 [] [.pptr [.int .i64 a1.1,.int .i64 a1.2.1,.int .i64 a1.2.2]]),(7,.val false [.int .i64 (ln a0)])]/\(Xqe a0 a1 (wI (y1+(1:Int))))/\(Xug a0 a1 (wI (y1+(1:Int))))<(Xug a0 a1 y1)))))) (Eq ((-1),((),())) ((XaF a0 a1),((),()))))))
def X09.L(a0:U9q)(a1:Xnn):Nat->Option X0e:=XLK [(26,⟨⟨[0,1,7],[8],[],[]⟩,(.int .i64),λst y=>Xqe a0 a1 y,λst y=>Xug a0 a1 y⟩)]
theorem X09.p(a0:U9q)(a1:Xnn)(h:(Xhc a0 a1)):X09.F a0 a1:=by
 delta X09.F ln tN wI eS
 simp only[Bs,B0,B1,Yaa,X01,YaA,dlB]
 have hl:a0.length<=1099511627776:=h
 refine⟨⟨by omega,by omega,λj hj=>absurd hj (by simp)⟩,?_⟩
 rintro i hI
 have q1:=hI.1
 have q2:=hI.2.1
 rw[w64 (x:=i+1) (by omega) (by omega)]
 refine⟨λhi=>⟨q1,hi,λhd=>XtH hI hi hd,λhd=>⟨⟨by omega,by omega,λj hj=>?_⟩,by unfold Xug;omega⟩⟩,λhi=>Xvm hI hi⟩
 by_cases e:j=i.toNat
 . rw[e];exact hd
 . exact hI.2.2 j (by omega)
def X09.e:GE:=mE X13 func150 [3] [X2l.e] [] (λi x=>X09.L x.1 x.2) (λi x=>X09.F x.1 x.2) λi x h _ _=>X09.p x.1 x.2 h
def X0U:Con:={A:=(.pair X7m (.pair (.int .i64) T0q)),shA:=[.one,.clop 100 3],ownA:=[(0,43)],R:=X7m,shR:=[(false,1)],fresh:=[(0,43)],pre:=λ_ a=>(Xhc a.1 a.2),f:=some λ_ a=>((Xki a.1 a.2),((),()))}
def X08.F(a0:U9q)(a1:Xnn):Prop:=((Xhc a0 (a1.1,(a1.2.1,a1.2.2)))/\∀r1,(Eq r1 ((XaF a0 (a1.1,(a1.2.1,a1.2.2))),((),())))->(X00 (r1.1==((-1):Int)) (Eq (a0,((),())) ((Xki a0 a1),((),()))) (eS [(0,.val false [.own T0q 1000003]),(1,.fn 100 [] [.pptr [.int .i64 a1.1,.int .i64 a1.2.1,.int .i64 a1.2.2]])] [(0,.val false [.own T0q 1000003]),(1,.fn 100 [] [.pptr [.int .i64 a1.1,.int .i64 a1.2.1,.int .i64 a1.2.2]])]/\((Xqx a0 a1 r1.1 (wI (r1.1+(1:Int))) a0)/\∀(y2:(Int×(Int×U9q))),(Xqx a0 a1 y2.1 y2.2.1 y2.2.2)->(X00 (decide (y2.2.1<(ln y2.2.2))) (0<=y2.2.1/\(y2.2.1<(ln y2.2.2)/\(True/\∀r3,(Eq r3 ((dlB ((List.getD y2.2.2 (tN y2.2.1) (0,0)).1,(List.getD y2.2.2 (tN y2.2.1) (0,0)).2) (a1.1,(a1.2.1,a1.2.2))),((),())))->(X00 (!r3.1) (0<=y2.1/\(y2.1<(ln y2.2.2)/\(eS [(0,.val false [.own T0q 1000003]),(1,.fn 100 [] [.pptr [.int .i64 a1.1,.int .i64 a1.2.1,.int .i64 a1.2.2]])] [(0,.val false [.own T0q 1000003]),(1,.fn 100 [] [.pptr [.int .i64 a1.1,.int .i64 a1.2.1,.int .i64 a1.2.2]])]/\(Xqx a0 a1 (wI (y2.1+(1:Int))) (wI (y2.2.1+(1:Int))) (List.set y2.2.2 (tN y2.1) ((List.getD y2.2.2 (tN y2.2.1) (0,0)).1,(List.getD y2.2.2 (tN y2.2.1) (0,0)).2)))/\(Xvz a0 a1 (wI (y2.1+(1:Int))) (wI (y2.2.1+(1:Int))) (List.set y2.2.2 (tN y2.1) ((List.getD y2.2.2 (tN y2.2.1) (0,0)).1,(List.getD y2.2.2 (tN y2.2.1) (0,0)).2)))<(Xvz a0 a1 y2.1 y2.2.1 y2.2.2)))) (eS [(0,.val false [.own T0q 1000003]),(1,.fn 100 [] [.pptr [.int .i64 a1.1,.int .i64 a1.2.1,.int .i64 a1.2.2]])] [(0,.val false [.own T0q 1000003]),(1,.fn 100 [] [.pptr [.int .i64 a1.1,.int .i64 a1.2.1,.int .i64 a1.2.2]])]/\(Xqx a0 a1 y2.1 (wI (y2.2.1+(1:Int))) y2.2.2)/\(Xvz a0 a1 y2.1 (wI (y2.2.1+(1:Int))) y2.2.2)<(Xvz a0 a1 y2.1 y2.2.1 y2.2.2)))))) (0<=y2.1/\(y2.1<=(ln y2.2.2)/\((tN y2.1)<=(List.length y2.2.2)/\((List.length y2.2.2)<=List.length y2.2.2/\(0<=y2.1/\(y2.1<=(ln (List.take (tN y2.1) y2.2.2++(List.replicate ((List.length y2.2.2) - (tN y2.1)) ((0:Int),(0:Int))++List.drop (List.length y2.2.2) y2.2.2)))/\(Eq ((List.take (tN y2.1) (List.take (tN y2.1) y2.2.2++(List.replicate ((List.length y2.2.2) - (tN y2.1)) ((0:Int),(0:Int))++List.drop (List.length y2.2.2) y2.2.2))),((),())) ((Xki a0 a1),((),()))))))))))))))
def X08.L(a0:U9q)(a1:Xnn):Nat->Option X0e:=XLK [(122,⟨⟨[0,1],[5,6],[],[kC 0 0 1000003 43]⟩,(.pair (.int .i64) Xof),λst y=>Xqx a0 a1 y.1 y.2.1 y.2.2,λst y=>Xvz a0 a1 y.1 y.2.1 y.2.2⟩)]
theorem X08.p(a0:U9q)(a1:Xnn)(h:(Xhc a0 a1)):X08.F a0 a1:=by
 delta X08.F ln tN wI eS
 simp only[Bs,B0,B1,Yaa,X01,YaA,Xhc,dlB]
 have hl:a0.length<=1099511627776:=h
 refine⟨hl,λh1=>Xvj h1,λh1=>?_⟩
 obtain⟨z1,z2,z3⟩:=Xuf h1
 rw[w64 (x:=XaF a0 a1+1) (by omega) (by omega)]
 refine⟨z3,?_⟩
 rintro⟨i,j,s⟩ hI
 simp only at hI ⊢
 have q1:=hI.h1
 have q2:=hI.h2
 have q3:=hI.h3
 have q4:=hI.h4
 refine⟨λhj=>?_,λhj=>?_⟩
 . have hj':j<(a0.length:Int):=by omega
   have hg:=Xwe hI hj'
   rw[w64 (x:=i+1) (by omega) (by omega),w64 (x:=j+1) (by omega) (by omega)]
   simp only[hg]
   refine⟨by omega,by omega,λhd=>⟨by omega,by omega,XtS hI hj' hd,by unfold Xvz;omega⟩,λhd=>⟨Xu9 hI hj' hd,by unfold Xvz;omega⟩⟩
 . have hj':¬j<(a0.length:Int):=by omega
   have he:=λr=>Xwg (r:=r) hI hj'
   exact⟨by omega,by omega,by omega,by omega,by omega,by simp only[Yal,YbM,Yar];omega,he _⟩
def X08.e:GE:=mE X0U func99 [24] [X2l.e,X09.e] [41] (λi x=>X08.L x.1 x.2) (λi x=>X08.F x.1 x.2) λi x h _ _=>X08.p x.1 x.2 h
def X48:Con:=cQ (.pair Xfc (.pair (.int .i64) T0q)) [.one,.clop 145 3] (.int .i64) [(false,1)] (λa=>(Xh5 a.1 a.2)) λa=>(Xat a.1 a.2)
def X0s.F(a0:(List Int))(a1:Xnn):Prop:=(eS [(0,.val false [.lst (.int .i64) a0 none]),(1,.fn 145 [] [.pptr [.int .i64 a1.1,.int .i64 a1.2.1,.int .i64 a1.2.2]]),(7,.val false [.int .i64 (ln a0)])] [(0,.val false [.lst (.int .i64) a0 none]),(1,.fn 145 [] [.pptr [.int .i64 a1.1,.int .i64 a1.2.1,.int .i64 a1.2.2]]),(7,.val false [.int .i64 (ln a0)])]/\((Xq4 a0 a1 0)/\∀(y1:Int),(Xq4 a0 a1 y1)->(X00 (decide (y1<(ln a0))) (0<=y1/\(y1<(ln a0)/\(True/\∀r2,(Eq r2 ((Xw5 (List.getD a0 (tN y1) 0) (a1.1,(a1.2.1,a1.2.2))),((),())))->(X00 r2.1 (Eq (y1,((),())) ((Xat a0 a1),((),()))) (eS [(0,.val false [.lst (.int .i64) a0 none]),(1,.fn 145 [] [.pptr [.int .i64 a1.1,.int .i64 a1.2.1,.int .i64 a1.2.2]]),(7,.val false [.int .i64 (ln a0)])] [(0,.val false [.lst (.int .i64) a0 none]),(1,.fn 145 [] [.pptr [.int .i64 a1.1,.int .i64 a1.2.1,.int .i64 a1.2.2]]),(7,.val false [.int .i64 (ln a0)])]/\(Xq4 a0 a1 (wI (y1+(1:Int))))/\(Xub a0 a1 (wI (y1+(1:Int))))<(Xub a0 a1 y1)))))) (Eq ((-1),((),())) ((Xat a0 a1),((),()))))))
def X0s.L(a0:(List Int))(a1:Xnn):Nat->Option X0e:=XLK [(26,⟨⟨[0,1,7],[8],[],[]⟩,(.int .i64),λst y=>Xq4 a0 a1 y,λst y=>Xub a0 a1 y⟩)]
theorem X0s.p(a0:(List Int))(a1:Xnn)(h:(Xh5 a0 a1)):X0s.F a0 a1:=by
 delta X0s.F ln tN wI eS
 simp only[Bs,B0,B1,Yaa,X01,YaA,Xw5]
 have hl:a0.length<=1099511627776:=h
 refine⟨⟨by omega,by omega,λj hj=>absurd hj (by simp)⟩,?_⟩
 rintro i hI
 have q1:=hI.1
 have q2:=hI.2.1
 rw[w64 (x:=i+1) (by omega) (by omega)]
 refine⟨λhi=>⟨q1,hi,λhd=>Xu6 hI hi hd,λhd=>⟨⟨by omega,by omega,λj hj=>?_⟩,by unfold Xub;omega⟩⟩,λhi=>Xvh hI hi⟩
 by_cases e:j=i.toNat
 . rw[e];exact hd
 . exact hI.2.2 j (by omega)
def X0s.e:GE:=mE X48 func181 [3] [X1M.e] [] (λi x=>X0s.L x.1 x.2) (λi x=>X0s.F x.1 x.2) λi x h _ _=>X0s.p x.1 x.2 h
def X3X:Con:={A:=(.pair Xfc (.pair (.int .i64) T0q)),shA:=[.one,.clop 145 3],ownA:=[(0,3)],R:=Xfc,shR:=[(false,1)],fresh:=[(0,3)],pre:=λ_ a=>(Xh5 a.1 a.2),f:=some λ_ a=>((Xjv a.1 a.2),((),()))}
def X0p.F(a0:(List Int))(a1:Xnn):Prop:=((Xh5 a0 (a1.1,(a1.2.1,a1.2.2)))/\∀r1,(Eq r1 ((Xat a0 (a1.1,(a1.2.1,a1.2.2))),((),())))->(X00 (r1.1==((-1):Int)) (Eq (a0,((),())) ((Xjv a0 a1),((),()))) (eS [(0,.val false [.own (.int .i64) 1000003]),(1,.fn 145 [] [.pptr [.int .i64 a1.1,.int .i64 a1.2.1,.int .i64 a1.2.2]])] [(0,.val false [.own (.int .i64) 1000003]),(1,.fn 145 [] [.pptr [.int .i64 a1.1,.int .i64 a1.2.1,.int .i64 a1.2.2]])]/\((Xqw a0 a1 r1.1 (wI (r1.1+(1:Int))) a0)/\∀(y2:(Int×(Int×(List Int)))),(Xqw a0 a1 y2.1 y2.2.1 y2.2.2)->(X00 (decide (y2.2.1<(ln y2.2.2))) (0<=y2.2.1/\(y2.2.1<(ln y2.2.2)/\(True/\∀r3,(Eq r3 ((Xw5 (List.getD y2.2.2 (tN y2.2.1) 0) (a1.1,(a1.2.1,a1.2.2))),((),())))->(X00 (!r3.1) (0<=y2.1/\(y2.1<(ln y2.2.2)/\(eS [(0,.val false [.own (.int .i64) 1000003]),(1,.fn 145 [] [.pptr [.int .i64 a1.1,.int .i64 a1.2.1,.int .i64 a1.2.2]])] [(0,.val false [.own (.int .i64) 1000003]),(1,.fn 145 [] [.pptr [.int .i64 a1.1,.int .i64 a1.2.1,.int .i64 a1.2.2]])]/\(Xqw a0 a1 (wI (y2.1+(1:Int))) (wI (y2.2.1+(1:Int))) (List.set y2.2.2 (tN y2.1) (List.getD y2.2.2 (tN y2.2.1) 0)))/\(Xvu a0 a1 (wI (y2.1+(1:Int))) (wI (y2.2.1+(1:Int))) (List.set y2.2.2 (tN y2.1) (List.getD y2.2.2 (tN y2.2.1) 0)))<(Xvu a0 a1 y2.1 y2.2.1 y2.2.2)))) (eS [(0,.val false [.own (.int .i64) 1000003]),(1,.fn 145 [] [.pptr [.int .i64 a1.1,.int .i64 a1.2.1,.int .i64 a1.2.2]])] [(0,.val false [.own (.int .i64) 1000003]),(1,.fn 145 [] [.pptr [.int .i64 a1.1,.int .i64 a1.2.1,.int .i64 a1.2.2]])]/\(Xqw a0 a1 y2.1 (wI (y2.2.1+(1:Int))) y2.2.2)/\(Xvu a0 a1 y2.1 (wI (y2.2.1+(1:Int))) y2.2.2)<(Xvu a0 a1 y2.1 y2.2.1 y2.2.2)))))) (0<=y2.1/\(y2.1<=(ln y2.2.2)/\((tN y2.1)<=(List.length y2.2.2)/\((List.length y2.2.2)<=List.length y2.2.2/\(0<=y2.1/\(y2.1<=(ln (List.take (tN y2.1) y2.2.2++(List.replicate ((List.length y2.2.2) - (tN y2.1)) (0:Int)++List.drop (List.length y2.2.2) y2.2.2)))/\(Eq ((List.take (tN y2.1) (List.take (tN y2.1) y2.2.2++(List.replicate ((List.length y2.2.2) - (tN y2.1)) (0:Int)++List.drop (List.length y2.2.2) y2.2.2))),((),())) ((Xjv a0 a1),((),()))))))))))))))
def X0p.L(a0:(List Int))(a1:Xnn):Nat->Option X0e:=XLK [(122,⟨⟨[0,1],[5,6],[],[kC 0 0 1000003 3]⟩,(.pair (.int .i64) (.pair (.int .i64) Xfc)),λst y=>Xqw a0 a1 y.1 y.2.1 y.2.2,λst y=>Xvu a0 a1 y.1 y.2.1 y.2.2⟩)]
theorem X0p.p(a0:(List Int))(a1:Xnn)(h:(Xh5 a0 a1)):X0p.F a0 a1:=by
 delta X0p.F ln tN wI eS
 simp only[Bs,B0,B1,Yaa,X01,YaA,Xh5,Xw5]
 have hl:a0.length<=1099511627776:=h
 refine⟨hl,λh1=>Xwi h1,λh1=>?_⟩
 obtain⟨z1,z2,z3⟩:=XtL h1
 rw[w64 (x:=Xat a0 a1+1) (by omega) (by omega)]
 refine⟨z3,?_⟩
 rintro⟨i,j,s⟩ hI
 simp only at hI ⊢
 have q1:=hI.h1
 have q2:=hI.h2
 have q3:=hI.h3
 have q4:=hI.h4
 refine⟨λhj=>?_,λhj=>?_⟩
 . have hj':j<(a0.length:Int):=by omega
   have hg:=Xvf hI hj'
   rw[w64 (x:=i+1) (by omega) (by omega),w64 (x:=j+1) (by omega) (by omega)]
   simp only[hg]
   refine⟨by omega,by omega,λhd=>⟨by omega,by omega,Xtn hI hj' hd,by unfold Xvu;omega⟩,λhd=>⟨XtC hI hj' hd,by unfold Xvu;omega⟩⟩
 . have hj':¬j<(a0.length:Int):=by omega
   have he:=λr=>Xvd (r:=r) hI hj'
   exact⟨by omega,by omega,by omega,by omega,by omega,by simp only[Yal,YbM,Yar];omega,he _⟩
def X0p.e:GE:=mE X3X func144 [139] [X1M.e,X0s.e] [41] (λi x=>X0p.L x.1 x.2) (λi x=>X0p.F x.1 x.2) λi x h _ _=>X0p.p x.1 x.2 h
section
open Go Go.Proofs.YtgmafgmjbaoomaaGreat.Bv Go.Proofs Go.Shelf Go.RowKit Go.Lib
def X17:Ren:=⟨λn=>if n=22 then 147 else if n=29 then 184 else if n=30 then 185 else n,λn=>if n=24 then 24 else if n=9 then 43 else n,λn=>n⟩
set_option maxRecDepth 100000 in
theorem X60:Tryz.f147={Body2.n22 X17 with name:=Tryz.f147.name}:=by kernel_rfl
theorem X6e:Xhr Tryz.prog X17 where
 mixed:=rfl
 f22:=⟨Tryz.f147.name,by kernel_rfl,by rw[<-X60];exact func147⟩
 f29:=⟨Tryz.f184,func184,by kernel_rfl,by kernel_rfl,by kernel_rfl,by kernel_rfl⟩
 t0:=by kernel_rfl
 a0:=λw=>by kernel_rfl
 z0:=λw=>by kernel_rfl
 v0:=λw=>by kernel_rfl
 t3:=by kernel_rfl
 a3:=λw=>by kernel_rfl
 z3:=λw=>by kernel_rfl
 v3:=λw=>by kernel_rfl
 t4:=by kernel_rfl
 a4:=λw=>by kernel_rfl
 z4:=λw=>by kernel_rfl
 v4:=λw=>by kernel_rfl
 t24:=by kernel_rfl
 a24:=λw=>by kernel_rfl
 z24:=λw=>by kernel_rfl
 v24:=λw=>by kernel_rfl
 z9:=λw=>by kernel_rfl
 i9:=by
  obtain⟨i,z,h1,h2,h3,h4,h5⟩:=(XlM 43 _ rfl).info
  have h6:z.cells.size=2:=by rw[<-Yas,h5];rfl
  exact⟨i,z,h1,h4,h6.trans h2.symm,h2⟩
theorem X6u:∀i,Tryz.prog.info? (X17.t 9)=some i->i.bytes=16:=λi hi=>by
 obtain⟨i',z,h1,h2,h3,h4,h5⟩:=(XlM 43 _ rfl).info
 have h1':Tryz.prog.info? (X17.t 9)=some i':=h1
 rw[h1']at hi;cases hi;exact h3
def X2a(l:List (Int×Int))(i:Int)(v:List (Int×Int)):List (Int×Int):=l.take i.toNat++(v++l.drop i.toNat)
def X44(l:List (Int×Int))(i:Int)(v:List (Int×Int)):Prop:=0<=i/\i<=l.length/\0<v.length/\l.length+v.length<=1099511627776
def X4s:Con:={A:=(.pair X7m Xof),shA:=[.one,.one,.one],ownA:=[(0,43),(2,43)],R:=X7m,shR:=[(false,1)],fresh:=[(0,43)],pre:=λ_ a=>(X44 a.1 a.2.1 a.2.2),f:=some λ_ a=>((X2a a.1 a.2.1 a.2.2),((),()))}
theorem X2M.ok:X0g Tryz.prog 147 X4s:=Xr9 (τ:=T0q) X6e rfl X6u (by decide)
def X2M.e:GE:=⟨147,X4s,⟨_,func147,rfl,rfl⟩,X2M.ok⟩
end
def X6q:Con:=cQ (.pair T0q (.int .i64)) [.agg 2,.one] (.int .i64) [(false,1)] (λ_=>True) λa=>(XhB a.1 a.2)
def X1E.F(a0:(Int×Int))(a1:Int):Prop:=(Eq ((wI (a0.1 - a1)),((),())) ((XhB a0 a1),((),())))
theorem X1E.p(a0:(Int×Int))(a1:Int)(h:True)(hw:Wf X6q.A (a0,a1)):X1E.F a0 a1:=by
 delta X1E.F wI
 simp only[Bs,B0,B1,Yaa,X01,XhB,YaA]
 repeat' (with_reducible (first | (refine And.intro ?_ ?_) | intro _))
 all_goals (try simp (disch:=omega) only[w64,wu8,tn0,tn1,tm1,tm2,Yab,Yad,Yai]at*)
 all_goals (try simp (disch:=omega) only[w64,wu8,tn0,tn1,tm1,tm2,Yab,Yad,Yai]at*)
 all_goals (try omega)
 all_goals (try grind[])
def X1E.e:GE:=mE X6q func183 [3] [] [] noL (λi x=>X1E.F x.1 x.2) λi x h _ hw=>X1E.p x.1 x.2 h hw
def X0D:Con:=cQ (.pair X7m (.pair (.int .i64) .unit)) [.one,.one,.clo 183 []] XrD [(false,1),(false,1)] (λa=>(pBs a.1 a.2.1 a.2.2)) λa=>(fBs a.1 a.2.1 a.2.2)
def X05.F(a0:U9q)(a1:Int)(a2:Unit):Prop:=(eS [(0,.val false [.lst T0q a0 none]),(1,.val false [.int .i64 a1]),(2,.fn 183 [] []),(8,.val false [.int .i64 (ln a0)])] [(0,.val false [.lst T0q a0 none]),(1,.val false [.int .i64 a1]),(2,.fn 183 [] []),(8,.val false [.int .i64 (ln a0)])]/\((bsI a0 a1 a2 0 (ln a0))/\∀(y1:(Int×Int)),(bsI a0 a1 a2 y1.1 y1.2)->(X00 (decide (y1.1<y1.2)) (0<=(1:Int)/\(0<=(wI (Int.fdiv (IntKind.wrap .u64 (wI (y1.1+y1.2))) (2 ^ (min (tN (1:Int)) (IntKind.bits .u64)))))/\((wI (Int.fdiv (IntKind.wrap .u64 (wI (y1.1+y1.2))) (2 ^ (min (tN (1:Int)) (IntKind.bits .u64)))))<(ln a0)/\(True/\∀r2,(Eq r2 ((XhB ((List.getD a0 (tN (wI (Int.fdiv (IntKind.wrap .u64 (wI (y1.1+y1.2))) (2 ^ (min (tN (1:Int)) (IntKind.bits .u64)))))) (0,0)).1,(List.getD a0 (tN (wI (Int.fdiv (IntKind.wrap .u64 (wI (y1.1+y1.2))) (2 ^ (min (tN (1:Int)) (IntKind.bits .u64)))))) (0,0)).2) a1),((),())))->(X00 (decide (r2.1<(0:Int))) (eS [(0,.val false [.lst T0q a0 none]),(1,.val false [.int .i64 a1]),(2,.fn 183 [] []),(8,.val false [.int .i64 (ln a0)])] [(0,.val false [.lst T0q a0 none]),(1,.val false [.int .i64 a1]),(2,.fn 183 [] []),(8,.val false [.int .i64 (ln a0)])]/\(bsI a0 a1 a2 (wI ((wI (Int.fdiv (IntKind.wrap .u64 (wI (y1.1+y1.2))) (2 ^ (min (tN (1:Int)) (IntKind.bits .u64)))))+(1:Int))) y1.2)/\(bsM a0 a1 a2 (wI ((wI (Int.fdiv (IntKind.wrap .u64 (wI (y1.1+y1.2))) (2 ^ (min (tN (1:Int)) (IntKind.bits .u64)))))+(1:Int))) y1.2)<(bsM a0 a1 a2 y1.1 y1.2)) (eS [(0,.val false [.lst T0q a0 none]),(1,.val false [.int .i64 a1]),(2,.fn 183 [] []),(8,.val false [.int .i64 (ln a0)])] [(0,.val false [.lst T0q a0 none]),(1,.val false [.int .i64 a1]),(2,.fn 183 [] []),(8,.val false [.int .i64 (ln a0)])]/\(bsI a0 a1 a2 y1.1 (wI (Int.fdiv (IntKind.wrap .u64 (wI (y1.1+y1.2))) (2 ^ (min (tN (1:Int)) (IntKind.bits .u64))))))/\(bsM a0 a1 a2 y1.1 (wI (Int.fdiv (IntKind.wrap .u64 (wI (y1.1+y1.2))) (2 ^ (min (tN (1:Int)) (IntKind.bits .u64))))))<(bsM a0 a1 a2 y1.1 y1.2))))))) (X00 (decide (y1.1<(ln a0))) (0<=y1.1/\(y1.1<(ln a0)/\(True/\∀r3,(Eq r3 ((XhB ((List.getD a0 (tN y1.1) (0,0)).1,(List.getD a0 (tN y1.1) (0,0)).2) a1),((),())))->(Eq ((y1.1,(r3.1==(0:Int))),((),())) ((fBs a0 a1 a2),((),())))))) (Eq ((y1.1,false),((),())) ((fBs a0 a1 a2),((),())))))))
def X05.L(a0:U9q)(a1:Int)(a2:Unit):Nat->Option X0e:=XLK [(60,⟨⟨[0,1,2,8],[9,10],[],[]⟩,T0q,λst y=>bsI a0 a1 a2 y.1 y.2,λst y=>bsM a0 a1 a2 y.1 y.2⟩)]
theorem X05.p(a0:U9q)(a1:Int)(a2:Unit)(h:(pBs a0 a1 a2)):X05.F a0 a1 a2:=by
 delta X05.F ln tN wI eS
 simp only[Bs,B0,B1,Yaa,X01,XhB,YaA]
 obtain⟨hp,ht0,ht1,hl⟩:=h
 refine⟨⟨by omega,by omega,by omega,by simp,λk h1 h2=>by omega⟩,?_⟩
 rintro⟨i,j⟩ hI
 simp only at hI ⊢
 have q1:=hI.h1
 have q2:=hI.h2
 have q3:=hI.h3
 refine⟨λhij=>?_,λhij=>?_⟩
 . rw[w64 (x:=i+j) (by omega) (by omega),wu64 (x:=i+j) (by omega) (by omega),half (by omega) (by omega),w64 (x:=(i+j) / 2) (by omega) (by omega)]
   have hk:=Xq5 hp (i:=((i+j) / 2).toNat) (by omega)
   rw[w64 (x:=(a0.getD ((i+j) / 2).toNat (0,0)).1 - a1) (by omega) (by omega),w64 (x:=(i+j) / 2+1) (by omega) (by omega)]
   refine⟨by omega,by omega,by omega,λh1=>⟨Xwl hp hI (by omega) (by omega) (by omega),by unfold bsM;omega⟩,λh1=>⟨Xwa hp hI (by omega) (by omega) (by omega),by unfold bsM;omega⟩⟩
 . obtain⟨e1,e2⟩:=Xp7 hp hI hij
   have e3:((i.toNat:Nat):Int)=i:=by omega
   refine⟨λh1=>⟨by omega,by omega,?_⟩,λh1=>?_⟩
   . have hk:=Xq5 hp (i:=i.toNat) (by omega)
     rw[w64 (by omega) (by omega)]
     simp only[fBs,e1,e2,e3,Yaz h1,YaT,Yaa,Ybw,Ybn]
     rw[YbI];simp;omega
   . simp only[fBs,e1,e2,e3,Yaw h1,Ybs]
def X05.e:GE:=mE X0D func182 [3,4] [X1E.e] [] (λi x=>X05.L x.1 x.2.1 x.2.2) (λi x=>X05.F x.1 x.2.1 x.2.2) λi x h _ _=>X05.p x.1 x.2.1 x.2.2 h
def XvV(l:List Bkt)(n:Int):Prop:=pBs l n ()
def XfB(l:List Bkt)(n:Int):Int×Bool:=fBs l n ()
def bfI(l:List Bkt)(n i:Int):Prop:=bsI l n () i l.length
def bfM(l:List Bkt)(n i:Int):Nat:=(l.length - i).toNat
def pI2(l:List Int):Prop:=l.length=2
def pI2x(l:List Int)(x:Int):Prop:=l.length=2
def Xue(l:List Int):Int:=if l.getD 1 0<l.getD 0 0 then l.getD 1 0 else l.getD 0 0
def XvD(l:List Int)(x:Int):Int:=if x=l.getD 0 0 then 0 else if x=l.getD 1 0 then 1 else -1
def i2I(l:List Int)(x i:Int):Prop:=0<=i/\i<=2/\(1<=i->x≠l.getD 0 0)/\(2<=i->x≠l.getD 1 0)
def i2M(l:List Int)(x i:Int):Nat:=(2 - i).toNat
def m2I(l:List Int)(v i:Int):Prop:=1<=i/\i<=2/\(i=1->v=l.getD 0 0)/\(i=2->v=Xue l)
def m2M(l:List Int)(v i:Int):Nat:=(2 - i).toNat
def nSh(s:Int):List Bkt->Int
 | []=>0
 | b::l=>(if b.2=s then 1 else 0)+nSh s l
theorem Xpm(s:Int)(b:Bkt):∀l:List Bkt,nSh s (l++[b])=nSh s l+if b.2=s then 1 else 0
 | []=>by simp[nSh]
 | x::l=>by rw[Ybb,nSh,nSh,Xpm s b l];omega
theorem XmW(s:Int):∀l:List Bkt,0<=nSh s l/\nSh s l<=l.length
 | []=>by simp[nSh]
 | x::l=>by
   have:=XmW s l
   rw[nSh,Yad]
   split<;>omega
theorem XhT(s:Int){l:List Bkt}{i:Int}(h:0<=i)(hi:i<l.length):nSh s (l.take (i+1).toNat)=nSh s (l.take i.toNat)+if (l.getD i.toNat (0,0)).2=s then 1 else 0:=by
 rw[tn1 h,X0J (0,0) (by omega),Xpm]
def XaM(l:List Bkt):Int:=if nSh 1 l<nSh 0 l then 1 else 0
def XiC(l:List Bkt):Prop:=l.length<=1000/\∀b∈l,b.2=0\/b.2=1
def idI(l:List Bkt)(i:Int)(c:List Int):Prop:=0<=i/\i<=l.length/\c=[nSh 0 (l.take i.toNat),nSh 1 (l.take i.toNat)]
def idM(l:List Bkt)(i:Int)(c:List Int):Nat:=(l.length - i).toNat
def ieI(l:List Bkt)(i:Int)(c:List Int):Prop:=idI l i c
def ieM(l:List Bkt)(i:Int)(c:List Int):Nat:=(l.length - i).toNat
def iaI(l:List Bkt)(b i:Int):Prop:=0<=i/\i<=2/\(i<=1->b=0)/\(i=2->b=XaM l)
def iaM(l:List Bkt)(b i:Int):Nat:=(2 - i).toNat
def X7E:Con:=cQ (.pair X7m (.int .i64)) [.one,.one] XrD [(false,1),(false,1)] (λa=>(XvV a.1 a.2)) λa=>(XfB a.1 a.2)
def X30.F(a0:U9q)(a1:Int):Prop:=((pBs a0 a1 ())/\∀r1,(Eq r1 ((fBs a0 a1 ()),((),())))->(Eq ((r1.1.1,r1.1.2),((),())) ((XfB a0 a1),((),()))))
theorem X30.p(a0:U9q)(a1:Int)(h:(XvV a0 a1)):X30.F a0 a1:=by
 unfold X30.F
 simp only[Bs,B0,B1,Yaa,X01,YaA]
 exact⟨h,rfl⟩
def X30.e:GE:=mE X7E func146 [3,4] [X05.e,X1E.e] [] noL (λi x=>X30.F x.1 x.2) λi x h _ _=>X30.p x.1 x.2 h
def X7y:Con:=cQ (.pair X7m (.int .i64)) [.one,.one] XrD [(false,1),(false,1)] (λa=>(XvV a.1 a.2)) λa=>(XfB a.1 a.2)
def X2n.F(a0:U9q)(a1:Int):Prop:=(eS [(0,.val false [.lst T0q a0 none]),(1,.val false [.int .i64 a1])] [(0,.val false [.lst T0q a0 none]),(1,.val false [.int .i64 a1])]/\((bfI a0 a1 0)/\∀(y1:Int),(bfI a0 a1 y1)->(X00 (decide (y1<(ln a0))) (0<=y1/\(y1<(ln a0)/\(X00 (decide (((List.getD a0 (tN y1) (0,0)).1)>=a1)) (0<=y1/\(y1<(ln a0)/\(Eq ((y1,(((List.getD a0 (tN y1) (0,0)).1)==a1)),((),())) ((XfB a0 a1),((),()))))) (eS [(0,.val false [.lst T0q a0 none]),(1,.val false [.int .i64 a1])] [(0,.val false [.lst T0q a0 none]),(1,.val false [.int .i64 a1])]/\(bfI a0 a1 (wI (y1+(1:Int))))/\(bfM a0 a1 (wI (y1+(1:Int))))<(bfM a0 a1 y1))))) (Eq (((ln a0),false),((),())) ((XfB a0 a1),((),()))))))
def X2n.L(a0:U9q)(a1:Int):Nat->Option X0e:=XLK [(26,⟨⟨[0,1],[6],[],[]⟩,(.int .i64),λst y=>bfI a0 a1 y,λst y=>bfM a0 a1 y⟩)]
theorem X2n.p(a0:U9q)(a1:Int)(h:(XvV a0 a1)):X2n.F a0 a1:=by
 delta X2n.F ln tN wI eS
 simp only[Bs,B0,B1,Yaa,X01,YaA]
 obtain⟨hp,ht0,ht1,hl⟩:=h
 refine⟨⟨by omega,by omega,by omega,by simp,λk h1 h2=>by omega⟩,?_⟩
 intro i hI
 have q1:=hI.h1
 have q2:=hI.h2
 rw[w64 (x:=i+1) (by omega) (by omega)]
 refine⟨λhi=>⟨q1,hi,λh1=>⟨q1,hi,?_⟩,λh1=>⟨Xwl hp hI (Int.le_refl _) hi (by omega),by unfold bfM;omega⟩⟩,λhi=>?_⟩
 . obtain⟨e1,e2⟩:=Xp7 hp (Xwa hp hI (Int.le_refl _) hi (by omega)) (by omega)
   unfold XfB fBs
   rw[e1,e2,Yaz hi,YaT]
   exact Prod.ext (by simp only;omega) (by simp only;rw[YbI];simp)
 . obtain⟨e1,e2⟩:=Xp7 hp hI hi
   unfold XfB fBs
   rw[e1,e2,Yaw hi,Ybs]
   exact Prod.ext (by simp only;omega) rfl
def X2n.e:GE:=mE X7y func108 [3,4] [] [] (λi x=>X2n.L x.1 x.2) (λi x=>X2n.F x.1 x.2) λi x h _ _=>X2n.p x.1 x.2 h
def X58:Con:=cQ (.pair Xfc (.int .i64)) [.one,.one] (.int .i64) [(false,1)] (λa=>(pI2x a.1 a.2)) λa=>(XvD a.1 a.2)
def X0G.F(a0:(List Int))(a1:Int):Prop:=(eS [(0,.val false [.lst (.int .i64) a0 none]),(1,.val false [.int .i64 a1]),(7,.val false [.int .i64 (ln a0)])] [(0,.val false [.lst (.int .i64) a0 none]),(1,.val false [.int .i64 a1]),(7,.val false [.int .i64 (ln a0)])]/\((i2I a0 a1 0)/\∀(y1:Int),(i2I a0 a1 y1)->(X00 (decide (y1<(ln a0))) (0<=y1/\(y1<(ln a0)/\(X00 (a1==(List.getD a0 (tN y1) 0)) (Eq (y1,((),())) ((XvD a0 a1),((),()))) (eS [(0,.val false [.lst (.int .i64) a0 none]),(1,.val false [.int .i64 a1]),(7,.val false [.int .i64 (ln a0)])] [(0,.val false [.lst (.int .i64) a0 none]),(1,.val false [.int .i64 a1]),(7,.val false [.int .i64 (ln a0)])]/\(i2I a0 a1 (wI (y1+(1:Int))))/\(i2M a0 a1 (wI (y1+(1:Int))))<(i2M a0 a1 y1))))) (Eq ((-1),((),())) ((XvD a0 a1),((),()))))))
def X0G.L(a0:(List Int))(a1:Int):Nat->Option X0e:=XLK [(26,⟨⟨[0,1,7],[8],[],[]⟩,(.int .i64),λst y=>i2I a0 a1 y,λst y=>i2M a0 a1 y⟩)]
theorem X0G.p(a0:(List Int))(a1:Int)(h:(pI2x a0 a1)):X0G.F a0 a1:=by
 delta X0G.F ln tN wI eS
 simp only[Bs,B0,B1,Yaa,X01,YaA]
 have hl:a0.length=2:=h
 refine⟨⟨by omega,by omega,by omega,by omega⟩,?_⟩
 rintro i ⟨h1,h2,h3,h4⟩
 rw[w64 (x:=i+1) (by omega) (by omega)]
 refine⟨λhi=>⟨h1,hi,λe=>?_,λe=>⟨⟨by omega,by omega,?_,?_⟩,by unfold i2M;omega⟩⟩,λhi=>?_⟩
 . rcases(by omega:i=0\/i=1) with rfl | rfl
   . have e:a1=a0.getD 0 0:=e
     unfold XvD;rw[Yah e]
   . have e:a1=a0.getD 1 0:=e
     unfold XvD;rw[Yae (h3 (by omega)),Yah e]
 . rcases(by omega:i=0\/i=1) with rfl | rfl
   . exact λ_=>e
   . exact λ_=>h3 (by omega)
 . rcases(by omega:i=0\/i=1) with rfl | rfl
   . exact λh=>absurd h (by omega)
   . exact λ_=>e
 . unfold XvD;rw[Yae (h3 (by omega)),Yae (h4 (by omega))]
def X0G.e:GE:=mE X58 func186 [3] [] [] (λi x=>X0G.L x.1 x.2) (λi x=>X0G.F x.1 x.2) λi x h _ _=>X0G.p x.1 x.2 h
def X5s:Con:=cQ Xfc [.one] (.int .i64) [(false,1)] (λa=>(pI2 a)) λa=>(Xue a)
def X0P.F(a0:(List Int)):Prop:=(X00 (decide ((ln a0)<(1:Int))) False (0<=(0:Int)/\((0:Int)<(ln a0)/\(eS [(0,.val false [.lst (.int .i64) a0 none])] [(0,.val false [.lst (.int .i64) a0 none])]/\((m2I a0 (List.getD a0 (tN (0:Int)) 0) 1)/\∀(y1:(Int×Int)),(m2I a0 y1.1 y1.2)->(X00 (decide (y1.2<(ln a0))) (0<=y1.2/\(y1.2<(ln a0)/\(eS [(0,.val false [.lst (.int .i64) a0 none])] [(0,.val false [.lst (.int .i64) a0 none])]/\(m2I a0 (if (List.getD a0 (tN y1.2) 0)<y1.1 then(List.getD a0 (tN y1.2) 0) else y1.1) (wI (y1.2+(1:Int))))/\(m2M a0 (if (List.getD a0 (tN y1.2) 0)<y1.1 then(List.getD a0 (tN y1.2) 0) else y1.1) (wI (y1.2+(1:Int))))<(m2M a0 y1.1 y1.2)))) (Eq (y1.1,((),())) ((Xue a0),((),())))))))))
def X0P.L(a0:(List Int)):Nat->Option X0e:=XLK [(122,⟨⟨[0],[3,4],[],[]⟩,T0q,λst y=>m2I a0 y.1 y.2,λst y=>m2M a0 y.1 y.2⟩)]
theorem X0P.p(a0:(List Int))(h:(pI2 a0)):X0P.F a0:=by
 delta X0P.F ln tN wI eS
 simp only[Bs,B0,B1,Yaa,X01,YaA]
 have hl:a0.length=2:=h
 refine⟨λh1=>by omega,λh1=>⟨by omega,by omega,⟨by omega,by omega,λ_=>rfl,by omega⟩,?_⟩⟩
 rintro⟨v,i⟩ ⟨q1,q2,q3,q4⟩
 simp only at q1 q2 q3 q4 ⊢
 refine⟨λhi=>?_,λhi=>q4 (by omega)⟩
 have e:i=1:=by omega
 subst e
 rw[q3 rfl]
 exact⟨by omega,by omega,⟨by decide,by decide,λh=>absurd h (by decide),λ_=>rfl⟩,by unfold m2M;decide⟩
def X0P.e:GE:=mE X5s func187 [3] [] [] (λi x=>X0P.L x) (λi x=>X0P.F x) λi x h _ _=>X0P.p x h
def Xb0:Con:=cQ X7m [.one] (.int .i64) [(false,1)] (λa=>(XiC a)) λa=>(XaM a)
def X49.F(a0:U9q):Prop:=(0<=(2:Int)/\((2:Int)<=(2:Int)/\((2:Int)<=9223372036854775807/\(((8:Nat):Int)*(2:Int)<=140737488355328/\(eS [(3,.val false [.own (.int .i64) 1000387]),(7,.val false [.lst T0q a0 none]),(8,.val false [.int .i64 (ln a0)])] [(3,.val false [.own (.int .i64) 1000387]),(7,.val false [.lst T0q a0 none]),(8,.val false [.int .i64 (ln a0)])]/\((idI a0 0 (List.replicate (tN (2:Int)) (0:Int)))/\∀(y1:(Int×(List Int))),(idI a0 y1.1 y1.2)->(X00 (decide (y1.1<(ln a0))) (0<=y1.1/\(y1.1<(ln a0)/\(0<=((List.getD a0 (tN y1.1) (0,0)).2)/\(((List.getD a0 (tN y1.1) (0,0)).2)<(ln y1.2)/\(0<=((List.getD a0 (tN y1.1) (0,0)).2)/\(((List.getD a0 (tN y1.1) (0,0)).2)<(ln y1.2)/\(eS [(3,.val false [.own (.int .i64) 1000387]),(7,.val false [.lst T0q a0 none]),(8,.val false [.int .i64 (ln a0)])] [(3,.val false [.own (.int .i64) 1000387]),(7,.val false [.lst T0q a0 none]),(8,.val false [.int .i64 (ln a0)])]/\(idI a0 (wI (y1.1+(1:Int))) (List.set y1.2 (tN ((List.getD a0 (tN y1.1) (0,0)).2)) (wI ((List.getD y1.2 (tN ((List.getD a0 (tN y1.1) (0,0)).2)) 0)+(1:Int)))))/\(idM a0 (wI (y1.1+(1:Int))) (List.set y1.2 (tN ((List.getD a0 (tN y1.1) (0,0)).2)) (wI ((List.getD y1.2 (tN ((List.getD a0 (tN y1.1) (0,0)).2)) 0)+(1:Int)))))<(idM a0 y1.1 y1.2)))))))) ((pI2 y1.2)/\∀r2,(Eq r2 ((Xue y1.2),((),())))->((pI2x y1.2 r2.1)/\∀r3,(Eq r3 ((XvD y1.2 r2.1),((),())))->(Eq (r3.1,((),())) ((XaM a0),((),()))))))))))))
def X49.L(a0:U9q):Nat->Option X0e:=XLK [(58,⟨⟨[3,7,8],[9],[],[kC 3 0 1000387 3]⟩,(.pair (.int .i64) Xfc),λst y=>idI a0 y.1 y.2,λst y=>idM a0 y.1 y.2⟩)]
theorem X49.p(a0:U9q)(h:(XiC a0)):X49.F a0:=by
 delta X49.F ln tN wI eS
 simp only[Bs,B0,B1,Yaa,X01,YaA]
 obtain⟨hl,hs⟩:=h
 refine⟨by omega,by omega,by omega,by omega,⟨by omega,by omega,rfl⟩,?_⟩
 rintro⟨i,c⟩ ⟨q1,q2,q3⟩
 simp only at q1 q2 q3 ⊢
 subst q3
 have n0:=XmW 0 (a0.take i.toNat)
 have n1:=XmW 1 (a0.take i.toNat)
 rw[Yal]at n0 n1
 refine⟨λhi=>?_,λhi=>?_⟩
 . have hb:=hs _ (X1a (d:=((0,0):Bkt)) (l:=a0) (i:=i.toNat) (by omega))
   have t0:=XhT 0 q1 hi
   have t1:=XhT 1 q1 hi
   rw[w64 (x:=i+1) (by omega) (by omega)]
   generalize (a0.getD i.toNat (0,0)).2=b at hb t0 t1 ⊢
   have key:[nSh 0 (a0.take i.toNat),nSh 1 (a0.take i.toNat)].set b.toNat (IntKind.wrap .i64 ([nSh 0 (a0.take i.toNat),nSh 1 (a0.take i.toNat)].getD b.toNat 0+1))=[nSh 0 (a0.take (i+1).toNat),nSh 1 (a0.take (i+1).toNat)]:=by
    rcases hb with rfl | rfl
    . show [IntKind.wrap .i64 (nSh 0 (a0.take i.toNat)+1),nSh 1 (a0.take i.toNat)]=_
      rw[w64 (by omega) (by omega),t0,t1];simp
    . show [nSh 0 (a0.take i.toNat),IntKind.wrap .i64 (nSh 1 (a0.take i.toNat)+1)]=_
      rw[w64 (by omega) (by omega),t0,t1];simp
   rw[key]
   have hb2:0<=b/\b<2:=by omega
   simp only[Yad,Yai]
   exact⟨q1,hi,hb2.1,by omega,hb2.1,by omega,⟨by omega,by omega,rfl⟩,by unfold idM;omega⟩
 . have e:i.toNat=a0.length:=by omega
   rw[e,Yat]
   refine⟨rfl,rfl,?_⟩
   show(if (if nSh 1 a0<nSh 0 a0 then nSh 1 a0 else nSh 0 a0)=nSh 0 a0 then(0:Int) else if (if nSh 1 a0<nSh 0 a0 then nSh 1 a0 else nSh 0 a0)=nSh 1 a0 then 1 else -1)=_
   unfold XaM
   split<;>split<;>omega
def X49.e:GE:=mE Xb0 func148 [3] [X0G.e,X0P.e] [] (λi x=>X49.L x) (λi x=>X49.F x) λi x h _ _=>X49.p x h
def X8O:Con:=cQ X7m [.one] (.int .i64) [(false,1)] (λa=>(XiC a)) λa=>(XaM a)
def X2D.F(a0:U9q):Prop:=(0<=(2:Int)/\((2:Int)<=(2:Int)/\((2:Int)<=9223372036854775807/\(((8:Nat):Int)*(2:Int)<=140737488355328/\(eS [(0,.val false [.lst T0q a0 none]),(3,.val false [.own (.int .i64) 1000387])] [(0,.val false [.lst T0q a0 none]),(3,.val false [.own (.int .i64) 1000387])]/\((ieI a0 0 (List.replicate (tN (2:Int)) (0:Int)))/\∀(y1:(Int×(List Int))),(ieI a0 y1.1 y1.2)->(X00 (decide (y1.1<(ln a0))) (0<=y1.1/\(y1.1<(ln a0)/\(0<=y1.1/\(y1.1<(ln a0)/\(0<=((List.getD a0 (tN y1.1) (0,0)).2)/\(((List.getD a0 (tN y1.1) (0,0)).2)<(ln y1.2)/\(0<=((List.getD a0 (tN y1.1) (0,0)).2)/\(((List.getD a0 (tN y1.1) (0,0)).2)<(ln y1.2)/\(eS [(0,.val false [.lst T0q a0 none]),(3,.val false [.own (.int .i64) 1000387])] [(0,.val false [.lst T0q a0 none]),(3,.val false [.own (.int .i64) 1000387])]/\(ieI a0 (wI (y1.1+(1:Int))) (List.set y1.2 (tN ((List.getD a0 (tN y1.1) (0,0)).2)) (wI ((List.getD y1.2 (tN ((List.getD a0 (tN y1.1) (0,0)).2)) 0)+(1:Int)))))/\(ieM a0 (wI (y1.1+(1:Int))) (List.set y1.2 (tN ((List.getD a0 (tN y1.1) (0,0)).2)) (wI ((List.getD y1.2 (tN ((List.getD a0 (tN y1.1) (0,0)).2)) 0)+(1:Int)))))<(ieM a0 y1.1 y1.2)))))))))) (eS [(3,.val false [.lst (.int .i64) y1.2 none])] [(3,.val false [.lst (.int .i64) y1.2 none])]/\((iaI a0 0 0)/\∀(y2:(Int×Int)),(iaI a0 y2.1 y2.2)->(X00 (decide (y2.2<(2:Int))) (0<=y2.2/\(y2.2<(ln y1.2)/\(0<=y2.1/\(y2.1<(ln y1.2)/\(X00 (decide ((List.getD y1.2 (tN y2.2) 0)<(List.getD y1.2 (tN y2.1) 0))) (eS [(3,.val false [.lst (.int .i64) y1.2 none])] [(3,.val false [.lst (.int .i64) y1.2 none])]/\(iaI a0 y2.2 (wI (y2.2+(1:Int))))/\(iaM a0 y2.2 (wI (y2.2+(1:Int))))<(iaM a0 y2.1 y2.2)) (eS [(3,.val false [.lst (.int .i64) y1.2 none])] [(3,.val false [.lst (.int .i64) y1.2 none])]/\(iaI a0 y2.1 (wI (y2.2+(1:Int))))/\(iaM a0 y2.1 (wI (y2.2+(1:Int))))<(iaM a0 y2.1 y2.2))))))) (Eq (y2.1,((),())) ((XaM a0),((),())))))))))))))
def X2D.L(a0:U9q):Nat->Option X0e:=XLK [(58,⟨⟨[0,3],[4],[],[kC 3 0 1000387 3]⟩,(.pair (.int .i64) Xfc),λst y=>ieI a0 y.1 y.2,λst y=>ieM a0 y.1 y.2⟩),(250,⟨⟨[3],[5,6],[],[]⟩,T0q,λst y=>iaI a0 y.1 y.2,λst y=>iaM a0 y.1 y.2⟩)]
theorem X2D.p(a0:U9q)(h:(XiC a0)):X2D.F a0:=by
 delta X2D.F ln tN wI eS
 simp only[Bs,B0,B1,Yaa,X01,YaA]
 obtain⟨hl,hs⟩:=h
 refine⟨by omega,by omega,by omega,by omega,⟨by omega,by omega,rfl⟩,?_⟩
 rintro⟨i,c⟩ ⟨q1,q2,q3⟩
 simp only at q1 q2 q3 ⊢
 subst q3
 have n0:=XmW 0 (a0.take i.toNat)
 have n1:=XmW 1 (a0.take i.toNat)
 rw[Yal]at n0 n1
 refine⟨λhi=>?_,λhi=>?_⟩
 . have hb:=hs _ (X1a (d:=((0,0):Bkt)) (l:=a0) (i:=i.toNat) (by omega))
   have t0:=XhT 0 q1 hi
   have t1:=XhT 1 q1 hi
   rw[w64 (x:=i+1) (by omega) (by omega)]
   generalize (a0.getD i.toNat (0,0)).2=b at hb t0 t1 ⊢
   have key:[nSh 0 (a0.take i.toNat),nSh 1 (a0.take i.toNat)].set b.toNat (IntKind.wrap .i64 ([nSh 0 (a0.take i.toNat),nSh 1 (a0.take i.toNat)].getD b.toNat 0+1))=[nSh 0 (a0.take (i+1).toNat),nSh 1 (a0.take (i+1).toNat)]:=by
    rcases hb with rfl | rfl
    . show [IntKind.wrap .i64 (nSh 0 (a0.take i.toNat)+1),nSh 1 (a0.take i.toNat)]=_
      rw[w64 (by omega) (by omega),t0,t1];simp
    . show [nSh 0 (a0.take i.toNat),IntKind.wrap .i64 (nSh 1 (a0.take i.toNat)+1)]=_
      rw[w64 (by omega) (by omega),t0,t1];simp
   rw[key]
   have hb2:0<=b/\b<2:=by omega
   simp only[Yad,Yai]
   exact⟨q1,hi,q1,hi,hb2.1,by omega,hb2.1,by omega,⟨by omega,by omega,rfl⟩,by unfold ieM;omega⟩
 . have e:i.toNat=a0.length:=by omega
   rw[e,Yat]
   refine⟨⟨by omega,by omega,λ_=>rfl,by omega⟩,?_⟩
   rintro⟨b,i⟩ ⟨p1,p2,p3,p4⟩
   simp only at p1 p2 p3 p4 ⊢
   refine⟨λhi=>?_,λhi=>p4 (by omega)⟩
   have e0:=p3 (by omega)
   subst e0
   rw[w64 (x:=i+1) (by omega) (by omega)]
   have h2:((([nSh 0 a0,nSh 1 a0]:List Int).length:Nat):Int)=2:=rfl
   rcases(by omega:i=0\/i=1) with rfl | rfl
   . exact⟨by omega,by omega,by omega,by omega,λh=>absurd h (Int.lt_irrefl _),λ_=>⟨⟨by omega,by omega,λ_=>rfl,by omega⟩,by unfold iaM;decide⟩⟩
   . refine⟨by omega,by omega,by omega,by omega,λh=>⟨⟨by omega,by omega,by omega,λ_=>?_⟩,by unfold iaM;decide⟩,λh=>⟨⟨by omega,by omega,by omega,λ_=>?_⟩,by unfold iaM;decide⟩⟩
     . have h:nSh 1 a0<nSh 0 a0:=h
       unfold XaM;rw[Yah h]
     . have h:¬nSh 1 a0<nSh 0 a0:=h
       unfold XaM;rw[Yae h]
def X2D.e:GE:=mE X8O func109 [3] [] [] (λi x=>X2D.L x) (λi x=>X2D.F x) λi x h _ _=>X2D.p x h
def XmG(l:List Bkt)(n:Int):List Bkt:=XlU l (n,XaM l)
def Xr7(p:List Bkt×Str)(n:Int):List Bkt×Str:=(XmG p.1 n,p.2++(X20 n++X20 ((XmG p.1 n).getD (XfB p.1 n).1.toNat (0,0)).2))
def dGo(l:List Int)(p:List Bkt×Str):List Bkt×Str:=l.foldl Xr7 p
def Xbk(mark:Int)(n:Int):Bool:=!Xds n mark
def X9B(s:Stt)(o:Int×(Str×(Int×(Int×Str)))):Stt×Ans:=
 if X3k o.2.2.1 o.2.2.2.1=[] then(s,(1,(0,(0,[]))))
 else if (dGo ((X3k o.2.2.1 o.2.2.2.1).filter (Xbk s.2.2.1)) (s.2.2.2.1,[])).1.length>12 then(s,(3,(0,(0,[]))))
 else((s.1,(s.2.1,(s.2.2.1,((dGo ((X3k o.2.2.1 o.2.2.2.1).filter (Xbk s.2.2.1)) (s.2.2.2.1,[])).1,s.2.2.2.2)))),(0,(0,(s.2.2.1,(dGo ((X3k o.2.2.1 o.2.2.2.1).filter (Xbk s.2.2.1)) (s.2.2.2.1,[])).2))))
structure Xop (n:Nat) (l:List Bkt):Prop where
 r:Xf2 l
 s:∀b∈l,b.2=0\/b.2=1
 m:∀b∈l,b.1<=10995116277
 len:l.length<=n
abbrev Opp:=Int×(Str×(Int×(Int×Str)))
def Xk9(s:Stt)(o:Opp):Prop:=Xop 12 s.2.2.2.1
def X9Y(s:Stt)(o:Opp):Ans×Stt:=((X9B s o).2,(X9B s o).1)
def XnH(l:List Bkt):List Bkt:=l
def Xod(l:List Bkt):Prop:=l.length<=1099511627776
def cvL(s:Stt)(o:Opp):List Int:=X3k o.2.2.1 o.2.2.2.1
def cvN(s:Stt)(o:Opp):List Int:=(cvL s o).filter (Xbk s.2.2.1)
def roI(s:Stt)(o:Opp)(data:Str)(i k h mk fl c1 c2 c3:Int)(c4:Str)(l bk:List Bkt)(ca:List Ser)(fi:List Str)(se:List XfC):Prop:=
 (0<=i/\i<=(cvN s o).length)/\(l,data)=dGo ((cvN s o).take i.toNat) (s.2.2.2.1,[])/\((k,(h,(mk,(bk,((fl,(ca,fi)),se))))):Stt)=s/\Xop (12+i.toNat) l/\(data.length:Int)<=20*i
def roM(s:Stt)(o:Opp)(data:Str)(i k h mk fl c1 c2 c3:Int)(c4:Str)(l bk:List Bkt)(ca:List Ser)(fi:List Str)(se:List XfC):Nat:=((cvN s o).length - i).toNat
def rtI(s:Stt)(o:Opp)(data:Str)(i k h mk fl z0 z1 z2 z4:Int)(z5:List Ser)(z6:List Str)(z7:List XfC)(c1 c2 c3:Int)(c4:Str)(l bk:List Bkt)(ca:List Ser)(fi:List Str)(se:List XfC)(z3:List Bkt):Prop:=
 (0<=i/\i<=(cvL s o).length)/\(l,data)=dGo (((cvL s o).take i.toNat).filter (Xbk s.2.2.1)) (s.2.2.2.1,[])/\((k,(h,(mk,(bk,((fl,(ca,fi)),se))))):Stt)=s/\Xop (12+i.toNat) l/\(data.length:Int)<=20*i
def rtM(s:Stt)(o:Opp)(data:Str)(i k h mk fl z0 z1 z2 z4:Int)(z5:List Ser)(z6:List Str)(z7:List XfC)(c1 c2 c3:Int)(c4:Str)(l bk:List Bkt)(ca:List Ser)(fi:List Str)(se:List XfC)(z3:List Bkt):Nat:=((cvL s o).length - i).toNat
theorem Xv0{a b x:Int}(h:x∈X3k a b):0<=x/\x<=10995116277:=by
 unfold X3k at h
 split at h
 . cases h
 . rename_i hn
   simp only[Xf3,YaM,YbQ]at h
   obtain⟨j,hj,e⟩:=h
   omega
theorem Xss(a b:Int):(X3k a b).length<=8:=by
 unfold X3k
 split
 . simp
 . rw[XfJ];omega
theorem XtR(l:List Bkt):XaM l=0\/XaM l=1:=by unfold XaM;split<;>simp
theorem r_ok{n:Nat}{l:List Bkt}{x:Int}(h:Xop n l)(hx:0<=x/\x<=10995116277):Xop (n+1) (XmG l x):=by
 have hl:=Xin l (x,XaM l)
 have:=h.len
 refine⟨⟨XlS h.r.1 _,λy hy=>?_⟩,λy hy=>?_,λy hy=>?_,by unfold XmG;omega⟩
 . rcases Xdb.1 hy with hy | ⟨rfl,_⟩
   . exact h.r.2 y hy
   . exact⟨hx.1,by simp only;omega⟩
 . rcases Xdb.1 hy with hy | ⟨rfl,_⟩
   . exact h.s y hy
   . exact XtR l
 . rcases Xdb.1 hy with hy | ⟨rfl,_⟩
   . exact h.m y hy
   . exact hx.2
theorem Xop.more{n m:Nat}{l:List Bkt}(h:Xop n l)(hm:n<=m):Xop m l:=⟨h.r,h.s,h.m,by have:=h.len;omega⟩
theorem XvX{l:List Bkt}{x:Int}(h:(XfB l x).2=true):XmG l x=l:=by
 have h:Xpl l x=true:=h
 unfold XmG XlU;rw[Yah h]
theorem r_no{l:List Bkt}{x:Int}(h:(XfB l x).2=false):l.take (XfB l x).1.toNat++([(x,XaM l)]++l.drop (XfB l x).1.toNat)=XmG l x:=by
 have h:Xpl l x=false:=h
 unfold XmG XlU;rw[Yae (by rw[h];decide)];rfl
theorem XvO(l:List Bkt)(x:Int):0<=(XfB l x).1/\(XfB l x).1<=l.length:=⟨Int.natCast_nonneg _,by have:=Xpx (lt:=ltI) (key:=Prod.fst) x l;unfold XfB fBs;simp only;omega⟩
theorem r_at(l:List Bkt)(x:Int):(XfB l x).1<((XmG l x).length:Int):=by
 have hp:=XvO l x
 cases hh:(XfB l x).2 with
 | false=>
   rw[<-r_no hh]
   simp only[Yab,Yad,Yai,Yal,Yar]
   omega
 | true=>
   rw[XvX hh]
   have hT:Xpl l x=true:=hh
   obtain⟨y,hy,e⟩:=XeP.1 hT
   by_cases hc:(XfB l x).1<(l.length:Int)
   . exact hc
   . have e2:pos ltI Prod.fst x l=l.length:=by
      have:(XfB l x).1=((pos ltI Prod.fst x l:Nat):Int):=rfl
      omega
     have:=Xhe (lt:=ltI) (key:=Prod.fst) (k:=x) (l:=l) (x:=y) (by rw[e2,Yat];exact hy)
     simp only[ltI,Yaj]at this
     omega
theorem dGo_s(c:List Int)(p:List Bkt×Str){i:Int}(h:0<=i)(hi:i<c.length):dGo (c.take (i+1).toNat) p=Xr7 (dGo (c.take i.toNat) p) (c.getD i.toNat 0):=by
 rw[tn1 h,X0J 0 (by omega)];unfold dGo;rw[YbG];rfl
theorem Xuv{n:Nat}{l:List Bkt}{d:Str}{i:Int}{x:Int}(hn:n<=100)(h:Xop n l)(hx:0<=x/\x<=10995116277)(hd:(d.length:Int)<=20*i):
 Xop (n+1) (Xr7 (l,d) x).1/\((Xr7 (l,d) x).2.length:Int)<=20*(i+1)/\XvV l x/\XiC l:=by
 have v1:=X0w x
 have v2:=X0w ((XmG l x).getD (XfB l x).1.toNat (0,0)).2
 refine⟨r_ok h hx,?_,⟨h.r,hx.1,by omega,?_⟩,?_⟩
 . simp only[Xr7,Yab];omega
 . have:=h.len;omega
 . exact⟨by have:=h.len;omega,h.s⟩
def X1v:Con:=cW X7m [.one] X7m [(false,1)] [(0,43)] (λa=>(Xod a)) λa=>(XnH a)
def X0h.F(a0:U9q):Prop:=(∀(b1:Bool),(b1=true->a0=[])->(X00 b1 (Eq (([]:U9q),((),())) ((XnH a0),((),()))) (List.length ([]:List (Int×Int))+List.length a0<=9223372036854775807/\((List.length ([]:List (Int×Int))+List.length a0)*16<=140737488355328/\(Eq ((([]:List (Int×Int))++a0),((),())) ((XnH a0),((),())))))))
theorem X0h.p(a0:U9q)(h:(Xod a0))(hw:Wf X1v.A a0):X0h.F a0:=by
 unfold X0h.F
 have hp:a0.length<=1099511627776:=h
 simp only[Bs,B0,B1,Yaa,X01,XnH,Xod]
 repeat' (with_reducible (first | (refine And.intro ?_ ?_) | intro _))
 all_goals (try simp (disch:=omega) only[w64,wu8,tn0,tn1,tm1,tm2,Yab,Yad,Yai]at*)
 all_goals (try simp (disch:=omega) only[w64,wu8,tn0,tn1,tm1,tm2,Yab,Yad,Yai]at*)
 all_goals (try omega)
 all_goals (try grind[])
 all_goals (try simp_all)
def X0h.e:GE:=mE X1v func92 [24] [] [] noL (λi x=>X0h.F x) λi x h _ hw=>X0h.p x h hw
def X6x:Con:={io:=true,I:=T4q,ownI:=[(3,43),(5,109),(6,9),(7,64)],A:=XjH,shA:=[.agg 5],R:=XkE,shR:=[(true,4)],pre:=λi a=>(Xk9 i a),f:=some λi a=>((X9Y i a).1,((X9Y i a).2,()))}
def X2K.F(i0:U1q)(a0:Xc5):Prop:=(True/\∀r1,(Eq r1 ((X3k a0.2.2.1 a0.2.2.2.1),((),())))->(X00 ((ln r1.1)==(0:Int)) (Eq ((1,(0,(0,[]))),((i0.1,(i0.2.1,(i0.2.2.1,(i0.2.2.2.1,((i0.2.2.2.2.1.1,(i0.2.2.2.2.1.2.1,i0.2.2.2.2.1.2.2)),i0.2.2.2.2.2))))),())) ((X9Y i0 a0).1,((X9Y i0 a0).2,()))) ((Xh5 r1.1 (i0.1,(i0.2.1,i0.2.2.1)))/\∀r2,(Eq r2 ((Xjv r1.1 (i0.1,(i0.2.1,i0.2.2.1))),((),())))->((Xod i0.2.2.2.1)/\∀r3,(Eq r3 ((XnH i0.2.2.2.1),((),())))->(eS [(0,.box 0 0),(2,.pp 0 0),(4,.box 5 0),(29,.val false [.lst (.int .i64) r2.1 none]),(30,.val false [.int .i64 (ln r2.1)])] [(0,.box 0 0),(2,.pp 0 0),(4,.box 5 0),(29,.val false [.lst (.int .i64) r2.1 none]),(30,.val false [.int .i64 (ln r2.1)])]/\((roI i0 a0 [] 0 i0.1 i0.2.1 i0.2.2.1 i0.2.2.2.2.1.1 0 0 0 [] r3.1 i0.2.2.2.1 i0.2.2.2.2.1.2.1 i0.2.2.2.2.1.2.2 i0.2.2.2.2.2)/\∀(y4:(U6q×(Int×(Int×(Int×(Int×(Int×(Int×(Int×(Int×(U6q×(U9q×(U9q×((List U3q)×((List U6q)×(List U7q)))))))))))))))),(roI i0 a0 y4.1 y4.2.1 y4.2.2.1 y4.2.2.2.1 y4.2.2.2.2.1 y4.2.2.2.2.2.1 y4.2.2.2.2.2.2.1 y4.2.2.2.2.2.2.2.1 y4.2.2.2.2.2.2.2.2.1 y4.2.2.2.2.2.2.2.2.2.1 y4.2.2.2.2.2.2.2.2.2.2.1 y4.2.2.2.2.2.2.2.2.2.2.2.1 y4.2.2.2.2.2.2.2.2.2.2.2.2.1 y4.2.2.2.2.2.2.2.2.2.2.2.2.2.1 y4.2.2.2.2.2.2.2.2.2.2.2.2.2.2)->(X00 (decide (y4.2.1<(ln r2.1))) (0<=y4.2.1/\(y4.2.1<(ln r2.1)/\((XvV y4.2.2.2.2.2.2.2.2.2.2.1 (List.getD r2.1 (tN y4.2.1) 0))/\∀r5,(Eq r5 ((XfB y4.2.2.2.2.2.2.2.2.2.2.1 (List.getD r2.1 (tN y4.2.1) 0)),((),())))->(X00 (!r5.1.2) ((XiC y4.2.2.2.2.2.2.2.2.2.2.1)/\∀r6,(Eq r6 ((XaM y4.2.2.2.2.2.2.2.2.2.2.1),((),())))->((X44 y4.2.2.2.2.2.2.2.2.2.2.1 r5.1.1 [((List.getD r2.1 (tN y4.2.1) 0),r6.1)])/\∀r7,(Eq r7 ((X2a y4.2.2.2.2.2.2.2.2.2.2.1 r5.1.1 [((List.getD r2.1 (tN y4.2.1) 0),r6.1)]),((),())))->(True/\∀r8,(Eq r8 ((X20 (List.getD r2.1 (tN y4.2.1) 0)),((),())))->(0<=r5.1.1/\(r5.1.1<(ln r7.1)/\(True/\∀r9,(Eq r9 ((X20 ((List.getD r7.1 (tN r5.1.1) (0,0)).2)),((),())))->(List.length r8.1+List.length r9.1<=9223372036854775807/\(List.length y4.1+List.length (r8.1++r9.1)<=9223372036854775807/\(eS [(0,.box 0 0),(2,.pp 0 0),(4,.box 5 0),(29,.val false [.lst (.int .i64) r2.1 none]),(30,.val false [.int .i64 (ln r2.1)])] [(0,.box 0 0),(2,.pp 0 0),(4,.box 5 0),(29,.val false [.lst (.int .i64) r2.1 none]),(30,.val false [.int .i64 (ln r2.1)])]/\(roI i0 a0 (y4.1++(r8.1++r9.1)) (wI (y4.2.1+(1:Int))) y4.2.2.1 y4.2.2.2.1 y4.2.2.2.2.1 y4.2.2.2.2.2.1 y4.2.2.2.2.2.2.1 y4.2.2.2.2.2.2.2.1 y4.2.2.2.2.2.2.2.2.1 y4.2.2.2.2.2.2.2.2.2.1 r7.1 y4.2.2.2.2.2.2.2.2.2.2.2.1 y4.2.2.2.2.2.2.2.2.2.2.2.2.1 y4.2.2.2.2.2.2.2.2.2.2.2.2.2.1 y4.2.2.2.2.2.2.2.2.2.2.2.2.2.2)/\(roM i0 a0 (y4.1++(r8.1++r9.1)) (wI (y4.2.1+(1:Int))) y4.2.2.1 y4.2.2.2.1 y4.2.2.2.2.1 y4.2.2.2.2.2.1 y4.2.2.2.2.2.2.1 y4.2.2.2.2.2.2.2.1 y4.2.2.2.2.2.2.2.2.1 y4.2.2.2.2.2.2.2.2.2.1 r7.1 y4.2.2.2.2.2.2.2.2.2.2.2.1 y4.2.2.2.2.2.2.2.2.2.2.2.2.1 y4.2.2.2.2.2.2.2.2.2.2.2.2.2.1 y4.2.2.2.2.2.2.2.2.2.2.2.2.2.2)<(roM i0 a0 y4.1 y4.2.1 y4.2.2.1 y4.2.2.2.1 y4.2.2.2.2.1 y4.2.2.2.2.2.1 y4.2.2.2.2.2.2.1 y4.2.2.2.2.2.2.2.1 y4.2.2.2.2.2.2.2.2.1 y4.2.2.2.2.2.2.2.2.2.1 y4.2.2.2.2.2.2.2.2.2.2.1 y4.2.2.2.2.2.2.2.2.2.2.2.1 y4.2.2.2.2.2.2.2.2.2.2.2.2.1 y4.2.2.2.2.2.2.2.2.2.2.2.2.2.1 y4.2.2.2.2.2.2.2.2.2.2.2.2.2.2)))))))))) (True/\∀r10,(Eq r10 ((X20 (List.getD r2.1 (tN y4.2.1) 0)),((),())))->(0<=r5.1.1/\(r5.1.1<(ln y4.2.2.2.2.2.2.2.2.2.2.1)/\(True/\∀r11,(Eq r11 ((X20 ((List.getD y4.2.2.2.2.2.2.2.2.2.2.1 (tN r5.1.1) (0,0)).2)),((),())))->(List.length r10.1+List.length r11.1<=9223372036854775807/\(List.length y4.1+List.length (r10.1++r11.1)<=9223372036854775807/\(eS [(0,.box 0 0),(2,.pp 0 0),(4,.box 5 0),(29,.val false [.lst (.int .i64) r2.1 none]),(30,.val false [.int .i64 (ln r2.1)])] [(0,.box 0 0),(2,.pp 0 0),(4,.box 5 0),(29,.val false [.lst (.int .i64) r2.1 none]),(30,.val false [.int .i64 (ln r2.1)])]/\(roI i0 a0 (y4.1++(r10.1++r11.1)) (wI (y4.2.1+(1:Int))) y4.2.2.1 y4.2.2.2.1 y4.2.2.2.2.1 y4.2.2.2.2.2.1 y4.2.2.2.2.2.2.1 y4.2.2.2.2.2.2.2.1 y4.2.2.2.2.2.2.2.2.1 y4.2.2.2.2.2.2.2.2.2.1 y4.2.2.2.2.2.2.2.2.2.2.1 y4.2.2.2.2.2.2.2.2.2.2.2.1 y4.2.2.2.2.2.2.2.2.2.2.2.2.1 y4.2.2.2.2.2.2.2.2.2.2.2.2.2.1 y4.2.2.2.2.2.2.2.2.2.2.2.2.2.2)/\(roM i0 a0 (y4.1++(r10.1++r11.1)) (wI (y4.2.1+(1:Int))) y4.2.2.1 y4.2.2.2.1 y4.2.2.2.2.1 y4.2.2.2.2.2.1 y4.2.2.2.2.2.2.1 y4.2.2.2.2.2.2.2.1 y4.2.2.2.2.2.2.2.2.1 y4.2.2.2.2.2.2.2.2.2.1 y4.2.2.2.2.2.2.2.2.2.2.1 y4.2.2.2.2.2.2.2.2.2.2.2.1 y4.2.2.2.2.2.2.2.2.2.2.2.2.1 y4.2.2.2.2.2.2.2.2.2.2.2.2.2.1 y4.2.2.2.2.2.2.2.2.2.2.2.2.2.2)<(roM i0 a0 y4.1 y4.2.1 y4.2.2.1 y4.2.2.2.1 y4.2.2.2.2.1 y4.2.2.2.2.2.1 y4.2.2.2.2.2.2.1 y4.2.2.2.2.2.2.2.1 y4.2.2.2.2.2.2.2.2.1 y4.2.2.2.2.2.2.2.2.2.1 y4.2.2.2.2.2.2.2.2.2.2.1 y4.2.2.2.2.2.2.2.2.2.2.2.1 y4.2.2.2.2.2.2.2.2.2.2.2.2.1 y4.2.2.2.2.2.2.2.2.2.2.2.2.2.1 y4.2.2.2.2.2.2.2.2.2.2.2.2.2.2)))))))))))) (X00 (decide ((ln y4.2.2.2.2.2.2.2.2.2.2.1)>(12:Int))) (Eq ((3,(0,(0,[]))),((y4.2.2.1,(y4.2.2.2.1,(y4.2.2.2.2.1,(y4.2.2.2.2.2.2.2.2.2.2.2.1,((y4.2.2.2.2.2.1,(y4.2.2.2.2.2.2.2.2.2.2.2.2.1,y4.2.2.2.2.2.2.2.2.2.2.2.2.2.1)),y4.2.2.2.2.2.2.2.2.2.2.2.2.2.2))))),())) ((X9Y i0 a0).1,((X9Y i0 a0).2,()))) (Eq ((0,(0,(y4.2.2.2.2.1,y4.1))),((y4.2.2.1,(y4.2.2.2.1,(y4.2.2.2.2.1,(y4.2.2.2.2.2.2.2.2.2.2.1,((y4.2.2.2.2.2.1,(y4.2.2.2.2.2.2.2.2.2.2.2.2.1,y4.2.2.2.2.2.2.2.2.2.2.2.2.2.1)),y4.2.2.2.2.2.2.2.2.2.2.2.2.2.2))))),())) ((X9Y i0 a0).1,((X9Y i0 a0).2,())))))))))))
def X2K.L(i0:U1q)(a0:Xc5):Nat->Option X0e:=XLK [(1018,⟨⟨[0,2,4,29,30],[6,7,31],[0,5],[kC 6 0 1000771 43,kA 0 3 13800009 43,kA 0 5 13800013 109,kA 0 6 13800015 9,kA 0 7 13800017 64]⟩,(.pair .str (.pair (.int .i64) (.pair (.int .i64) (.pair (.int .i64) (.pair (.int .i64) (.pair (.int .i64) (.pair (.int .i64) (.pair (.int .i64) (.pair (.int .i64) (.pair .str (.pair X7m (.pair X7m (.pair X5m (.pair Xf4 (.list T2q))))))))))))))),λst y=>roI i0 a0 y.1 y.2.1 y.2.2.1 y.2.2.2.1 y.2.2.2.2.1 y.2.2.2.2.2.1 y.2.2.2.2.2.2.1 y.2.2.2.2.2.2.2.1 y.2.2.2.2.2.2.2.2.1 y.2.2.2.2.2.2.2.2.2.1 y.2.2.2.2.2.2.2.2.2.2.1 y.2.2.2.2.2.2.2.2.2.2.2.1 y.2.2.2.2.2.2.2.2.2.2.2.2.1 y.2.2.2.2.2.2.2.2.2.2.2.2.2.1 y.2.2.2.2.2.2.2.2.2.2.2.2.2.2,λst y=>roM i0 a0 y.1 y.2.1 y.2.2.1 y.2.2.2.1 y.2.2.2.2.1 y.2.2.2.2.2.1 y.2.2.2.2.2.2.1 y.2.2.2.2.2.2.2.1 y.2.2.2.2.2.2.2.2.1 y.2.2.2.2.2.2.2.2.2.1 y.2.2.2.2.2.2.2.2.2.2.1 y.2.2.2.2.2.2.2.2.2.2.2.1 y.2.2.2.2.2.2.2.2.2.2.2.2.1 y.2.2.2.2.2.2.2.2.2.2.2.2.2.1 y.2.2.2.2.2.2.2.2.2.2.2.2.2.2⟩)]
theorem X2K.p(i0:U1q)(a0:Xc5)(h:(Xk9 i0 a0))(hi:Wf X6x.I i0):X2K.F i0 a0:=by
 delta X2K.F ln tN wI eS
 simp only[Bs,B0,B1,Yaa,X01,YaA]
 have hB:Xop 12 i0.2.2.2.1:=h
 have hBl:=hB.len
 have hcl:=Xss a0.2.2.1 a0.2.2.2.1
 have hnl:(cvN i0 a0).length<=8:=Ya5 (Ycr _ _) hcl
 refine⟨λh1=>?_,λh1=>⟨by unfold Xh5;omega,by unfold Xod;omega,⟨⟨by omega,by omega⟩,rfl,rfl,hB.more (by omega),by simp⟩,?_⟩⟩
 . have e:X3k a0.2.2.1 a0.2.2.2.1=[]:=YaL.1 (by omega)
   unfold X9Y X9B;rw[Yah e];exact⟨rfl,rfl⟩
 have hne:¬X3k a0.2.2.1 a0.2.2.2.1=[]:=λe=>h1 (by rw[e];rfl)
 rintro⟨data,i,k,hh,mk,fl,c1,c2,c3,c4,l,bk,ca,fi,se⟩ ⟨⟨q1,q2⟩,q3,q4,q5,q6⟩
 simp only at q1 q2 q3 q4 q5 q6 ⊢
 have eL:Xjv (X3k a0.2.2.1 a0.2.2.2.1) (i0.1,(i0.2.1,i0.2.2.1))=cvN i0 a0:=rfl
 simp only[eL]
 refine⟨λhi=>?_,λhi=>?_⟩
 . have hx:0<=(cvN i0 a0).getD i.toNat 0/\(cvN i0 a0).getD i.toNat 0<=10995116277:=Xv0 (Ybz.1 (X1a (d:=(0:Int)) (l:=cvN i0 a0) (i:=i.toNat) (by omega))).1
   have hs:=dGo_s (cvN i0 a0) (i0.2.2.2.1,[]) q1 hi
   rw[<-q3]at hs
   generalize (cvN i0 a0).getD i.toNat 0=x at hx hs ⊢
   obtain⟨s1,s2,s3,s4⟩:=Xuv (d:=data) (i:=i) (by omega) q5 hx q6
   have hp:=XvO l x
   have ha:=r_at l x
   have hll:=q5.len
   have hd:(data.length:Int)<=1000:=by omega
   have v1:=X0w x
   have v2:=X0w ((XmG l x).getD (XfB l x).1.toNat (0,0)).2
   rw[w64 (x:=i+1) (by omega) (by omega)]
   have out:roI i0 a0 (data++(X20 x++X20 ((XmG l x).getD (XfB l x).1.toNat (0,0)).2)) (i+1) k hh mk fl c1 c2 c3 c4 (XmG l x) bk ca fi se:=by
    refine⟨⟨by omega,by omega⟩,hs.symm,q4,?_,s2⟩
    rw[show 12+(i+1).toNat=12+i.toNat+1 by omega];exact s1
   refine⟨q1,hi,s3,λhb=>?_,λhb=>?_⟩
   . have er:=r_no hb
     simp only[X2a,er]
     exact⟨s4,⟨hp.1,hp.2,by simp,by simp only[Yad,Yai];omega⟩,hp.1,ha,by omega,by omega,out,by unfold roM;omega⟩
   . have er:=XvX hb
     rw[er]at ha v2 out
     exact⟨hp.1,ha,by omega,by omega,out,by unfold roM;omega⟩
 . have e:i.toNat=(cvN i0 a0).length:=by omega
   rw[e,Yat]at q3
   have eg:dGo ((X3k a0.2.2.1 a0.2.2.2.1).filter (Xbk i0.2.2.1)) (i0.2.2.2.1,[])=(l,data):=q3.symm
   refine⟨λh12=>?_,λh12=>?_⟩
   . unfold X9Y X9B
     rw[Yae hne,eg,Yah (by simp only;omega)]
     exact⟨rfl,q4⟩
   . unfold X9Y X9B
     rw[Yae hne,eg,Yae (by simp only;omega),<-q4]
     exact⟨rfl,rfl⟩
def X2K.e:GE:=mE X6x func98 [38] [X0h.e,X4V.e,X0p.e,X1M.e,X30.e,X2M.e,X49.e,X5l.e] [] (λi x=>X2K.L i x) (λi x=>X2K.F i x) λi x h hi _=>X2K.p i x h (hi rfl)
def X9q:Con:={A:=(.pair T4q XjH),shA:=[.agg 8,.agg 5],ownA:=[(3,43),(5,109),(6,9),(7,64)],R:=(.pair T4q XkE),shR:=[(true,8),(true,4)],fresh:=[(3,43),(5,109),(6,9),(7,64)],pre:=λ_ a=>(Xk9 a.1 a.2),f:=some λ_ a=>((X9B a.1 a.2),((),()))}
def X2t.F(a0:U1q)(a1:Xc5):Prop:=(True/\∀r1,(Eq r1 ((X3k a1.2.2.1 a1.2.2.2.1),((),())))->(X00 ((ln r1.1)==(0:Int)) (Eq (((a0.1,(a0.2.1,(a0.2.2.1,(a0.2.2.2.1,((a0.2.2.2.2.1.1,(a0.2.2.2.2.1.2.1,a0.2.2.2.2.1.2.2)),a0.2.2.2.2.2))))),(1,(0,(0,[])))),((),())) ((X9B a0 a1),((),()))) (List.length ([]:List (Int×Int))+List.length a0.2.2.2.1<=9223372036854775807/\((List.length ([]:List (Int×Int))+List.length a0.2.2.2.1)*16<=140737488355328/\(eS [(2,.box 3 0),(4,.box 5 0),(5,.box 6 0),(6,.val false [.lst (.int .i64) r1.1 none])] [(2,.box 3 0),(4,.box 5 0),(5,.box 6 0),(6,.val false [.lst (.int .i64) r1.1 none])]/\((rtI a0 a1 [] 0 a0.1 a0.2.1 a0.2.2.1 a0.2.2.2.2.1.1 0 0 0 0 ([]:List U3q) ([]:List U6q) ([]:List U7q) 0 0 0 [] (([]:List (Int×Int))++a0.2.2.2.1) a0.2.2.2.1 a0.2.2.2.2.1.2.1 a0.2.2.2.2.1.2.2 a0.2.2.2.2.2 ([]:List (Int×Int)))/\∀(y2:(U6q×U25q)),(rtI a0 a1 y2.1 y2.2.1 y2.2.2.1 y2.2.2.2.1 y2.2.2.2.2.1 y2.2.2.2.2.2.1 y2.2.2.2.2.2.2.1 y2.2.2.2.2.2.2.2.1 y2.2.2.2.2.2.2.2.2.1 y2.2.2.2.2.2.2.2.2.2.1 y2.2.2.2.2.2.2.2.2.2.2.1 y2.2.2.2.2.2.2.2.2.2.2.2.1 y2.2.2.2.2.2.2.2.2.2.2.2.2.1 y2.2.2.2.2.2.2.2.2.2.2.2.2.2.1 y2.2.2.2.2.2.2.2.2.2.2.2.2.2.2.1 y2.2.2.2.2.2.2.2.2.2.2.2.2.2.2.2.1 y2.2.2.2.2.2.2.2.2.2.2.2.2.2.2.2.2.1 y2.2.2.2.2.2.2.2.2.2.2.2.2.2.2.2.2.2.1 y2.2.2.2.2.2.2.2.2.2.2.2.2.2.2.2.2.2.2.1 y2.2.2.2.2.2.2.2.2.2.2.2.2.2.2.2.2.2.2.2.1 y2.2.2.2.2.2.2.2.2.2.2.2.2.2.2.2.2.2.2.2.2.1 y2.2.2.2.2.2.2.2.2.2.2.2.2.2.2.2.2.2.2.2.2.2.1 y2.2.2.2.2.2.2.2.2.2.2.2.2.2.2.2.2.2.2.2.2.2.2)->(X00 (decide (y2.2.1<(ln r1.1))) (0<=y2.2.1/\(y2.2.1<(ln r1.1)/\(True/\∀r3,(Eq r3 ((Xds (List.getD r1.1 (tN y2.2.1) 0) y2.2.2.2.2.1),((),())))->(X00 r3.1 (eS [(2,.box 3 0),(4,.box 5 0),(5,.box 6 0),(6,.val false [.lst (.int .i64) r1.1 none])] [(2,.box 3 0),(4,.box 5 0),(5,.box 6 0),(6,.val false [.lst (.int .i64) r1.1 none])]/\(rtI a0 a1 y2.1 (wI (y2.2.1+(1:Int))) y2.2.2.1 y2.2.2.2.1 y2.2.2.2.2.1 y2.2.2.2.2.2.1 y2.2.2.2.2.2.2.1 y2.2.2.2.2.2.2.2.1 y2.2.2.2.2.2.2.2.2.1 y2.2.2.2.2.2.2.2.2.2.1 y2.2.2.2.2.2.2.2.2.2.2.1 y2.2.2.2.2.2.2.2.2.2.2.2.1 y2.2.2.2.2.2.2.2.2.2.2.2.2.1 y2.2.2.2.2.2.2.2.2.2.2.2.2.2.1 y2.2.2.2.2.2.2.2.2.2.2.2.2.2.2.1 y2.2.2.2.2.2.2.2.2.2.2.2.2.2.2.2.1 y2.2.2.2.2.2.2.2.2.2.2.2.2.2.2.2.2.1 y2.2.2.2.2.2.2.2.2.2.2.2.2.2.2.2.2.2.1 y2.2.2.2.2.2.2.2.2.2.2.2.2.2.2.2.2.2.2.1 y2.2.2.2.2.2.2.2.2.2.2.2.2.2.2.2.2.2.2.2.1 y2.2.2.2.2.2.2.2.2.2.2.2.2.2.2.2.2.2.2.2.2.1 y2.2.2.2.2.2.2.2.2.2.2.2.2.2.2.2.2.2.2.2.2.2.1 y2.2.2.2.2.2.2.2.2.2.2.2.2.2.2.2.2.2.2.2.2.2.2)/\(rtM a0 a1 y2.1 (wI (y2.2.1+(1:Int))) y2.2.2.1 y2.2.2.2.1 y2.2.2.2.2.1 y2.2.2.2.2.2.1 y2.2.2.2.2.2.2.1 y2.2.2.2.2.2.2.2.1 y2.2.2.2.2.2.2.2.2.1 y2.2.2.2.2.2.2.2.2.2.1 y2.2.2.2.2.2.2.2.2.2.2.1 y2.2.2.2.2.2.2.2.2.2.2.2.1 y2.2.2.2.2.2.2.2.2.2.2.2.2.1 y2.2.2.2.2.2.2.2.2.2.2.2.2.2.1 y2.2.2.2.2.2.2.2.2.2.2.2.2.2.2.1 y2.2.2.2.2.2.2.2.2.2.2.2.2.2.2.2.1 y2.2.2.2.2.2.2.2.2.2.2.2.2.2.2.2.2.1 y2.2.2.2.2.2.2.2.2.2.2.2.2.2.2.2.2.2.1 y2.2.2.2.2.2.2.2.2.2.2.2.2.2.2.2.2.2.2.1 y2.2.2.2.2.2.2.2.2.2.2.2.2.2.2.2.2.2.2.2.1 y2.2.2.2.2.2.2.2.2.2.2.2.2.2.2.2.2.2.2.2.2.1 y2.2.2.2.2.2.2.2.2.2.2.2.2.2.2.2.2.2.2.2.2.2.1 y2.2.2.2.2.2.2.2.2.2.2.2.2.2.2.2.2.2.2.2.2.2.2)<(rtM a0 a1 y2.1 y2.2.1 y2.2.2.1 y2.2.2.2.1 y2.2.2.2.2.1 y2.2.2.2.2.2.1 y2.2.2.2.2.2.2.1 y2.2.2.2.2.2.2.2.1 y2.2.2.2.2.2.2.2.2.1 y2.2.2.2.2.2.2.2.2.2.1 y2.2.2.2.2.2.2.2.2.2.2.1 y2.2.2.2.2.2.2.2.2.2.2.2.1 y2.2.2.2.2.2.2.2.2.2.2.2.2.1 y2.2.2.2.2.2.2.2.2.2.2.2.2.2.1 y2.2.2.2.2.2.2.2.2.2.2.2.2.2.2.1 y2.2.2.2.2.2.2.2.2.2.2.2.2.2.2.2.1 y2.2.2.2.2.2.2.2.2.2.2.2.2.2.2.2.2.1 y2.2.2.2.2.2.2.2.2.2.2.2.2.2.2.2.2.2.1 y2.2.2.2.2.2.2.2.2.2.2.2.2.2.2.2.2.2.2.1 y2.2.2.2.2.2.2.2.2.2.2.2.2.2.2.2.2.2.2.2.1 y2.2.2.2.2.2.2.2.2.2.2.2.2.2.2.2.2.2.2.2.2.1 y2.2.2.2.2.2.2.2.2.2.2.2.2.2.2.2.2.2.2.2.2.2.1 y2.2.2.2.2.2.2.2.2.2.2.2.2.2.2.2.2.2.2.2.2.2.2)) (0<=y2.2.1/\(y2.2.1<(ln r1.1)/\((XvV y2.2.2.2.2.2.2.2.2.2.2.2.2.2.2.2.2.2.1 (List.getD r1.1 (tN y2.2.1) 0))/\∀r4,(Eq r4 ((XfB y2.2.2.2.2.2.2.2.2.2.2.2.2.2.2.2.2.2.1 (List.getD r1.1 (tN y2.2.1) 0)),((),())))->(X00 (!r4.1.2) (0<=r4.1.1/\(r4.1.1<=(ln y2.2.2.2.2.2.2.2.2.2.2.2.2.2.2.2.2.2.1)/\(List.length ([]:List (Int×Int))+List.length (List.drop 0 (List.take (tN r4.1.1) y2.2.2.2.2.2.2.2.2.2.2.2.2.2.2.2.2.2.1))<=9223372036854775807/\((List.length ([]:List (Int×Int))+List.length (List.drop 0 (List.take (tN r4.1.1) y2.2.2.2.2.2.2.2.2.2.2.2.2.2.2.2.2.2.1)))*16<=140737488355328/\(0<=y2.2.1/\(y2.2.1<(ln r1.1)/\((XiC y2.2.2.2.2.2.2.2.2.2.2.2.2.2.2.2.2.2.1)/\∀r5,(Eq r5 ((XaM y2.2.2.2.2.2.2.2.2.2.2.2.2.2.2.2.2.2.1),((),())))->(List.length (([]:List (Int×Int))++(List.drop 0 (List.take (tN r4.1.1) y2.2.2.2.2.2.2.2.2.2.2.2.2.2.2.2.2.2.1)))+List.length [((List.getD r1.1 (tN y2.2.1) 0),r5.1)]<=9223372036854775807/\((List.length (([]:List (Int×Int))++(List.drop 0 (List.take (tN r4.1.1) y2.2.2.2.2.2.2.2.2.2.2.2.2.2.2.2.2.2.1)))+List.length [((List.getD r1.1 (tN y2.2.1) 0),r5.1)])*16<=140737488355328/\(0<=r4.1.1/\(r4.1.1<=(ln y2.2.2.2.2.2.2.2.2.2.2.2.2.2.2.2.2.2.1)/\(List.length ((([]:List (Int×Int))++(List.drop 0 (List.take (tN r4.1.1) y2.2.2.2.2.2.2.2.2.2.2.2.2.2.2.2.2.2.1)))++[((List.getD r1.1 (tN y2.2.1) 0),r5.1)])+List.length (List.drop (tN r4.1.1) (List.take (List.length y2.2.2.2.2.2.2.2.2.2.2.2.2.2.2.2.2.2.1) y2.2.2.2.2.2.2.2.2.2.2.2.2.2.2.2.2.2.1))<=9223372036854775807/\((List.length ((([]:List (Int×Int))++(List.drop 0 (List.take (tN r4.1.1) y2.2.2.2.2.2.2.2.2.2.2.2.2.2.2.2.2.2.1)))++[((List.getD r1.1 (tN y2.2.1) 0),r5.1)])+List.length (List.drop (tN r4.1.1) (List.take (List.length y2.2.2.2.2.2.2.2.2.2.2.2.2.2.2.2.2.2.1) y2.2.2.2.2.2.2.2.2.2.2.2.2.2.2.2.2.2.1)))*16<=140737488355328/\(0<=y2.2.1/\(y2.2.1<(ln r1.1)/\(True/\∀r6,(Eq r6 ((X20 (List.getD r1.1 (tN y2.2.1) 0)),((),())))->(List.length y2.1+List.length r6.1<=9223372036854775807/\(0<=r4.1.1/\(r4.1.1<(ln (((([]:List (Int×Int))++(List.drop 0 (List.take (tN r4.1.1) y2.2.2.2.2.2.2.2.2.2.2.2.2.2.2.2.2.2.1)))++[((List.getD r1.1 (tN y2.2.1) 0),r5.1)])++(List.drop (tN r4.1.1) (List.take (List.length y2.2.2.2.2.2.2.2.2.2.2.2.2.2.2.2.2.2.1) y2.2.2.2.2.2.2.2.2.2.2.2.2.2.2.2.2.2.1))))/\(True/\∀r7,(Eq r7 ((X20 ((List.getD (((([]:List (Int×Int))++(List.drop 0 (List.take (tN r4.1.1) y2.2.2.2.2.2.2.2.2.2.2.2.2.2.2.2.2.2.1)))++[((List.getD r1.1 (tN y2.2.1) 0),r5.1)])++(List.drop (tN r4.1.1) (List.take (List.length y2.2.2.2.2.2.2.2.2.2.2.2.2.2.2.2.2.2.1) y2.2.2.2.2.2.2.2.2.2.2.2.2.2.2.2.2.2.1))) (tN r4.1.1) (0,0)).2)),((),())))->(List.length (y2.1++r6.1)+List.length r7.1<=9223372036854775807/\(eS [(2,.box 3 0),(4,.box 5 0),(5,.box 6 0),(6,.val false [.lst (.int .i64) r1.1 none])] [(2,.box 3 0),(4,.box 5 0),(5,.box 6 0),(6,.val false [.lst (.int .i64) r1.1 none])]/\(rtI a0 a1 ((y2.1++r6.1)++r7.1) (wI (y2.2.1+(1:Int))) y2.2.2.1 y2.2.2.2.1 y2.2.2.2.2.1 y2.2.2.2.2.2.1 y2.2.2.2.2.2.2.1 y2.2.2.2.2.2.2.2.1 y2.2.2.2.2.2.2.2.2.1 y2.2.2.2.2.2.2.2.2.2.1 y2.2.2.2.2.2.2.2.2.2.2.1 y2.2.2.2.2.2.2.2.2.2.2.2.1 y2.2.2.2.2.2.2.2.2.2.2.2.2.1 y2.2.2.2.2.2.2.2.2.2.2.2.2.2.1 y2.2.2.2.2.2.2.2.2.2.2.2.2.2.2.1 y2.2.2.2.2.2.2.2.2.2.2.2.2.2.2.2.1 y2.2.2.2.2.2.2.2.2.2.2.2.2.2.2.2.2.1 (((([]:List (Int×Int))++(List.drop 0 (List.take (tN r4.1.1) y2.2.2.2.2.2.2.2.2.2.2.2.2.2.2.2.2.2.1)))++[((List.getD r1.1 (tN y2.2.1) 0),r5.1)])++(List.drop (tN r4.1.1) (List.take (List.length y2.2.2.2.2.2.2.2.2.2.2.2.2.2.2.2.2.2.1) y2.2.2.2.2.2.2.2.2.2.2.2.2.2.2.2.2.2.1))) y2.2.2.2.2.2.2.2.2.2.2.2.2.2.2.2.2.2.2.1 y2.2.2.2.2.2.2.2.2.2.2.2.2.2.2.2.2.2.2.2.1 y2.2.2.2.2.2.2.2.2.2.2.2.2.2.2.2.2.2.2.2.2.1 y2.2.2.2.2.2.2.2.2.2.2.2.2.2.2.2.2.2.2.2.2.2.1 y2.2.2.2.2.2.2.2.2.2.2.2.2.2.2.2.2.2.2.2.2.2.2)/\(rtM a0 a1 ((y2.1++r6.1)++r7.1) (wI (y2.2.1+(1:Int))) y2.2.2.1 y2.2.2.2.1 y2.2.2.2.2.1 y2.2.2.2.2.2.1 y2.2.2.2.2.2.2.1 y2.2.2.2.2.2.2.2.1 y2.2.2.2.2.2.2.2.2.1 y2.2.2.2.2.2.2.2.2.2.1 y2.2.2.2.2.2.2.2.2.2.2.1 y2.2.2.2.2.2.2.2.2.2.2.2.1 y2.2.2.2.2.2.2.2.2.2.2.2.2.1 y2.2.2.2.2.2.2.2.2.2.2.2.2.2.1 y2.2.2.2.2.2.2.2.2.2.2.2.2.2.2.1 y2.2.2.2.2.2.2.2.2.2.2.2.2.2.2.2.1 y2.2.2.2.2.2.2.2.2.2.2.2.2.2.2.2.2.1 (((([]:List (Int×Int))++(List.drop 0 (List.take (tN r4.1.1) y2.2.2.2.2.2.2.2.2.2.2.2.2.2.2.2.2.2.1)))++[((List.getD r1.1 (tN y2.2.1) 0),r5.1)])++(List.drop (tN r4.1.1) (List.take (List.length y2.2.2.2.2.2.2.2.2.2.2.2.2.2.2.2.2.2.1) y2.2.2.2.2.2.2.2.2.2.2.2.2.2.2.2.2.2.1))) y2.2.2.2.2.2.2.2.2.2.2.2.2.2.2.2.2.2.2.1 y2.2.2.2.2.2.2.2.2.2.2.2.2.2.2.2.2.2.2.2.1 y2.2.2.2.2.2.2.2.2.2.2.2.2.2.2.2.2.2.2.2.2.1 y2.2.2.2.2.2.2.2.2.2.2.2.2.2.2.2.2.2.2.2.2.2.1 y2.2.2.2.2.2.2.2.2.2.2.2.2.2.2.2.2.2.2.2.2.2.2)<(rtM a0 a1 y2.1 y2.2.1 y2.2.2.1 y2.2.2.2.1 y2.2.2.2.2.1 y2.2.2.2.2.2.1 y2.2.2.2.2.2.2.1 y2.2.2.2.2.2.2.2.1 y2.2.2.2.2.2.2.2.2.1 y2.2.2.2.2.2.2.2.2.2.1 y2.2.2.2.2.2.2.2.2.2.2.1 y2.2.2.2.2.2.2.2.2.2.2.2.1 y2.2.2.2.2.2.2.2.2.2.2.2.2.1 y2.2.2.2.2.2.2.2.2.2.2.2.2.2.1 y2.2.2.2.2.2.2.2.2.2.2.2.2.2.2.1 y2.2.2.2.2.2.2.2.2.2.2.2.2.2.2.2.1 y2.2.2.2.2.2.2.2.2.2.2.2.2.2.2.2.2.1 y2.2.2.2.2.2.2.2.2.2.2.2.2.2.2.2.2.2.1 y2.2.2.2.2.2.2.2.2.2.2.2.2.2.2.2.2.2.2.1 y2.2.2.2.2.2.2.2.2.2.2.2.2.2.2.2.2.2.2.2.1 y2.2.2.2.2.2.2.2.2.2.2.2.2.2.2.2.2.2.2.2.2.1 y2.2.2.2.2.2.2.2.2.2.2.2.2.2.2.2.2.2.2.2.2.2.1 y2.2.2.2.2.2.2.2.2.2.2.2.2.2.2.2.2.2.2.2.2.2.2))))))))))))))))))))))) (0<=y2.2.1/\(y2.2.1<(ln r1.1)/\(True/\∀r8,(Eq r8 ((X20 (List.getD r1.1 (tN y2.2.1) 0)),((),())))->(List.length y2.1+List.length r8.1<=9223372036854775807/\(0<=r4.1.1/\(r4.1.1<(ln y2.2.2.2.2.2.2.2.2.2.2.2.2.2.2.2.2.2.1)/\(True/\∀r9,(Eq r9 ((X20 ((List.getD y2.2.2.2.2.2.2.2.2.2.2.2.2.2.2.2.2.2.1 (tN r4.1.1) (0,0)).2)),((),())))->(List.length (y2.1++r8.1)+List.length r9.1<=9223372036854775807/\(eS [(2,.box 3 0),(4,.box 5 0),(5,.box 6 0),(6,.val false [.lst (.int .i64) r1.1 none])] [(2,.box 3 0),(4,.box 5 0),(5,.box 6 0),(6,.val false [.lst (.int .i64) r1.1 none])]/\(rtI a0 a1 ((y2.1++r8.1)++r9.1) (wI (y2.2.1+(1:Int))) y2.2.2.1 y2.2.2.2.1 y2.2.2.2.2.1 y2.2.2.2.2.2.1 y2.2.2.2.2.2.2.1 y2.2.2.2.2.2.2.2.1 y2.2.2.2.2.2.2.2.2.1 y2.2.2.2.2.2.2.2.2.2.1 y2.2.2.2.2.2.2.2.2.2.2.1 y2.2.2.2.2.2.2.2.2.2.2.2.1 y2.2.2.2.2.2.2.2.2.2.2.2.2.1 y2.2.2.2.2.2.2.2.2.2.2.2.2.2.1 y2.2.2.2.2.2.2.2.2.2.2.2.2.2.2.1 y2.2.2.2.2.2.2.2.2.2.2.2.2.2.2.2.1 y2.2.2.2.2.2.2.2.2.2.2.2.2.2.2.2.2.1 y2.2.2.2.2.2.2.2.2.2.2.2.2.2.2.2.2.2.1 y2.2.2.2.2.2.2.2.2.2.2.2.2.2.2.2.2.2.2.1 y2.2.2.2.2.2.2.2.2.2.2.2.2.2.2.2.2.2.2.2.1 y2.2.2.2.2.2.2.2.2.2.2.2.2.2.2.2.2.2.2.2.2.1 y2.2.2.2.2.2.2.2.2.2.2.2.2.2.2.2.2.2.2.2.2.2.1 y2.2.2.2.2.2.2.2.2.2.2.2.2.2.2.2.2.2.2.2.2.2.2)/\(rtM a0 a1 ((y2.1++r8.1)++r9.1) (wI (y2.2.1+(1:Int))) y2.2.2.1 y2.2.2.2.1 y2.2.2.2.2.1 y2.2.2.2.2.2.1 y2.2.2.2.2.2.2.1 y2.2.2.2.2.2.2.2.1 y2.2.2.2.2.2.2.2.2.1 y2.2.2.2.2.2.2.2.2.2.1 y2.2.2.2.2.2.2.2.2.2.2.1 y2.2.2.2.2.2.2.2.2.2.2.2.1 y2.2.2.2.2.2.2.2.2.2.2.2.2.1 y2.2.2.2.2.2.2.2.2.2.2.2.2.2.1 y2.2.2.2.2.2.2.2.2.2.2.2.2.2.2.1 y2.2.2.2.2.2.2.2.2.2.2.2.2.2.2.2.1 y2.2.2.2.2.2.2.2.2.2.2.2.2.2.2.2.2.1 y2.2.2.2.2.2.2.2.2.2.2.2.2.2.2.2.2.2.1 y2.2.2.2.2.2.2.2.2.2.2.2.2.2.2.2.2.2.2.1 y2.2.2.2.2.2.2.2.2.2.2.2.2.2.2.2.2.2.2.2.1 y2.2.2.2.2.2.2.2.2.2.2.2.2.2.2.2.2.2.2.2.2.1 y2.2.2.2.2.2.2.2.2.2.2.2.2.2.2.2.2.2.2.2.2.2.1 y2.2.2.2.2.2.2.2.2.2.2.2.2.2.2.2.2.2.2.2.2.2.2)<(rtM a0 a1 y2.1 y2.2.1 y2.2.2.1 y2.2.2.2.1 y2.2.2.2.2.1 y2.2.2.2.2.2.1 y2.2.2.2.2.2.2.1 y2.2.2.2.2.2.2.2.1 y2.2.2.2.2.2.2.2.2.1 y2.2.2.2.2.2.2.2.2.2.1 y2.2.2.2.2.2.2.2.2.2.2.1 y2.2.2.2.2.2.2.2.2.2.2.2.1 y2.2.2.2.2.2.2.2.2.2.2.2.2.1 y2.2.2.2.2.2.2.2.2.2.2.2.2.2.1 y2.2.2.2.2.2.2.2.2.2.2.2.2.2.2.1 y2.2.2.2.2.2.2.2.2.2.2.2.2.2.2.2.1 y2.2.2.2.2.2.2.2.2.2.2.2.2.2.2.2.2.1 y2.2.2.2.2.2.2.2.2.2.2.2.2.2.2.2.2.2.1 y2.2.2.2.2.2.2.2.2.2.2.2.2.2.2.2.2.2.2.1 y2.2.2.2.2.2.2.2.2.2.2.2.2.2.2.2.2.2.2.2.1 y2.2.2.2.2.2.2.2.2.2.2.2.2.2.2.2.2.2.2.2.2.1 y2.2.2.2.2.2.2.2.2.2.2.2.2.2.2.2.2.2.2.2.2.2.1 y2.2.2.2.2.2.2.2.2.2.2.2.2.2.2.2.2.2.2.2.2.2.2)))))))))))))))))) (X00 (decide ((ln y2.2.2.2.2.2.2.2.2.2.2.2.2.2.2.2.2.2.1)>(12:Int))) (Eq (((y2.2.2.1,(y2.2.2.2.1,(y2.2.2.2.2.1,(y2.2.2.2.2.2.2.2.2.2.2.2.2.2.2.2.2.2.2.1,((y2.2.2.2.2.2.1,(y2.2.2.2.2.2.2.2.2.2.2.2.2.2.2.2.2.2.2.2.1,y2.2.2.2.2.2.2.2.2.2.2.2.2.2.2.2.2.2.2.2.2.1)),y2.2.2.2.2.2.2.2.2.2.2.2.2.2.2.2.2.2.2.2.2.2.1))))),(3,(0,(0,[])))),((),())) ((X9B a0 a1),((),()))) (Eq (((y2.2.2.1,(y2.2.2.2.1,(y2.2.2.2.2.1,(y2.2.2.2.2.2.2.2.2.2.2.2.2.2.2.2.2.2.1,((y2.2.2.2.2.2.1,(y2.2.2.2.2.2.2.2.2.2.2.2.2.2.2.2.2.2.2.2.1,y2.2.2.2.2.2.2.2.2.2.2.2.2.2.2.2.2.2.2.2.2.1)),y2.2.2.2.2.2.2.2.2.2.2.2.2.2.2.2.2.2.2.2.2.2.1))))),(0,(0,(y2.2.2.2.2.1,y2.1)))),((),())) ((X9B a0 a1),((),())))))))))))
def X2t.L(a0:U1q)(a1:Xc5):Nat->Option X0e:=XLK [(506,⟨⟨[2,4,5,6],[7,8,9],[3,5,6],[kC 7 0 1000899 43,kA 3 3 13800393 43,kA 3 5 13800397 109,kA 3 6 13800399 9,kA 3 7 13800401 64,kA 5 3 13800649 43]⟩,(.pair .str T13q),λst y=>rtI a0 a1 y.1 y.2.1 y.2.2.1 y.2.2.2.1 y.2.2.2.2.1 y.2.2.2.2.2.1 y.2.2.2.2.2.2.1 y.2.2.2.2.2.2.2.1 y.2.2.2.2.2.2.2.2.1 y.2.2.2.2.2.2.2.2.2.1 y.2.2.2.2.2.2.2.2.2.2.1 y.2.2.2.2.2.2.2.2.2.2.2.1 y.2.2.2.2.2.2.2.2.2.2.2.2.1 y.2.2.2.2.2.2.2.2.2.2.2.2.2.1 y.2.2.2.2.2.2.2.2.2.2.2.2.2.2.1 y.2.2.2.2.2.2.2.2.2.2.2.2.2.2.2.1 y.2.2.2.2.2.2.2.2.2.2.2.2.2.2.2.2.1 y.2.2.2.2.2.2.2.2.2.2.2.2.2.2.2.2.2.1 y.2.2.2.2.2.2.2.2.2.2.2.2.2.2.2.2.2.2.1 y.2.2.2.2.2.2.2.2.2.2.2.2.2.2.2.2.2.2.2.1 y.2.2.2.2.2.2.2.2.2.2.2.2.2.2.2.2.2.2.2.2.1 y.2.2.2.2.2.2.2.2.2.2.2.2.2.2.2.2.2.2.2.2.2.1 y.2.2.2.2.2.2.2.2.2.2.2.2.2.2.2.2.2.2.2.2.2.2,λst y=>rtM a0 a1 y.1 y.2.1 y.2.2.1 y.2.2.2.1 y.2.2.2.2.1 y.2.2.2.2.2.1 y.2.2.2.2.2.2.1 y.2.2.2.2.2.2.2.1 y.2.2.2.2.2.2.2.2.1 y.2.2.2.2.2.2.2.2.2.1 y.2.2.2.2.2.2.2.2.2.2.1 y.2.2.2.2.2.2.2.2.2.2.2.1 y.2.2.2.2.2.2.2.2.2.2.2.2.1 y.2.2.2.2.2.2.2.2.2.2.2.2.2.1 y.2.2.2.2.2.2.2.2.2.2.2.2.2.2.1 y.2.2.2.2.2.2.2.2.2.2.2.2.2.2.2.1 y.2.2.2.2.2.2.2.2.2.2.2.2.2.2.2.2.1 y.2.2.2.2.2.2.2.2.2.2.2.2.2.2.2.2.2.1 y.2.2.2.2.2.2.2.2.2.2.2.2.2.2.2.2.2.2.1 y.2.2.2.2.2.2.2.2.2.2.2.2.2.2.2.2.2.2.2.1 y.2.2.2.2.2.2.2.2.2.2.2.2.2.2.2.2.2.2.2.2.1 y.2.2.2.2.2.2.2.2.2.2.2.2.2.2.2.2.2.2.2.2.2.1 y.2.2.2.2.2.2.2.2.2.2.2.2.2.2.2.2.2.2.2.2.2.2⟩)]
theorem X2t.p(a0:U1q)(a1:Xc5)(h:(Xk9 a0 a1)):X2t.F a0 a1:=by
 delta X2t.F ln tN wI eS
 simp only[Bs,B0,B1,Yaa,X01,YaA]
 have hB:Xop 12 a0.2.2.2.1:=h
 have hBl:=hB.len
 have hcl:=Xss a1.2.2.1 a1.2.2.2.1
 have hcl':(cvL a0 a1).length<=8:=hcl
 refine⟨λh1=>?_,λh1=>⟨by omega,by omega,⟨⟨by omega,by omega⟩,rfl,rfl,hB.more (by omega),by simp⟩,?_⟩⟩
 . have e:X3k a1.2.2.1 a1.2.2.2.1=[]:=YaL.1 (by omega)
   unfold X9B;rw[Yah e]
 have hne:¬X3k a1.2.2.1 a1.2.2.2.1=[]:=λe=>h1 (by rw[e];rfl)
 rintro⟨data,i,k,hh,mk,fl,z0,z1,z2,z4,z5,z6,z7,c1,c2,c3,c4,l,bk,ca,fi,se,z3⟩ ⟨⟨q1,q2⟩,q3,q4,q5,q6⟩
 simp only at q1 q2 q3 q4 q5 q6 ⊢
 have eL:X3k a1.2.2.1 a1.2.2.2.1=cvL a0 a1:=rfl
 have em:a0.2.2.1=mk:=by rw[<-q4]
 simp only[eL]
 refine⟨λhi=>?_,λhi=>?_⟩
 . have hx:0<=(cvL a0 a1).getD i.toNat 0/\(cvL a0 a1).getD i.toNat 0<=10995116277:=Xv0 (X1a (d:=(0:Int)) (l:=cvL a0 a1) (i:=i.toNat) (by omega))
   have ht:(cvL a0 a1).take (i+1).toNat=(cvL a0 a1).take i.toNat++[(cvL a0 a1).getD i.toNat 0]:=by rw[tn1 q1,X0J 0 (by omega)]
   rw[w64 (x:=i+1) (by omega) (by omega)]
   generalize (cvL a0 a1).getD i.toNat 0=x at hx ht ⊢
   obtain⟨s1,s2,s3,s4⟩:=Xuv (d:=data) (i:=i) (by omega) q5 hx q6
   have hp:=XvO l x
   have ha:=r_at l x
   have hll:=q5.len
   have hd:(data.length:Int)<=1000:=by omega
   have v1:=X0w x
   have v2:=X0w ((XmG l x).getD (XfB l x).1.toNat (0,0)).2
   have skip:Xds x mk=true->rtI a0 a1 data (i+1) k hh mk fl z0 z1 z2 z4 z5 z6 z7 c1 c2 c3 c4 l bk ca fi se z3:=λhp=>by
    refine⟨⟨by omega,by omega⟩,?_,q4,q5.more (by omega),by omega⟩
    rw[ht,YaY,em]
    rw[em]at q3
    have:[x].filter (Xbk mk)=[]:=by simp[Xbk,hp]
    rw[this,Ybe];exact q3
   have out:Xds x mk=false->rtI a0 a1 (data++(X20 x++X20 ((XmG l x).getD (XfB l x).1.toNat (0,0)).2)) (i+1) k hh mk fl z0 z1 z2 z4 z5 z6 z7 c1 c2 c3 c4 (XmG l x) bk ca fi se z3:=λhp=>by
    refine⟨⟨by omega,by omega⟩,?_,q4,by rw[show 12+(i+1).toNat=12+i.toNat+1 by omega];exact s1,s2⟩
    rw[ht,YaY,em]
    rw[em]at q3
    have:[x].filter (Xbk mk)=[x]:=by simp[Xbk,hp]
    rw[this]
    unfold dGo at q3 ⊢
    rw[YbG,<-q3];rfl
   refine⟨q1,hi,λhp=>⟨skip hp,by unfold rtM;omega⟩,λhpast=>⟨q1,hi,s3,λhb=>?_,λhb=>?_⟩⟩
   . have er:=r_no hb
     have out:=out hpast
     have l1:(l.take (XfB l x).1.toNat).length<=1000:=by rw[Yal];omega
     have l2:(l.drop (XfB l x).1.toNat).length<=1000:=by rw[Yar];omega
     have l3:(l.take (XfB l x).1.toNat).length+1+(l.drop (XfB l x).1.toNat).length=(XmG l x).length:=by
      rw[<-er];simp only[Yab,Yad,Yai];omega
     simp only[YbP,YaW,Yat,Yam,er]
     exact⟨hp.1,hp.2,by omega,by omega,q1,hi,s4,by omega,by omega,hp.1,hp.2,by omega,by omega,q1,hi,by omega,hp.1,by omega,by omega,out,by unfold rtM;omega⟩
   . have er:=XvX hb
     have out:=out hpast
     rw[er]at ha v2 out
     simp only[Yam]
     exact⟨q1,hi,by omega,hp.1,ha,by omega,out,by unfold rtM;omega⟩
 . have e:i.toNat=(cvL a0 a1).length:=by omega
   rw[e,Yat]at q3
   have eg:dGo ((X3k a1.2.2.1 a1.2.2.2.1).filter (Xbk a0.2.2.1)) (a0.2.2.2.1,[])=(l,data):=q3.symm
   refine⟨λh12=>?_,λh12=>?_⟩
   . unfold X9B
     rw[Yae hne,eg,Yah (by simp only;omega),q4]
   . unfold X9B
     rw[Yae hne,eg,Yae (by simp only;omega),<-q4]
def X2t.e:GE:=mE X9q func57 [31,38] [X2Q.e,X4X.e,X2n.e,X2D.e,X57.e] [] (λi x=>X2t.L x.1 x.2) (λi x=>X2t.F x.1 x.2) λi x h _ _=>X2t.p x.1 x.2 h
def Xrx{α:Type}(a:α):Prop:=False
def Xtp.L(a0:U1q):Nat->Option X0e:=XLK [(58,⟨⟨[1],[3],[2],[]⟩,T17q,λst y=>stI a0 y.1 y.2.1 y.2.2.1 y.2.2.2.1 y.2.2.2.2.1 y.2.2.2.2.2.1 y.2.2.2.2.2.2.1 y.2.2.2.2.2.2.2.1 y.2.2.2.2.2.2.2.2,λst y=>stM a0 y.1 y.2.1 y.2.2.1 y.2.2.2.1 y.2.2.2.2.1 y.2.2.2.2.2.1 y.2.2.2.2.2.2.1 y.2.2.2.2.2.2.2.1 y.2.2.2.2.2.2.2.2⟩),(7850,⟨⟨[1],[5],[2],[]⟩,T17q,λst y=>suI a0 y.1 y.2.1 y.2.2.1 y.2.2.2.1 y.2.2.2.2.1 y.2.2.2.2.2.1 y.2.2.2.2.2.2.1 y.2.2.2.2.2.2.2.1 y.2.2.2.2.2.2.2.2,λst y=>suM a0 y.1 y.2.1 y.2.2.1 y.2.2.2.1 y.2.2.2.2.1 y.2.2.2.2.2.1 y.2.2.2.2.2.2.1 y.2.2.2.2.2.2.2.1 y.2.2.2.2.2.2.2.2⟩)]
def XoU(e:Eng):Eng:=e
def XdN:Con:=cW T8q [.agg 3] T8q [(true,3)] [(1,109),(2,9)] (λa=>(Xrx a)) λa=>(XoU a)
theorem Xco.ok:X0g Tryz.prog 65 XdN:=λw M vs cs i x F FI b h1 h2 h3 h4 h5 h6 h7 hp=>hp.elim
def Xco.e:GE:=⟨65,XdN,⟨_,func65,rfl,rfl⟩,Xco.ok⟩
def Xf5(l:List Bkt)(mark:Int):List Bkt:=l.filter λb=>!Xds b.1 mark
def XfA(s:Stt)(o:Opp):Stt×Ans:=
 if o.1=1 then X9B s o
 else if o.1=2 then(if o.2.2.1 - s.2.1>s.2.2.1 then((s.1,(s.2.1,(o.2.2.1 - s.2.1,(Xf5 s.2.2.2.1 (o.2.2.1 - s.2.1),s.2.2.2.2)))),(0,(0,(o.2.2.1 - s.2.1,[])))) else(s,(0,(0,(s.2.2.1,[])))))
 else((s.1,(o.2.2.1,(s.2.2.1,(s.2.2.2.1,s.2.2.2.2)))),(0,(0,(s.2.2.1,[]))))
def Xrk(s:Stt)(m:Int):Stt:=(s.1,(s.2.1,(m,s.2.2.2)))
def lmI(s:Stt)(o:Opp)(i k h mk fl z0 z1 z2 z4:Int)(z5:List Ser)(z6:List Str)(z7:List XfC)(c1 c2 c3:Int)(c4:Str)(l bk:List Bkt)(ca:List Ser)(fi:List Str)(se:List XfC)(z3:List Bkt):Prop:=
 (0<=i/\i<=s.2.2.2.1.length)/\((k,(h,(mk,(bk,((fl,(ca,fi)),se))))):Stt)=Xrk s (o.2.2.1 - s.2.1)/\l=Xf5 (s.2.2.2.1.take i.toNat) (o.2.2.1 - s.2.1)/\(l.length:Int)<=i
def lmM(s:Stt)(o:Opp)(i k h mk fl z0 z1 z2 z4:Int)(z5:List Ser)(z6:List Str)(z7:List XfC)(c1 c2 c3:Int)(c4:Str)(l bk:List Bkt)(ca:List Ser)(fi:List Str)(se:List XfC)(z3:List Bkt):Nat:=(s.2.2.2.1.length - i).toNat
def XgQ(l:List XfC):List XfC:=l
def XiZ(l:List XfC):Prop:=l.length<=1099511627776
def Xhl(s:Stt):Stt:=s
def XdM(s:Stt):Prop:=s.2.2.2.1.length<=1000/\XpU s.2.2.2.2.1/\s.2.2.2.2.2.length<=1000
theorem XoF(s:Stt)(o:Opp):(o.1=1->XfA s o=X9B s o)/\(¬o.1=1->o.1=2->o.2.2.1 - s.2.1>s.2.2.1->XfA s o=((s.1,(s.2.1,(o.2.2.1 - s.2.1,(Xf5 s.2.2.2.1 (o.2.2.1 - s.2.1),s.2.2.2.2)))),(0,(0,(o.2.2.1 - s.2.1,[])))))/\
 (¬o.1=1->o.1=2->¬o.2.2.1 - s.2.1>s.2.2.1->XfA s o=(s,(0,(0,(s.2.2.1,[])))))/\(¬o.1=1->¬o.1=2->XfA s o=((s.1,(o.2.2.1,(s.2.2.1,(s.2.2.2.1,s.2.2.2.2)))),(0,(0,(s.2.2.1,[]))))):=by
 refine⟨λh=>?_,λh h2 h3=>?_,λh h2 h3=>?_,λh h2=>?_⟩
 . unfold XfA;rw[Yah h]
 . unfold XfA;rw[Yae h,Yah h2,Yah h3]
 . unfold XfA;rw[Yae h,Yah h2,Yae h3]
 . unfold XfA;rw[Yae h,Yae h2]
def X1c:Con:=cW (.list T2q) [.one] (.list T2q) [(false,1)] [(0,64)] (λa=>(XiZ a)) λa=>(XgQ a)
def X0i.F(a0:(List U7q)):Prop:=(∀(b1:Bool),(b1=true->a0=[])->(X00 b1 (Eq (([]:(List U7q)),((),())) ((XgQ a0),((),()))) (List.length ([]:List U7q)+List.length a0<=9223372036854775807/\((List.length ([]:List U7q)+List.length a0)*56<=140737488355328/\(Eq ((([]:List U7q)++a0),((),())) ((XgQ a0),((),())))))))
theorem X0i.p(a0:(List U7q))(h:(XiZ a0))(hw:Wf X1c.A a0):X0i.F a0:=by
 unfold X0i.F
 have hp:a0.length<=1099511627776:=h
 simp only[Bs,B0,B1,Yaa,X01,XgQ,XiZ]
 repeat' (with_reducible (first | (refine And.intro ?_ ?_) | intro _))
 all_goals (try simp (disch:=omega) only[w64,wu8,tn0,tn1,tm1,tm2,Yab,Yad,Yai]at*)
 all_goals (try simp (disch:=omega) only[w64,wu8,tn0,tn1,tm1,tm2,Yab,Yad,Yai]at*)
 all_goals (try omega)
 all_goals (try grind[])
 all_goals (try simp_all)
def X0i.e:GE:=mE X1c func94 [29] [] [] noL (λi x=>X0i.F x) λi x h _ hw=>X0i.p x h hw
def X7I:Con:=cW T4q [.agg 8] T4q [(true,8)] [(3,43),(5,109),(6,9),(7,64)] (λa=>(XdM a)) λa=>(Xhl a)
def X2T.F(a0:U1q):Prop:=((Xod a0.2.2.2.1)/\∀r1,(Eq r1 ((XnH a0.2.2.2.1),((),())))->((XpU (a0.2.2.2.2.1.1,(a0.2.2.2.2.1.2.1,a0.2.2.2.2.1.2.2)))/\∀r2,(Eq r2 ((Xoc (a0.2.2.2.2.1.1,(a0.2.2.2.2.1.2.1,a0.2.2.2.2.1.2.2))),((),())))->((XiZ a0.2.2.2.2.2)/\∀r3,(Eq r3 ((XgQ a0.2.2.2.2.2),((),())))->(Eq ((a0.1,(a0.2.1,(a0.2.2.1,(r1.1,((r2.1.1,(r2.1.2.1,r2.1.2.2)),r3.1))))),((),())) ((Xhl a0),((),()))))))
theorem X2T.p(a0:U1q)(h:(XdM a0)):X2T.F a0:=by
 unfold X2T.F
 simp only[Bs,B0,B1,Yaa,X01,YaA,XnH,Xoc,XgQ]
 obtain⟨h1,h2,h3⟩:=h
 exact⟨by unfold Xod;omega,h2,by unfold XiZ;omega,rfl⟩
def X2T.e:GE:=mE X7I func52 [31] [X0h.e,X1l.e,X0i.e] [] noL (λi x=>X2T.F x) λi x h _ _=>X2T.p x h
def Xa1:Con:=cW T4q [.agg 8] T4q [(true,8)] [(3,43),(5,109),(6,9),(7,64)] (λa=>(XdM a)) λa=>(Xhl a)
def X4C.F(a0:U1q):Prop:=(List.length ([]:List (Int×Int))+List.length a0.2.2.2.1<=9223372036854775807/\((List.length ([]:List (Int×Int))+List.length a0.2.2.2.1)*16<=140737488355328/\((XpU (a0.2.2.2.2.1.1,(a0.2.2.2.2.1.2.1,a0.2.2.2.2.1.2.2)))/\∀r1,(Eq r1 ((Xoc (a0.2.2.2.2.1.1,(a0.2.2.2.2.1.2.1,a0.2.2.2.2.1.2.2))),((),())))->(List.length ([]:List U7q)+List.length a0.2.2.2.2.2<=9223372036854775807/\((List.length ([]:List U7q)+List.length a0.2.2.2.2.2)*56<=140737488355328/\(Eq ((a0.1,(a0.2.1,(a0.2.2.1,((([]:List (Int×Int))++a0.2.2.2.1),((r1.1.1,(r1.1.2.1,r1.1.2.2)),(([]:List U7q)++a0.2.2.2.2.2)))))),((),())) ((Xhl a0),((),()))))))))
theorem X4C.p(a0:U1q)(h:(XdM a0)):X4C.F a0:=by
 unfold X4C.F
 simp only[Bs,B0,B1,Yaa,X01,YaA,Xoc]
 obtain⟨h1,h2,h3⟩:=h
 exact⟨by omega,by omega,h2,by omega,by omega,rfl⟩
def X4C.e:GE:=mE Xa1 func23 [31] [X3g.e] [] noL (λi x=>X4C.F x) λi x h _ _=>X4C.p x h
def Xwq.L(a0:U1q)(a1:Xc5):Nat->Option X0e:=XLK [(1027674,⟨⟨[2,4,5],[7,8],[3,5,6],[kC 7 0 1000899 43,kA 3 3 13800393 43,kA 3 5 13800397 109,kA 3 6 13800399 9,kA 3 7 13800401 64,kA 5 3 13800649 43]⟩,T13q,λst y=>lmI a0 a1 y.1 y.2.1 y.2.2.1 y.2.2.2.1 y.2.2.2.2.1 y.2.2.2.2.2.1 y.2.2.2.2.2.2.1 y.2.2.2.2.2.2.2.1 y.2.2.2.2.2.2.2.2.1 y.2.2.2.2.2.2.2.2.2.1 y.2.2.2.2.2.2.2.2.2.2.1 y.2.2.2.2.2.2.2.2.2.2.2.1 y.2.2.2.2.2.2.2.2.2.2.2.2.1 y.2.2.2.2.2.2.2.2.2.2.2.2.2.1 y.2.2.2.2.2.2.2.2.2.2.2.2.2.2.1 y.2.2.2.2.2.2.2.2.2.2.2.2.2.2.2.1 y.2.2.2.2.2.2.2.2.2.2.2.2.2.2.2.2.1 y.2.2.2.2.2.2.2.2.2.2.2.2.2.2.2.2.2.1 y.2.2.2.2.2.2.2.2.2.2.2.2.2.2.2.2.2.2.1 y.2.2.2.2.2.2.2.2.2.2.2.2.2.2.2.2.2.2.2.1 y.2.2.2.2.2.2.2.2.2.2.2.2.2.2.2.2.2.2.2.2.1 y.2.2.2.2.2.2.2.2.2.2.2.2.2.2.2.2.2.2.2.2.2,λst y=>lmM a0 a1 y.1 y.2.1 y.2.2.1 y.2.2.2.1 y.2.2.2.2.1 y.2.2.2.2.2.1 y.2.2.2.2.2.2.1 y.2.2.2.2.2.2.2.1 y.2.2.2.2.2.2.2.2.1 y.2.2.2.2.2.2.2.2.2.1 y.2.2.2.2.2.2.2.2.2.2.1 y.2.2.2.2.2.2.2.2.2.2.2.1 y.2.2.2.2.2.2.2.2.2.2.2.2.1 y.2.2.2.2.2.2.2.2.2.2.2.2.2.1 y.2.2.2.2.2.2.2.2.2.2.2.2.2.2.1 y.2.2.2.2.2.2.2.2.2.2.2.2.2.2.2.1 y.2.2.2.2.2.2.2.2.2.2.2.2.2.2.2.2.1 y.2.2.2.2.2.2.2.2.2.2.2.2.2.2.2.2.2.1 y.2.2.2.2.2.2.2.2.2.2.2.2.2.2.2.2.2.2.1 y.2.2.2.2.2.2.2.2.2.2.2.2.2.2.2.2.2.2.2.1 y.2.2.2.2.2.2.2.2.2.2.2.2.2.2.2.2.2.2.2.2.1 y.2.2.2.2.2.2.2.2.2.2.2.2.2.2.2.2.2.2.2.2.2⟩)]
def setE(s:Stt)(e:Eng):Stt:=(s.1,(s.2.1,(s.2.2.1,(s.2.2.2.1,(e,s.2.2.2.2.2)))))
def Xr0(o:Opp):List Pt:=(X0r o.2.2.2.2).1
def ptR(s:Stt)(o:Opp):Eng×Int:=X9X s.2.2.2.2.1 o.2.1 (Xr0 o)
def fWr(s:Stt)(o:Opp):Stt×Ans:=
 if (ptR s o).2=0 then(setE s (ptR s o).1,(0,(0,(s.2.2.2.2.1.1,[]))))
 else if (ptR s o).2=2 then(s,(2,(0,(s.2.2.2.2.1.1,[]))))
 else(s,(3,(0,(s.2.2.2.2.1.1,[]))))
def fSh(s:Stt)(o:Opp):Stt×Ans:=
 if o.1=4 then fWr s o
 else if o.1=5 then(s,(0,(0,(s.2.2.2.2.1.1,X04 (Xeo s.2.2.2.2.1 o.2.1 o.2.2.1 o.2.2.2.1)))))
 else if o.1=6 then(setE s (Xbu s.2.2.2.2.1 o.2.2.1),(0,(0,((Xbu s.2.2.2.2.1 o.2.2.1).1,[]))))
 else if o.1=7 then(setE s (XcQ s.2.2.2.2.1),(0,(0,((XcQ s.2.2.2.2.1).1,[]))))
 else(s,(4,(0,(0,[]))))
def XpJ(s:Stt)(o:Opp):Ans×Stt:=((fWr s o).2,(fWr s o).1)
def Xno(s:Stt)(o:Opp):Ans×Stt:=((fSh s o).2,(fSh s o).1)
def pWr(s:Stt)(o:Opp):Prop:=pPut s.2.2.2.2.1 o.2.1 (Xr0 o)
def pSh(s:Stt)(o:Opp):Prop:=pWr s o
def fMt(s:Stt)(o:Opp):Stt×Ans:=if o.1<=3 then XfA s o else(s,(4,(0,(0,[]))))
def XlX(s:Stt)(o:Opp):Ans×Stt:=((fMt s o).2,(fMt s o).1)
def pMt(s:Stt)(o:Opp):Prop:=(1<=o.1)/\Xop 12 s.2.2.2.1/\(0<=s.2.1/\s.2.1<=100000)/\(0<=s.2.2.1/\s.2.2.1<=1099511627776)/\(o.1=2->0<=o.2.2.1/\o.2.2.1<=1099511627776)
def XcB(s:Stt)(o:Opp):Stt×Ans:=if X0L o=true then(if s.1=1 then fMt s o else fSh s o) else(s,(1,(0,(0,[]))))
def fDo(s:Stt)(o:Opp):Stt×Ans:=if X2W s=true then XcB s o else((0,(0,(0,([],((0,([],[])),[]))))),(1,(0,(0,[]))))
def pDo(s:Stt)(o:Opp):Prop:=pSt s/\pOp o
def XuA(s:Stt)(o:Opp):Prop:=X2W s=true/\pSt s/\pOp o
theorem XnS{s:Stt}(h:X2W s=true):XdM s:=by
 unfold X2W at h
 rw[Yac]at h
 obtain⟨h0,h⟩:=h
 have hs:=XoY h0
 unfold XdM
 split at h
 . unfold X6h XdS at h
   simp only[Yac,Yaj]at h
   refine⟨by omega,⟨?_,by omega⟩,by omega⟩
   rw[YaL.1 h.2.2.2.2.1];simp[tot,cL]
 . split at h
   . simp only[Yac,Yaj]at h
     exact⟨by omega,Xoz h.2.2.2,by omega⟩
   . cases h
theorem bk_of{l:List Bkt}{m:Int}(h:X6h l m=true):Xop 12 l:=by
 unfold X6h at h
 simp only[Yac,Yaj,Xha,Ya6,YbQ]at h
 obtain⟨h1,h2⟩:=h
 have hb:∀i,i<l.length->(0<=(l.getD i (0,0)).1/\(l.getD i (0,0)).1<=10995116277)/\(0<=(l.getD i (0,0)).2/\(l.getD i (0,0)).2<=1)/\(i=0\/(l.getD (i - 1) (0,0)).1<(l.getD i (0,0)).1):=λi hi=>by
  have:=h2 i hi
  simp only[XsY,bk1,Yac,Ya7,Yaj,fIn]at this
  exact⟨this.1.1,this.1.2.2,this.2⟩
 have hm:∀x∈l,∃i,i<l.length/\l.getD i (0,0)=x:=λx hx=>by
  obtain⟨i,hi,e⟩:=YaQ hx
  exact⟨i,hi,by rw[X0O hi,e]⟩
 refine⟨⟨?_,λx hx=>?_⟩,λx hx=>?_,λx hx=>?_,h1⟩
 . have hs:∀(d:Nat) (i:Nat),i+d+1<l.length->(l.getD i (0,0)).1<(l.getD (i+d+1) (0,0)).1:=by
    intro d
    induction d with
    | zero=>intro i hi;have:=(hb (i+1) hi).2.2;simp at this;exact this
    | succ d ih=>
      intro i hi
      have a:=ih i (by omega)
      have c:=(hb (i+(d+1)+1) hi).2.2
      simp only[YcE]at c
      rcases c with c | c
      . omega
      . exact Int.lt_trans a c
   refine Yce.2 λi j hi hj hij=>?_
   have:=hs (j - i - 1) i (by omega)
   rw[show i+(j - i - 1)+1=j by omega,X0O hi,X0O hj]at this
   simpa using this
 . obtain⟨i,hi,e⟩:=hm x hx;have:=(hb i hi).1;rw[e]at this;omega
 . obtain⟨i,hi,e⟩:=hm x hx;have:=(hb i hi).2.1;rw[e]at this;omega
 . obtain⟨i,hi,e⟩:=hm x hx;have:=(hb i hi).1;rw[e]at this;omega
theorem Xs2{o:Opp}(h:X0L o=true):1<=o.1/\o.1<=7/\(o.1=2->0<=o.2.2.1/\o.2.2.1<=1099511627776):=by
 unfold X0L at h
 by_cases h1:o.1=1
 . omega
 . rw[Yae h1]at h
   by_cases h2:o.1=2\/o.1=6
   . rw[Yah h2,Yac,X0N]at h;omega
   . rw[Yae h2]at h
     by_cases h3:o.1=3
     . omega
     . rw[Yae h3]at h
       by_cases h4:o.1=4
       . omega
       . rw[Yae h4]at h
         by_cases h5:o.1=5
         . omega
         . rw[Yae h5]at h
           by_cases h7:o.1=7
           . omega
           . rw[Yae h7]at h;cases h
theorem Xv4{s:Stt}{o:Opp}(h:X2W s=true)(h1:s.1=1)(ho:X0L o=true):pMt s o:=by
 have k:=Xs2 ho
 unfold X2W at h
 rw[Yah h1]at h
 simp only[Yac,Xau,X0N]at h
 exact⟨k.1,bk_of h.2.2.2.1,by omega,by omega,k.2.2⟩
theorem Xvs{s:Stt}(h:X2W s=true):s.1=1\/s.1=2:=by
 unfold X2W at h
 rw[Yac]at h
 have h:=h.2
 split at h
 . left;assumption
 . split at h
   . right;assumption
   . cases h
theorem Xso{s:Stt}(h:X2W s=true)(h2:s.1=2):X3t s.2.2.2.2.1=true:=by
 unfold X2W at h
 rw[Yae (by omega),Yah h2]at h
 simp only[Yac]at h
 exact h.2.2.2.2
theorem Xpq{o:Opp}(h:X0L o=true)(h4:o.1=4):X6w o.2.1=true/\X0K (Xr0 o)=true/\Xr0 o≠[]:=by
 unfold X0L at h
 rw[Yae (by omega),Yae (by omega),Yae (by omega),Yah h4]at h
 simp only[Yac]at h
 refine⟨h.1,?_⟩
 have h2:=h.2.1
 unfold Xr0
 unfold X0r at h2 ⊢
 split
 . rename_i hr;exact hr.1
 . rename_i hr;rw[Yae hr]at h2;cases h2
theorem Xpn{e:Eng}{k:Str}{p:List Pt}(h:X3t e=true)(hk:X6w k=true)(h1:X0K p=true)(h2:p≠[]):(X9X e k p).2=0\/(X9X e k p).2=2\/(X9X e k p).2=3:=by
 unfold X9X
 rw[Yah h,Yah ⟨hk,h1,h2⟩]
 split
 . simp
 . split<;>simp
theorem Xui(e:Eng):(fFl e).1=e.1:=by
 unfold fFl XhK Xej
 repeat' split
 all_goals rfl
theorem XsB{e:Eng}{k:Str}{p:List Pt}(h:X3t e=true)(h0:(X9X e k p).2=0):(X9X e k p).1.1=e.1:=by
 unfold X9X
 rw[Yah h]
 split
 . split
   . rfl
   . split
     . simp only
       split
       . rw[Xui];rfl
       . rfl
     . rfl
 . rfl
theorem Xsa{e:Eng}{k:Str}{a b:Int}(h1:X3t e=true)(hp:Xg8 e):Xrm e/\XnV (XhX e).1 e.1 k/\X8g (XaZ (XhX e).1 e.1 k) a b/\Xeo e k a b=X1Z (XaZ (XhX e).1 e.1 k) a b:=by
 obtain⟨g1,g2,g3,g4⟩:=X8j h1
 obtain⟨k1,k2,k3,k4,k5⟩:=Xd4 g1
 obtain⟨s1,s2,s3,s4⟩:=X39 k2
 have ht:=XfS e
 have e2:=Xsn s1 g2 k
 have e3:=XnJ (X0k e).1 k
 have e4:=Xvr g4
 rw[XfL g2]
 simp only
 rw[<-e2]
 refine⟨⟨hp.2,by omega⟩,by unfold XnV;omega,by unfold X8g;omega,?_⟩
 unfold Xeo;rw[Yah h1]
def X66:Con:={io:=true,I:=T4q,ownI:=[(3,43),(5,109),(6,9),(7,64)],A:=XjH,shA:=[.agg 5],R:=XkE,shR:=[(true,4)],pre:=λi a=>(pWr i a),f:=some λi a=>((XpJ i a).1,((XpJ i a).2,()))}
def X2S.F(i0:U1q)(a0:Xc5):Prop:=(True/\∀r1,(Eq r1 ((X0r a0.2.2.2.2),((),())))->((pPut (i0.2.2.2.2.1.1,(i0.2.2.2.2.1.2.1,i0.2.2.2.2.1.2.2)) a0.2.1 r1.1.1)/\∀r2,(Eq r2 ((X9X (i0.2.2.2.2.1.1,(i0.2.2.2.2.1.2.1,i0.2.2.2.2.1.2.2)) a0.2.1 r1.1.1),((),())))->(X00 (r2.1.2==(0:Int)) (Eq ((0,(0,(i0.2.2.2.2.1.1,[]))),((i0.1,(i0.2.1,(i0.2.2.1,(i0.2.2.2.1,((r2.1.1.1,(r2.1.1.2.1,r2.1.1.2.2)),i0.2.2.2.2.2))))),())) ((XpJ i0 a0).1,((XpJ i0 a0).2,()))) (X00 (r2.1.2==(2:Int)) (Eq ((2,(0,(i0.2.2.2.2.1.1,[]))),((i0.1,(i0.2.1,(i0.2.2.1,(i0.2.2.2.1,((i0.2.2.2.2.1.1,(i0.2.2.2.2.1.2.1,i0.2.2.2.2.1.2.2)),i0.2.2.2.2.2))))),())) ((XpJ i0 a0).1,((XpJ i0 a0).2,()))) (Eq ((3,(0,(i0.2.2.2.2.1.1,[]))),((i0.1,(i0.2.1,(i0.2.2.1,(i0.2.2.2.1,((i0.2.2.2.2.1.1,(i0.2.2.2.2.1.2.1,i0.2.2.2.2.1.2.2)),i0.2.2.2.2.2))))),())) ((XpJ i0 a0).1,((XpJ i0 a0).2,())))))))
theorem X2S.p(i0:U1q)(a0:Xc5)(h:(pWr i0 a0)):X2S.F i0 a0:=by
 unfold X2S.F
 simp only[Bs,B0,B1,Yaa,X01,YaA]
 have e:ptR i0 a0=X9X i0.2.2.2.2.1 a0.2.1 (X0r a0.2.2.2.2).1:=rfl
 rw[<-e]
 refine⟨h,λh1=>?_,λh1=>⟨λh2=>?_,λh2=>?_⟩⟩
 . unfold XpJ fWr;rw[Yah h1];exact⟨rfl,rfl⟩
 . unfold XpJ fWr;rw[Yae h1,Yah h2];exact⟨rfl,rfl⟩
 . unfold XpJ fWr;rw[Yae h1,Yae h2];exact⟨rfl,rfl⟩
def X2S.e:GE:=mE X66 func101 [38] [X1q.e,X9u.e] [] noL (λi x=>X2S.F i x) λi x h _ _=>X2S.p i x h
def X62:Con:={io:=true,I:=T4q,ownI:=[(3,43),(5,109),(6,9),(7,64)],A:=XjH,shA:=[.agg 5],R:=XkE,shR:=[(true,4)],pre:=λi a=>(pSh i a),f:=some λi a=>((Xno i a).1,((Xno i a).2,()))}
def X33.F(i0:U1q)(a0:Xc5):Prop:=(X00 (a0.1==(4:Int)) ((pWr (i0.1,(i0.2.1,(i0.2.2.1,(i0.2.2.2.1,((i0.2.2.2.2.1.1,(i0.2.2.2.2.1.2.1,i0.2.2.2.2.1.2.2)),i0.2.2.2.2.2))))) (a0.1,(a0.2.1,(a0.2.2.1,(a0.2.2.2.1,a0.2.2.2.2)))))/\∀r1,(Eq r1 ((XpJ (i0.1,(i0.2.1,(i0.2.2.1,(i0.2.2.2.1,((i0.2.2.2.2.1.1,(i0.2.2.2.2.1.2.1,i0.2.2.2.2.1.2.2)),i0.2.2.2.2.2))))) (a0.1,(a0.2.1,(a0.2.2.1,(a0.2.2.2.1,a0.2.2.2.2))))).1,((XpJ (i0.1,(i0.2.1,(i0.2.2.1,(i0.2.2.2.1,((i0.2.2.2.2.1.1,(i0.2.2.2.2.1.2.1,i0.2.2.2.2.1.2.2)),i0.2.2.2.2.2))))) (a0.1,(a0.2.1,(a0.2.2.1,(a0.2.2.2.1,a0.2.2.2.2))))).2,())))->(Eq ((r1.1.1,(r1.1.2.1,(r1.1.2.2.1,r1.1.2.2.2))),((r1.2.1.1,(r1.2.1.2.1,(r1.2.1.2.2.1,(r1.2.1.2.2.2.1,((r1.2.1.2.2.2.2.1.1,(r1.2.1.2.2.2.2.1.2.1,r1.2.1.2.2.2.2.1.2.2)),r1.2.1.2.2.2.2.2))))),())) ((Xno i0 a0).1,((Xno i0 a0).2,())))) (X00 (a0.1==(5:Int)) ((Xs7 (i0.2.2.2.2.1.1,(i0.2.2.2.2.1.2.1,i0.2.2.2.2.1.2.2)) a0.2.1 a0.2.2.1 a0.2.2.2.1)/\∀r2,(Eq r2 ((Xeo (i0.2.2.2.2.1.1,(i0.2.2.2.2.1.2.1,i0.2.2.2.2.1.2.2)) a0.2.1 a0.2.2.1 a0.2.2.2.1),((),())))->(True/\∀r3,(Eq r3 ((X04 r2.1),((),())))->(Eq ((0,(0,(i0.2.2.2.2.1.1,r3.1))),((i0.1,(i0.2.1,(i0.2.2.1,(i0.2.2.2.1,((i0.2.2.2.2.1.1,(i0.2.2.2.2.1.2.1,i0.2.2.2.2.1.2.2)),i0.2.2.2.2.2))))),())) ((Xno i0 a0).1,((Xno i0 a0).2,()))))) (X00 (a0.1==(6:Int)) ((Xsd (i0.2.2.2.2.1.1,(i0.2.2.2.2.1.2.1,i0.2.2.2.2.1.2.2)) a0.2.2.1)/\∀r4,(Eq r4 ((Xbu (i0.2.2.2.2.1.1,(i0.2.2.2.2.1.2.1,i0.2.2.2.2.1.2.2)) a0.2.2.1),((),())))->(Eq ((0,(0,(r4.1.1,[]))),((i0.1,(i0.2.1,(i0.2.2.1,(i0.2.2.2.1,((r4.1.1,(r4.1.2.1,r4.1.2.2)),i0.2.2.2.2.2))))),())) ((Xno i0 a0).1,((Xno i0 a0).2,())))) (X00 (a0.1==(7:Int)) ((Xg8 (i0.2.2.2.2.1.1,(i0.2.2.2.2.1.2.1,i0.2.2.2.2.1.2.2)))/\∀r5,(Eq r5 ((XcQ (i0.2.2.2.2.1.1,(i0.2.2.2.2.1.2.1,i0.2.2.2.2.1.2.2))),((),())))->(Eq ((0,(0,(r5.1.1,[]))),((i0.1,(i0.2.1,(i0.2.2.1,(i0.2.2.2.1,((r5.1.1,(r5.1.2.1,r5.1.2.2)),i0.2.2.2.2.2))))),())) ((Xno i0 a0).1,((Xno i0 a0).2,())))) (Eq ((4,(0,(0,[]))),((i0.1,(i0.2.1,(i0.2.2.1,(i0.2.2.2.1,((i0.2.2.2.2.1.1,(i0.2.2.2.2.1.2.1,i0.2.2.2.2.1.2.2)),i0.2.2.2.2.2))))),())) ((Xno i0 a0).1,((Xno i0 a0).2,())))))))
theorem X33.p(i0:U1q)(a0:Xc5)(h:(pSh i0 a0)):X33.F i0 a0:=by
 unfold X33.F
 simp only[Bs,B0,B1,Yaa,X01,YaA]
 unfold Xno fSh
 refine⟨λh1=>?_,λh1=>⟨λh2=>?_,λh2=>⟨λh3=>?_,λh3=>⟨λh4=>?_,λh4=>?_⟩⟩⟩⟩
 . rw[Yah h1];exact⟨h,rfl,rfl⟩
 . rw[Yae h1,Yah h2];exact⟨h.1,rfl,rfl⟩
 . rw[Yae h1,Yae h2,Yah h3];exact⟨h.1,rfl,rfl⟩
 . rw[Yae h1,Yae h2,Yae h3,Yah h4];exact⟨h.1,rfl,rfl⟩
 . rw[Yae h1,Yae h2,Yae h3,Yae h4];exact⟨rfl,rfl⟩
def X33.e:GE:=mE X62 func55 [38] [X2S.e,X1r.e,X5y.e,X5B.e,X5u.e] [] noL (λi x=>X33.F i x) λi x h _ _=>X33.p i x h
def X6K:Con:={io:=true,I:=T4q,ownI:=[(3,43),(5,109),(6,9),(7,64)],A:=XjH,shA:=[.agg 5],R:=XkE,shR:=[(true,4)],pre:=λi a=>(pMt i a),f:=some λi a=>((XlX i a).1,((XlX i a).2,()))}
def X3B.F(i0:U1q)(a0:Xc5):Prop:=(X00 (a0.1==(1:Int)) ((Xk9 (i0.1,(i0.2.1,(i0.2.2.1,(i0.2.2.2.1,((i0.2.2.2.2.1.1,(i0.2.2.2.2.1.2.1,i0.2.2.2.2.1.2.2)),i0.2.2.2.2.2))))) (a0.1,(a0.2.1,(a0.2.2.1,(a0.2.2.2.1,a0.2.2.2.2)))))/\∀r1,(Eq r1 ((X9Y (i0.1,(i0.2.1,(i0.2.2.1,(i0.2.2.2.1,((i0.2.2.2.2.1.1,(i0.2.2.2.2.1.2.1,i0.2.2.2.2.1.2.2)),i0.2.2.2.2.2))))) (a0.1,(a0.2.1,(a0.2.2.1,(a0.2.2.2.1,a0.2.2.2.2))))).1,((X9Y (i0.1,(i0.2.1,(i0.2.2.1,(i0.2.2.2.1,((i0.2.2.2.2.1.1,(i0.2.2.2.2.1.2.1,i0.2.2.2.2.1.2.2)),i0.2.2.2.2.2))))) (a0.1,(a0.2.1,(a0.2.2.1,(a0.2.2.2.1,a0.2.2.2.2))))).2,())))->(Eq ((r1.1.1,(r1.1.2.1,(r1.1.2.2.1,r1.1.2.2.2))),((r1.2.1.1,(r1.2.1.2.1,(r1.2.1.2.2.1,(r1.2.1.2.2.2.1,((r1.2.1.2.2.2.2.1.1,(r1.2.1.2.2.2.2.1.2.1,r1.2.1.2.2.2.2.1.2.2)),r1.2.1.2.2.2.2.2))))),())) ((XlX i0 a0).1,((XlX i0 a0).2,())))) (X00 (a0.1==(2:Int)) (X00 (decide ((wI (a0.2.2.1 - i0.2.1))>i0.2.2.1)) ((Xhc i0.2.2.2.1 (i0.1,(i0.2.1,(wI (a0.2.2.1 - i0.2.1)))))/\∀r2,(Eq r2 ((Xki i0.2.2.2.1 (i0.1,(i0.2.1,(wI (a0.2.2.1 - i0.2.1))))),((),())))->(Eq ((0,(0,((wI (a0.2.2.1 - i0.2.1)),[]))),((i0.1,(i0.2.1,((wI (a0.2.2.1 - i0.2.1)),(r2.1,((i0.2.2.2.2.1.1,(i0.2.2.2.2.1.2.1,i0.2.2.2.2.1.2.2)),i0.2.2.2.2.2))))),())) ((XlX i0 a0).1,((XlX i0 a0).2,())))) (Eq ((0,(0,(i0.2.2.1,[]))),((i0.1,(i0.2.1,(i0.2.2.1,(i0.2.2.2.1,((i0.2.2.2.2.1.1,(i0.2.2.2.2.1.2.1,i0.2.2.2.2.1.2.2)),i0.2.2.2.2.2))))),())) ((XlX i0 a0).1,((XlX i0 a0).2,())))) (X00 (a0.1==(3:Int)) (Eq ((0,(0,(i0.2.2.1,[]))),((i0.1,(a0.2.2.1,(i0.2.2.1,(i0.2.2.2.1,((i0.2.2.2.2.1.1,(i0.2.2.2.2.1.2.1,i0.2.2.2.2.1.2.2)),i0.2.2.2.2.2))))),())) ((XlX i0 a0).1,((XlX i0 a0).2,()))) (Eq ((4,(0,(0,[]))),((i0.1,(i0.2.1,(i0.2.2.1,(i0.2.2.2.1,((i0.2.2.2.2.1.1,(i0.2.2.2.2.1.2.1,i0.2.2.2.2.1.2.2)),i0.2.2.2.2.2))))),())) ((XlX i0 a0).1,((XlX i0 a0).2,()))))))
theorem X3B.p(i0:U1q)(a0:Xc5)(h:(pMt i0 a0)):X3B.F i0 a0:=by
 delta X3B.F wI
 simp only[Bs,B0,B1,Yaa,X01,YaA]
 obtain⟨ho1,hB,hh,hm,hf⟩:=h
 obtain⟨e1,e2,e3,e4⟩:=XoF i0 a0
 have hBl:=hB.len
 have le:a0.1<=3->XlX i0 a0=((XfA i0 a0).2,(XfA i0 a0).1):=λh=>by unfold XlX fMt;rw[Yah h]
 refine⟨λh1=>?_,λh1=>⟨λh2=>?_,λh2=>⟨λh3=>?_,λh3=>?_⟩⟩⟩
 . rw[le (by omega),e1 h1];exact⟨hB,rfl,rfl⟩
 . have hf:=hf h2
   rw[w64 (x:=a0.2.2.1 - i0.2.1) (by omega) (by omega),le (by omega)]
   refine⟨λh3=>?_,λh3=>?_⟩
   . rw[e2 h1 h2 h3];exact⟨by unfold Xhc;omega,rfl,rfl⟩
   . rw[e3 h1 h2 h3];exact⟨rfl,rfl⟩
 . rw[le (by omega),e4 h1 h2];exact⟨rfl,rfl⟩
 . unfold XlX fMt;rw[Yae (by omega)];exact⟨rfl,rfl⟩
def X3B.e:GE:=mE X6K func54 [38] [X2K.e,X08.e,X2l.e] [] noL (λi x=>X3B.F i x) λi x h _ _=>X3B.p i x h
def X9g:Con:=cW (.pair T4q XjH) [.agg 8,.agg 5] (.pair T4q XkE) [(true,8),(true,4)] [(3,43),(5,109),(6,9),(7,64)] (λa=>(XuA a.1 a.2)) λa=>(XcB a.1 a.2)
def X3P.F(a0:U1q)(a1:Xc5):Prop:=((XdM (a0.1,(a0.2.1,(a0.2.2.1,(a0.2.2.2.1,((a0.2.2.2.2.1.1,(a0.2.2.2.2.1.2.1,a0.2.2.2.2.1.2.2)),a0.2.2.2.2.2))))))/\∀r1,(Eq r1 ((Xhl (a0.1,(a0.2.1,(a0.2.2.1,(a0.2.2.2.1,((a0.2.2.2.2.1.1,(a0.2.2.2.2.1.2.1,a0.2.2.2.2.1.2.2)),a0.2.2.2.2.2)))))),((),())))->((pOp (a1.1,(a1.2.1,(a1.2.2.1,(a1.2.2.2.1,a1.2.2.2.2)))))/\∀r2,(Eq r2 ((X0L (a1.1,(a1.2.1,(a1.2.2.1,(a1.2.2.2.1,a1.2.2.2.2))))),((),())))->(X00 (!r2.1) (Eq (((r1.1.1,(r1.1.2.1,(r1.1.2.2.1,(r1.1.2.2.2.1,((r1.1.2.2.2.2.1.1,(r1.1.2.2.2.2.1.2.1,r1.1.2.2.2.2.1.2.2)),r1.1.2.2.2.2.2))))),(1,(0,(0,[])))),((),())) ((XcB a0 a1),((),()))) (X00 (r1.1.1==(1:Int)) ((pMt (r1.1.1,(r1.1.2.1,(r1.1.2.2.1,(r1.1.2.2.2.1,((r1.1.2.2.2.2.1.1,(r1.1.2.2.2.2.1.2.1,r1.1.2.2.2.2.1.2.2)),r1.1.2.2.2.2.2))))) (a1.1,(a1.2.1,(a1.2.2.1,(a1.2.2.2.1,a1.2.2.2.2)))))/\∀r3,(Eq r3 ((XlX (r1.1.1,(r1.1.2.1,(r1.1.2.2.1,(r1.1.2.2.2.1,((r1.1.2.2.2.2.1.1,(r1.1.2.2.2.2.1.2.1,r1.1.2.2.2.2.1.2.2)),r1.1.2.2.2.2.2))))) (a1.1,(a1.2.1,(a1.2.2.1,(a1.2.2.2.1,a1.2.2.2.2))))).1,((XlX (r1.1.1,(r1.1.2.1,(r1.1.2.2.1,(r1.1.2.2.2.1,((r1.1.2.2.2.2.1.1,(r1.1.2.2.2.2.1.2.1,r1.1.2.2.2.2.1.2.2)),r1.1.2.2.2.2.2))))) (a1.1,(a1.2.1,(a1.2.2.1,(a1.2.2.2.1,a1.2.2.2.2))))).2,())))->(Eq (((r3.2.1.1,(r3.2.1.2.1,(r3.2.1.2.2.1,(r3.2.1.2.2.2.1,((r3.2.1.2.2.2.2.1.1,(r3.2.1.2.2.2.2.1.2.1,r3.2.1.2.2.2.2.1.2.2)),r3.2.1.2.2.2.2.2))))),(r3.1.1,(r3.1.2.1,(r3.1.2.2.1,r3.1.2.2.2)))),((),())) ((XcB a0 a1),((),())))) ((pSh (r1.1.1,(r1.1.2.1,(r1.1.2.2.1,(r1.1.2.2.2.1,((r1.1.2.2.2.2.1.1,(r1.1.2.2.2.2.1.2.1,r1.1.2.2.2.2.1.2.2)),r1.1.2.2.2.2.2))))) (a1.1,(a1.2.1,(a1.2.2.1,(a1.2.2.2.1,a1.2.2.2.2)))))/\∀r4,(Eq r4 ((Xno (r1.1.1,(r1.1.2.1,(r1.1.2.2.1,(r1.1.2.2.2.1,((r1.1.2.2.2.2.1.1,(r1.1.2.2.2.2.1.2.1,r1.1.2.2.2.2.1.2.2)),r1.1.2.2.2.2.2))))) (a1.1,(a1.2.1,(a1.2.2.1,(a1.2.2.2.1,a1.2.2.2.2))))).1,((Xno (r1.1.1,(r1.1.2.1,(r1.1.2.2.1,(r1.1.2.2.2.1,((r1.1.2.2.2.2.1.1,(r1.1.2.2.2.2.1.2.1,r1.1.2.2.2.2.1.2.2)),r1.1.2.2.2.2.2))))) (a1.1,(a1.2.1,(a1.2.2.1,(a1.2.2.2.1,a1.2.2.2.2))))).2,())))->(Eq (((r4.2.1.1,(r4.2.1.2.1,(r4.2.1.2.2.1,(r4.2.1.2.2.2.1,((r4.2.1.2.2.2.2.1.1,(r4.2.1.2.2.2.2.1.2.1,r4.2.1.2.2.2.2.1.2.2)),r4.2.1.2.2.2.2.2))))),(r4.1.1,(r4.1.2.1,(r4.1.2.2.1,r4.1.2.2.2)))),((),())) ((XcB a0 a1),((),()))))))))
theorem X3P.p(a0:U1q)(a1:Xc5)(h:(XuA a0 a1)):X3P.F a0 a1:=by
 unfold X3P.F
 simp only[Bs,B0,B1,Yaa,X01,YaA,Xhl,XlX,Xno]
 obtain⟨hS,hp,hk⟩:=h
 unfold XcB
 refine⟨XnS hS,hk,λc=>?_,λc=>⟨λh1=>⟨Xv4 hS h1 c,?_⟩,λh1=>⟨⟨hp.1,hk⟩,?_⟩⟩⟩
 . rw[Yae (by rw[c];decide)]
 . rw[Yah c,Yah h1]
 . rw[Yah c,Yae h1]
def X3P.e:GE:=mE X9g func21 [31,38] [X2T.e,X6M.e,X3B.e,X33.e] [] noL (λi x=>X3P.F x.1 x.2) λi x h _ _=>X3P.p x.1 x.2 h
def X9m:Con:=cW (.pair T4q XjH) [.agg 8,.agg 5] (.pair T4q XkE) [(true,8),(true,4)] [(3,43),(5,109),(6,9),(7,64)] (λa=>(pDo a.1 a.2)) λa=>(fDo a.1 a.2)
def X3x.F(a0:U1q)(a1:Xc5):Prop:=((pSt (a0.1,(a0.2.1,(a0.2.2.1,(a0.2.2.2.1,((a0.2.2.2.2.1.1,(a0.2.2.2.2.1.2.1,a0.2.2.2.2.1.2.2)),a0.2.2.2.2.2))))))/\∀r1,(Eq r1 ((X2W (a0.1,(a0.2.1,(a0.2.2.1,(a0.2.2.2.1,((a0.2.2.2.2.1.1,(a0.2.2.2.2.1.2.1,a0.2.2.2.2.1.2.2)),a0.2.2.2.2.2)))))),((),())))->(X00 (!r1.1) (Eq (((0,(0,(0,(([]:U9q),((0,(([]:(List U3q)),([]:(List U6q)))),([]:(List U7q))))))),(1,(0,(0,[])))),((),())) ((fDo a0 a1),((),()))) ((XuA (a0.1,(a0.2.1,(a0.2.2.1,(a0.2.2.2.1,((a0.2.2.2.2.1.1,(a0.2.2.2.2.1.2.1,a0.2.2.2.2.1.2.2)),a0.2.2.2.2.2))))) (a1.1,(a1.2.1,(a1.2.2.1,(a1.2.2.2.1,a1.2.2.2.2)))))/\∀r2,(Eq r2 ((XcB (a0.1,(a0.2.1,(a0.2.2.1,(a0.2.2.2.1,((a0.2.2.2.2.1.1,(a0.2.2.2.2.1.2.1,a0.2.2.2.2.1.2.2)),a0.2.2.2.2.2))))) (a1.1,(a1.2.1,(a1.2.2.1,(a1.2.2.2.1,a1.2.2.2.2))))),((),())))->(Eq (((r2.1.1.1,(r2.1.1.2.1,(r2.1.1.2.2.1,(r2.1.1.2.2.2.1,((r2.1.1.2.2.2.2.1.1,(r2.1.1.2.2.2.2.1.2.1,r2.1.1.2.2.2.2.1.2.2)),r2.1.1.2.2.2.2.2))))),(r2.1.2.1,(r2.1.2.2.1,(r2.1.2.2.2.1,r2.1.2.2.2.2)))),((),())) ((fDo a0 a1),((),()))))))
theorem X3x.p(a0:U1q)(a1:Xc5)(h:(pDo a0 a1)):X3x.F a0 a1:=by
 unfold X3x.F
 simp only[Bs,B0,B1,Yaa,X01,YaA]
 unfold fDo
 refine⟨h.1,λc=>?_,λc=>⟨⟨c,h.1,h.2⟩,?_⟩⟩
 . rw[Yae (by rw[c];decide)]
 . rw[Yah c]
def X3x.e:GE:=mE X9m func8 [31,38] [X4q.e,X3P.e] [] noL (λi x=>X3x.F x.1 x.2) λi x h _ _=>X3x.p x.1 x.2 h
def acc(s:Stt)(o:Opp):Prop:=s.1=2/\X0L o=true/\o.1=4/\(ptR s o).2=0
def Xvo(e:Eng)(k:Str)(p:List Pt):Prop:=Xta e k p/\¬(X9X e k p).2=0
def pDoA(s:Stt)(o:Opp):Prop:=XuA s o/\¬acc s o
def pDoB(s:Stt)(o:Opp):Prop:=XuA s o/\acc s o
def Xao:Con:=cQ (.pair T8q T5q) [.agg 3,.one,.one] (.pair T8q (.int .i64)) [(true,3),(false,1)] (λa=>(Xvo a.1 a.2.1 a.2.2)) λa=>(XbB a.1 a.2.1 a.2.2)
def X4o.F(a0:X5E)(a1:U6q)(a2:U9q):Prop:=((XfD a1)/\∀r1,(Eq r1 ((X6w a1),((),())))->(X00 (!r1.1) (Eq (((a0.1,(a0.2.1,a0.2.2)),1),((),())) ((XbB a0 a1 a2),((),()))) (True/\∀r2,(Eq r2 ((X0K a2),((),())))->(X00 (!r2.1) (Eq (((a0.1,(a0.2.1,a0.2.2)),1),((),())) ((XbB a0 a1 a2),((),()))) (X00 ((ln a2)==(0:Int)) (Eq (((a0.1,(a0.2.1,a0.2.2)),1),((),())) ((XbB a0 a1 a2),((),()))) (0<=(0:Int)/\((0:Int)<(ln a2)/\(X00 (decide (((List.getD a2 (tN (0:Int)) (0,0)).1)<a0.1)) (Eq (((a0.1,(a0.2.1,a0.2.2)),2),((),())) ((XbB a0 a1 a2),((),()))) ((Xtu a0.2.1 a1 a2)/\∀r3,(Eq r3 ((Xdr a0.2.1 a1 a2),((),())))->((Xrm (a0.1,(r3.1,a0.2.2)))/\∀r4,(Eq r4 ((XhX (a0.1,(r3.1,a0.2.2))),((),())))->((XrA r4.1.1 a0.1)/\∀r5,(Eq r5 ((XoB r4.1.1 a0.1),((),())))->((X3s r5.1)/\∀r6,(Eq r6 ((X0M r5.1),((),())))->(X00 (!r6.1) (Eq (((a0.1,(a0.2.1,a0.2.2)),3),((),())) ((XbB a0 a1 a2),((),()))) ((Xoq r3.1)/\∀r7,(Eq r7 ((Xf0 r3.1),((),())))->(X00 (decide (r7.1>(40:Int))) ((Xrx (a0.1,(r3.1,a0.2.2)))/\∀r8,(Eq r8 ((XoU (a0.1,(r3.1,a0.2.2))),((),())))->(Eq (((r8.1.1,(r8.1.2.1,r8.1.2.2)),0),((),())) ((XbB a0 a1 a2),((),())))) (Eq (((a0.1,(r3.1,a0.2.2)),0),((),())) ((XbB a0 a1 a2),((),()))))))))))))))))))
theorem X4o.p(a0:X5E)(a1:U6q)(a2:U9q)(h:(Xvo a0 a1 a2)):X4o.F a0 a1 a2:=by
 delta X4o.F ln tN
 simp only[Bs,B0,B1,Yaa,X01,YaA,XbB]
 obtain⟨⟨h1,hp,hk⟩,hne⟩:=h
 have G:=Xe9 h1 hp
 have bad:¬(X6w a1=true/\X0K a2=true/\a2≠[])->(a0,(1:Int))=X9X a0 a1 a2:=λh=>by unfold X9X;rw[Yah h1,Yae h]
 have late:(X6w a1=true/\X0K a2=true/\a2≠[])->(a2.getD 0 (0,0)).1<a0.1->(a0,(2:Int))=X9X a0 a1 a2:=λh h'=>by unfold X9X;rw[Yah h1,Yah h,Yah h']
 have full:(X6w a1=true/\X0K a2=true/\a2≠[])->¬(a2.getD 0 (0,0)).1<a0.1->X0M (X0k (eX a0 a1 a2)).1=false->(a0,(3:Int))=X9X a0 a1 a2:=λh h' h2=>by unfold X9X;rw[Yah h1,Yah h,Yae h',Yae (by rw[h2];decide)]
 have big:(X6w a1=true/\X0K a2=true/\a2≠[])->¬(a2.getD 0 (0,0)).1<a0.1->X0M (X0k (eX a0 a1 a2)).1=true->40<Xf0 (eX a0 a1 a2).2.1->(fFl (eX a0 a1 a2),(0:Int))=X9X a0 a1 a2:=λh h' h2 h3=>by unfold X9X;rw[Yah h1,Yah h,Yae h',Yah h2,Yah h3]
 have fine:(X6w a1=true/\X0K a2=true/\a2≠[])->¬(a2.getD 0 (0,0)).1<a0.1->X0M (X0k (eX a0 a1 a2)).1=true->¬40<Xf0 (eX a0 a1 a2).2.1->(eX a0 a1 a2,(0:Int))=X9X a0 a1 a2:=λh h' h2 h3=>by unfold X9X;rw[Yah h1,Yah h,Yae h',Yah h2,Yae h3]
 have ca:=X39 G.ca
 have le:=G.le
 refine⟨hk,λh2=>bad (by simp[h2]),λh2=>⟨λh3=>bad (by simp[h3]),λh3=>⟨λh4=>bad (λhh=>hh.2.2 (YaL.1 (by omega))),λh4=>?_⟩⟩⟩
 have hn:a2≠[]:=λe=>h4 (by rw[e];rfl)
 have hn2:0<a2.length:=Ybh.2 hn
 have hq:X6w a1=true/\X0K a2=true/\a2≠[]:=⟨h2,h3,hn⟩
 have hl:=Xdw h3
 have e0:(0:Int).toNat=0:=rfl
 simp only[e0]
 refine⟨by omega,by omega,λh5=>late hq h5,λh5=>⟨⟨by omega,by omega⟩,?_⟩⟩
 obtain⟨X1,X2⟩:=XhR h1 hp h3 hn h5
 have eX0:(a0.1,Xdr a0.2.1 a1 a2,a0.2.2)=eX a0 a1 a2:=by rw[XlQ G.R.1];rfl
 have eX1:Xdr a0.2.1 a1 a2=(eX a0 a1 a2).2.1:=by rw[<-eX0]
 have hS:∀x∈[((a1,a2):Ser)],Xf2 x.2:=λx hx=>by rw[YaN.1 hx];exact hl.1
 have hc2:Xd0 (eX a0 a1 a2).2.1:=X7l G.R hS
 have ht2:tot (eX a0 a1 a2).2.1<=305+61:=by
  have t1:=Xd1 G.R hS
  have t2:tot [((a1,a2):Ser)]=(a2.length:Int)+1:=by simp[tot,cL,cS]
  have t3:tot (eX a0 a1 a2).2.1=tot (X4D a0.2.1 [(a1,a2)]):=rfl
  omega
 have hy:XhX (eX a0 a1 a2)=(XaL a0.2.2++[(eX a0 a1 a2).2.1],true):=XfL (e:=eX a0 a1 a2) G.ok
 have hpl:XoB (XaL a0.2.2++[(eX a0 a1 a2).2.1]) a0.1=(X0k (eX a0 a1 a2)).1:=XtX (e:=eX a0 a1 a2) hc2 G.ok
 have htt:=XfS (eX a0 a1 a2)
 have htt2:cL tot (XaL (eX a0 a1 a2).2.2++[(eX a0 a1 a2).2.1])=cL tot (XaL a0.2.2++[(eX a0 a1 a2).2.1]):=rfl
 have hle2:(eX a0 a1 a2).2.2.length=a0.2.2.length:=rfl
 have hkey:X3s (X0k (eX a0 a1 a2)).1:=by
  rw[<-X1]
  have hk8:a1.length<=8:=by
   have:=h2;unfold X6w fIn at this;simp only[Yac,Yaj]at this;omega
  refine XkS (Xd5 (λx hx=>((X39 G.pl).2.2.2 x hx).1) λx hx=>?_)
  rw[YaN.1 hx];exact hk8
 rw[eX0,hy]
 simp only
 rw[hpl,eX1]
 refine⟨⟨G.st,by omega⟩,by unfold XrA;omega,hkey,λh6=>full hq h5 h6,λh6=>⟨by unfold Xoq;omega,λh7=>absurd (by rw[<-big hq h5 h6 h7]) hne,λh7=>fine hq h5 h6 (by omega)⟩⟩
def X4o.e:GE:=mE Xao func59 [28,3] [X0W.e,Xco.e,X1z.e,X21.e,X1A.e,X41.e,X1C.e,X2R.e] [] noL (λi x=>X4o.F x.1 x.2.1 x.2.2) λi x h _ _=>X4o.p x.1 x.2.1 x.2.2 h
def X8a.F(a0:U1q)(a1:Xc5)(W:Prop):Prop:=((pOp (a1.1,(a1.2.1,(a1.2.2.1,(a1.2.2.2.1,a1.2.2.2.2)))))/\∀r1,(Eq r1 ((X0L (a1.1,(a1.2.1,(a1.2.2.1,(a1.2.2.2.1,a1.2.2.2.2))))),((),())))->(X00 (!r1.1) (Eq (((a0.1,(a0.2.1,(a0.2.2.1,(a0.2.2.2.1,((a0.2.2.2.2.1.1,(a0.2.2.2.2.1.2.1,a0.2.2.2.2.1.2.2)),a0.2.2.2.2.2))))),(1,(0,(0,[])))),((),())) ((XcB a0 a1),((),()))) (X00 (!((decide (a1.1<=(3:Int)))==(a0.1==(1:Int)))) (Eq (((a0.1,(a0.2.1,(a0.2.2.1,(a0.2.2.2.1,((a0.2.2.2.2.1.1,(a0.2.2.2.2.1.2.1,a0.2.2.2.2.1.2.2)),a0.2.2.2.2.2))))),(4,(0,(0,[])))),((),())) ((XcB a0 a1),((),()))) (X00 (a1.1==(1:Int)) ((Xk9 (a0.1,(a0.2.1,(a0.2.2.1,(a0.2.2.2.1,((a0.2.2.2.2.1.1,(a0.2.2.2.2.1.2.1,a0.2.2.2.2.1.2.2)),a0.2.2.2.2.2))))) (a1.1,(a1.2.1,(a1.2.2.1,(a1.2.2.2.1,a1.2.2.2.2)))))/\∀r2,(Eq r2 ((X9B (a0.1,(a0.2.1,(a0.2.2.1,(a0.2.2.2.1,((a0.2.2.2.2.1.1,(a0.2.2.2.2.1.2.1,a0.2.2.2.2.1.2.2)),a0.2.2.2.2.2))))) (a1.1,(a1.2.1,(a1.2.2.1,(a1.2.2.2.1,a1.2.2.2.2))))),((),())))->(Eq (((r2.1.1.1,(r2.1.1.2.1,(r2.1.1.2.2.1,(r2.1.1.2.2.2.1,((r2.1.1.2.2.2.2.1.1,(r2.1.1.2.2.2.2.1.2.1,r2.1.1.2.2.2.2.1.2.2)),r2.1.1.2.2.2.2.2))))),(r2.1.2.1,(r2.1.2.2.1,(r2.1.2.2.2.1,r2.1.2.2.2.2)))),((),())) ((XcB a0 a1),((),())))) (X00 (a1.1==(2:Int)) (X00 (decide ((wI (a1.2.2.1 - a0.2.1))>a0.2.2.1)) (eS [(2,.box 3 0),(4,.box 5 0),(5,.box 6 0)] [(2,.box 3 0),(4,.box 5 0),(5,.box 6 0)]/\((lmI a0 a1 0 a0.1 a0.2.1 (wI (a1.2.2.1 - a0.2.1)) a0.2.2.2.2.1.1 0 0 0 0 ([]:List U3q) ([]:List U6q) ([]:List U7q) 0 0 0 [] ([]:List (Int×Int)) a0.2.2.2.1 a0.2.2.2.2.1.2.1 a0.2.2.2.2.1.2.2 a0.2.2.2.2.2 ([]:List (Int×Int)))/\∀(y3:U25q),(lmI a0 a1 y3.1 y3.2.1 y3.2.2.1 y3.2.2.2.1 y3.2.2.2.2.1 y3.2.2.2.2.2.1 y3.2.2.2.2.2.2.1 y3.2.2.2.2.2.2.2.1 y3.2.2.2.2.2.2.2.2.1 y3.2.2.2.2.2.2.2.2.2.1 y3.2.2.2.2.2.2.2.2.2.2.1 y3.2.2.2.2.2.2.2.2.2.2.2.1 y3.2.2.2.2.2.2.2.2.2.2.2.2.1 y3.2.2.2.2.2.2.2.2.2.2.2.2.2.1 y3.2.2.2.2.2.2.2.2.2.2.2.2.2.2.1 y3.2.2.2.2.2.2.2.2.2.2.2.2.2.2.2.1 y3.2.2.2.2.2.2.2.2.2.2.2.2.2.2.2.2.1 y3.2.2.2.2.2.2.2.2.2.2.2.2.2.2.2.2.2.1 y3.2.2.2.2.2.2.2.2.2.2.2.2.2.2.2.2.2.2.1 y3.2.2.2.2.2.2.2.2.2.2.2.2.2.2.2.2.2.2.2.1 y3.2.2.2.2.2.2.2.2.2.2.2.2.2.2.2.2.2.2.2.2.1 y3.2.2.2.2.2.2.2.2.2.2.2.2.2.2.2.2.2.2.2.2.2)->(X00 (decide (y3.1<(ln y3.2.2.2.2.2.2.2.2.2.2.2.2.2.2.2.2.2.1))) (0<=y3.1/\(y3.1<(ln y3.2.2.2.2.2.2.2.2.2.2.2.2.2.2.2.2.2.1)/\(True/\∀r4,(Eq r4 ((Xds ((List.getD y3.2.2.2.2.2.2.2.2.2.2.2.2.2.2.2.2.2.1 (tN y3.1) (0,0)).1) y3.2.2.2.1),((),())))->(X00 (!r4.1) (0<=y3.1/\(y3.1<(ln y3.2.2.2.2.2.2.2.2.2.2.2.2.2.2.2.2.2.1)/\(List.length y3.2.2.2.2.2.2.2.2.2.2.2.2.2.2.2.2.1+List.length [((List.getD y3.2.2.2.2.2.2.2.2.2.2.2.2.2.2.2.2.2.1 (tN y3.1) (0,0)).1,(List.getD y3.2.2.2.2.2.2.2.2.2.2.2.2.2.2.2.2.2.1 (tN y3.1) (0,0)).2)]<=9223372036854775807/\((List.length y3.2.2.2.2.2.2.2.2.2.2.2.2.2.2.2.2.1+List.length [((List.getD y3.2.2.2.2.2.2.2.2.2.2.2.2.2.2.2.2.2.1 (tN y3.1) (0,0)).1,(List.getD y3.2.2.2.2.2.2.2.2.2.2.2.2.2.2.2.2.2.1 (tN y3.1) (0,0)).2)])*16<=140737488355328/\(eS [(2,.box 3 0),(4,.box 5 0),(5,.box 6 0)] [(2,.box 3 0),(4,.box 5 0),(5,.box 6 0)]/\(lmI a0 a1 (wI (y3.1+(1:Int))) y3.2.1 y3.2.2.1 y3.2.2.2.1 y3.2.2.2.2.1 y3.2.2.2.2.2.1 y3.2.2.2.2.2.2.1 y3.2.2.2.2.2.2.2.1 y3.2.2.2.2.2.2.2.2.1 y3.2.2.2.2.2.2.2.2.2.1 y3.2.2.2.2.2.2.2.2.2.2.1 y3.2.2.2.2.2.2.2.2.2.2.2.1 y3.2.2.2.2.2.2.2.2.2.2.2.2.1 y3.2.2.2.2.2.2.2.2.2.2.2.2.2.1 y3.2.2.2.2.2.2.2.2.2.2.2.2.2.2.1 y3.2.2.2.2.2.2.2.2.2.2.2.2.2.2.2.1 (y3.2.2.2.2.2.2.2.2.2.2.2.2.2.2.2.2.1++[((List.getD y3.2.2.2.2.2.2.2.2.2.2.2.2.2.2.2.2.2.1 (tN y3.1) (0,0)).1,(List.getD y3.2.2.2.2.2.2.2.2.2.2.2.2.2.2.2.2.2.1 (tN y3.1) (0,0)).2)]) y3.2.2.2.2.2.2.2.2.2.2.2.2.2.2.2.2.2.1 y3.2.2.2.2.2.2.2.2.2.2.2.2.2.2.2.2.2.2.1 y3.2.2.2.2.2.2.2.2.2.2.2.2.2.2.2.2.2.2.2.1 y3.2.2.2.2.2.2.2.2.2.2.2.2.2.2.2.2.2.2.2.2.1 y3.2.2.2.2.2.2.2.2.2.2.2.2.2.2.2.2.2.2.2.2.2)/\(lmM a0 a1 (wI (y3.1+(1:Int))) y3.2.1 y3.2.2.1 y3.2.2.2.1 y3.2.2.2.2.1 y3.2.2.2.2.2.1 y3.2.2.2.2.2.2.1 y3.2.2.2.2.2.2.2.1 y3.2.2.2.2.2.2.2.2.1 y3.2.2.2.2.2.2.2.2.2.1 y3.2.2.2.2.2.2.2.2.2.2.1 y3.2.2.2.2.2.2.2.2.2.2.2.1 y3.2.2.2.2.2.2.2.2.2.2.2.2.1 y3.2.2.2.2.2.2.2.2.2.2.2.2.2.1 y3.2.2.2.2.2.2.2.2.2.2.2.2.2.2.1 y3.2.2.2.2.2.2.2.2.2.2.2.2.2.2.2.1 (y3.2.2.2.2.2.2.2.2.2.2.2.2.2.2.2.2.1++[((List.getD y3.2.2.2.2.2.2.2.2.2.2.2.2.2.2.2.2.2.1 (tN y3.1) (0,0)).1,(List.getD y3.2.2.2.2.2.2.2.2.2.2.2.2.2.2.2.2.2.1 (tN y3.1) (0,0)).2)]) y3.2.2.2.2.2.2.2.2.2.2.2.2.2.2.2.2.2.1 y3.2.2.2.2.2.2.2.2.2.2.2.2.2.2.2.2.2.2.1 y3.2.2.2.2.2.2.2.2.2.2.2.2.2.2.2.2.2.2.2.1 y3.2.2.2.2.2.2.2.2.2.2.2.2.2.2.2.2.2.2.2.2.1 y3.2.2.2.2.2.2.2.2.2.2.2.2.2.2.2.2.2.2.2.2.2)<(lmM a0 a1 y3.1 y3.2.1 y3.2.2.1 y3.2.2.2.1 y3.2.2.2.2.1 y3.2.2.2.2.2.1 y3.2.2.2.2.2.2.1 y3.2.2.2.2.2.2.2.1 y3.2.2.2.2.2.2.2.2.1 y3.2.2.2.2.2.2.2.2.2.1 y3.2.2.2.2.2.2.2.2.2.2.1 y3.2.2.2.2.2.2.2.2.2.2.2.1 y3.2.2.2.2.2.2.2.2.2.2.2.2.1 y3.2.2.2.2.2.2.2.2.2.2.2.2.2.1 y3.2.2.2.2.2.2.2.2.2.2.2.2.2.2.1 y3.2.2.2.2.2.2.2.2.2.2.2.2.2.2.2.1 y3.2.2.2.2.2.2.2.2.2.2.2.2.2.2.2.2.1 y3.2.2.2.2.2.2.2.2.2.2.2.2.2.2.2.2.2.1 y3.2.2.2.2.2.2.2.2.2.2.2.2.2.2.2.2.2.2.1 y3.2.2.2.2.2.2.2.2.2.2.2.2.2.2.2.2.2.2.2.1 y3.2.2.2.2.2.2.2.2.2.2.2.2.2.2.2.2.2.2.2.2.1 y3.2.2.2.2.2.2.2.2.2.2.2.2.2.2.2.2.2.2.2.2.2)))))) (eS [(2,.box 3 0),(4,.box 5 0),(5,.box 6 0)] [(2,.box 3 0),(4,.box 5 0),(5,.box 6 0)]/\(lmI a0 a1 (wI (y3.1+(1:Int))) y3.2.1 y3.2.2.1 y3.2.2.2.1 y3.2.2.2.2.1 y3.2.2.2.2.2.1 y3.2.2.2.2.2.2.1 y3.2.2.2.2.2.2.2.1 y3.2.2.2.2.2.2.2.2.1 y3.2.2.2.2.2.2.2.2.2.1 y3.2.2.2.2.2.2.2.2.2.2.1 y3.2.2.2.2.2.2.2.2.2.2.2.1 y3.2.2.2.2.2.2.2.2.2.2.2.2.1 y3.2.2.2.2.2.2.2.2.2.2.2.2.2.1 y3.2.2.2.2.2.2.2.2.2.2.2.2.2.2.1 y3.2.2.2.2.2.2.2.2.2.2.2.2.2.2.2.1 y3.2.2.2.2.2.2.2.2.2.2.2.2.2.2.2.2.1 y3.2.2.2.2.2.2.2.2.2.2.2.2.2.2.2.2.2.1 y3.2.2.2.2.2.2.2.2.2.2.2.2.2.2.2.2.2.2.1 y3.2.2.2.2.2.2.2.2.2.2.2.2.2.2.2.2.2.2.2.1 y3.2.2.2.2.2.2.2.2.2.2.2.2.2.2.2.2.2.2.2.2.1 y3.2.2.2.2.2.2.2.2.2.2.2.2.2.2.2.2.2.2.2.2.2)/\(lmM a0 a1 (wI (y3.1+(1:Int))) y3.2.1 y3.2.2.1 y3.2.2.2.1 y3.2.2.2.2.1 y3.2.2.2.2.2.1 y3.2.2.2.2.2.2.1 y3.2.2.2.2.2.2.2.1 y3.2.2.2.2.2.2.2.2.1 y3.2.2.2.2.2.2.2.2.2.1 y3.2.2.2.2.2.2.2.2.2.2.1 y3.2.2.2.2.2.2.2.2.2.2.2.1 y3.2.2.2.2.2.2.2.2.2.2.2.2.1 y3.2.2.2.2.2.2.2.2.2.2.2.2.2.1 y3.2.2.2.2.2.2.2.2.2.2.2.2.2.2.1 y3.2.2.2.2.2.2.2.2.2.2.2.2.2.2.2.1 y3.2.2.2.2.2.2.2.2.2.2.2.2.2.2.2.2.1 y3.2.2.2.2.2.2.2.2.2.2.2.2.2.2.2.2.2.1 y3.2.2.2.2.2.2.2.2.2.2.2.2.2.2.2.2.2.2.1 y3.2.2.2.2.2.2.2.2.2.2.2.2.2.2.2.2.2.2.2.1 y3.2.2.2.2.2.2.2.2.2.2.2.2.2.2.2.2.2.2.2.2.1 y3.2.2.2.2.2.2.2.2.2.2.2.2.2.2.2.2.2.2.2.2.2)<(lmM a0 a1 y3.1 y3.2.1 y3.2.2.1 y3.2.2.2.1 y3.2.2.2.2.1 y3.2.2.2.2.2.1 y3.2.2.2.2.2.2.1 y3.2.2.2.2.2.2.2.1 y3.2.2.2.2.2.2.2.2.1 y3.2.2.2.2.2.2.2.2.2.1 y3.2.2.2.2.2.2.2.2.2.2.1 y3.2.2.2.2.2.2.2.2.2.2.2.1 y3.2.2.2.2.2.2.2.2.2.2.2.2.1 y3.2.2.2.2.2.2.2.2.2.2.2.2.2.1 y3.2.2.2.2.2.2.2.2.2.2.2.2.2.2.1 y3.2.2.2.2.2.2.2.2.2.2.2.2.2.2.2.1 y3.2.2.2.2.2.2.2.2.2.2.2.2.2.2.2.2.1 y3.2.2.2.2.2.2.2.2.2.2.2.2.2.2.2.2.2.1 y3.2.2.2.2.2.2.2.2.2.2.2.2.2.2.2.2.2.2.1 y3.2.2.2.2.2.2.2.2.2.2.2.2.2.2.2.2.2.2.2.1 y3.2.2.2.2.2.2.2.2.2.2.2.2.2.2.2.2.2.2.2.2.1 y3.2.2.2.2.2.2.2.2.2.2.2.2.2.2.2.2.2.2.2.2.2)))))) (Eq (((y3.2.1,(y3.2.2.1,(y3.2.2.2.1,(y3.2.2.2.2.2.2.2.2.2.2.2.2.2.2.2.2.1,((y3.2.2.2.2.1,(y3.2.2.2.2.2.2.2.2.2.2.2.2.2.2.2.2.2.2.1,y3.2.2.2.2.2.2.2.2.2.2.2.2.2.2.2.2.2.2.2.1)),y3.2.2.2.2.2.2.2.2.2.2.2.2.2.2.2.2.2.2.2.2.1))))),(0,(0,(y3.2.2.2.1,[])))),((),())) ((XcB a0 a1),((),())))))) (Eq (((a0.1,(a0.2.1,(a0.2.2.1,(a0.2.2.2.1,((a0.2.2.2.2.1.1,(a0.2.2.2.2.1.2.1,a0.2.2.2.2.1.2.2)),a0.2.2.2.2.2))))),(0,(0,(a0.2.2.1,[])))),((),())) ((XcB a0 a1),((),())))) (X00 (a1.1==(3:Int)) (Eq (((a0.1,(a1.2.2.1,(a0.2.2.1,(a0.2.2.2.1,((a0.2.2.2.2.1.1,(a0.2.2.2.2.1.2.1,a0.2.2.2.2.1.2.2)),a0.2.2.2.2.2))))),(0,(0,(a0.2.2.1,[])))),((),())) ((XcB a0 a1),((),()))) (X00 (a1.1==(4:Int)) W (X00 (a1.1==(5:Int)) ((Xrm (a0.2.2.2.2.1.1,(a0.2.2.2.2.1.2.1,a0.2.2.2.2.1.2.2)))/\∀r7,(Eq r7 ((XhX (a0.2.2.2.2.1.1,(a0.2.2.2.2.1.2.1,a0.2.2.2.2.1.2.2))),((),())))->((XnV r7.1.1 a0.2.2.2.2.1.1 a1.2.1)/\∀r8,(Eq r8 ((XaZ r7.1.1 a0.2.2.2.2.1.1 a1.2.1),((),())))->((X8g r8.1 a1.2.2.1 a1.2.2.2.1)/\∀r9,(Eq r9 ((X1Z r8.1 a1.2.2.1 a1.2.2.2.1),((),())))->(True/\∀r10,(Eq r10 ((X04 r9.1),((),())))->(Eq (((a0.1,(a0.2.1,(a0.2.2.1,(a0.2.2.2.1,((a0.2.2.2.2.1.1,(a0.2.2.2.2.1.2.1,a0.2.2.2.2.1.2.2)),a0.2.2.2.2.2))))),(0,(0,(a0.2.2.2.2.1.1,r10.1)))),((),())) ((XcB a0 a1),((),()))))))) (X00 (a1.1==(6:Int)) ((Xom (a0.2.2.2.2.1.1,(a0.2.2.2.2.1.2.1,a0.2.2.2.2.1.2.2)) a1.2.2.1)/\∀r11,(Eq r11 ((XaJ (a0.2.2.2.2.1.1,(a0.2.2.2.2.1.2.1,a0.2.2.2.2.1.2.2)) a1.2.2.1),((),())))->(Eq (((a0.1,(a0.2.1,(a0.2.2.1,(a0.2.2.2.1,((r11.1.1,(r11.1.2.1,r11.1.2.2)),a0.2.2.2.2.2))))),(0,(0,(r11.1.1,[])))),((),())) ((XcB a0 a1),((),())))) (X00 (a1.1==(7:Int)) ((pFl (a0.2.2.2.2.1.1,(a0.2.2.2.2.1.2.1,a0.2.2.2.2.1.2.2)))/\∀r12,(Eq r12 ((fFl (a0.2.2.2.2.1.1,(a0.2.2.2.2.1.2.1,a0.2.2.2.2.1.2.2))),((),())))->(Eq (((a0.1,(a0.2.1,(a0.2.2.1,(a0.2.2.2.1,((r12.1.1,(r12.1.2.1,r12.1.2.2)),a0.2.2.2.2.2))))),(0,(0,(r12.1.1,[])))),((),())) ((XcB a0 a1),((),())))) (Eq (((a0.1,(a0.2.1,(a0.2.2.1,(a0.2.2.2.1,((a0.2.2.2.2.1.1,(a0.2.2.2.2.1.2.1,a0.2.2.2.2.1.2.2)),a0.2.2.2.2.2))))),(0,(0,(a0.2.2.2.2.1.1,[])))),((),())) ((XcB a0 a1),((),())))))))))))))
theorem X8a.p(a0:U1q)(a1:Xc5)(h:XuA a0 a1){W:Prop}(hW:X0L a1=true->a1.1=4->a0.1=2->W):X8a.F a0 a1 W:=by
 delta X8a.F ln tN wI eS
 simp only[Bs,B0,B1,Yaa,X01,YaA]
 obtain⟨hS,hp,hk⟩:=h
 refine⟨hk,λc=>by unfold XcB;rw[Yae (by rw[c];decide)],λho=>?_⟩
 have kk:=Xs2 ho
 have hkd:=Xvs hS
 have e0:XcB a0 a1=if a0.1=1 then fMt a0 a1 else fSh a0 a1:=by unfold XcB;rw[Yah ho]
 obtain⟨e1,e2,e3,e4⟩:=XoF a0 a1
 rw[e0]
 refine⟨λc=>?_,λc=>?_⟩
 . rcases hkd with h1 | h1
   . rw[Yah h1];unfold fMt;rw[Yae];intro h3;exact c (by rw[Yaz h3,h1];rfl)
   . rw[Yae (by omega)]
     have h3:a1.1<=3:=Decidable.byContradiction λh3=>c (by rw[Yaw h3,h1];rfl)
     unfold fSh;rw[Yae (by omega),Yae (by omega),Yae (by omega),Yae (by omega)]
 have hm:a1.1<=3↔a0.1=1:=by rw[<-decide_eq_true_iff (p:=a1.1<=3),c,YbS]
 have hMt:a1.1<=3->(if a0.1=1 then fMt a0 a1 else fSh a0 a1)=XfA a0 a1:=λh=>by rw[Yah (hm.1 h)];unfold fMt;rw[Yah h]
 have hSh:¬a1.1<=3->(if a0.1=1 then fMt a0 a1 else fSh a0 a1)=fSh a0 a1:=λh=>Yae λc=>h (hm.2 c)
 have h2E:¬a1.1<=3->a0.1=2:=λh=>hkd.resolve_left λc=>h (hm.2 c)
 have hE:¬a1.1<=3->X3t a0.2.2.2.2.1=true:=λh=>Xso hS (h2E h)
 refine⟨λh1=>?_,λh1=>⟨λh2=>?_,λh2=>⟨λh3=>?_,λh3=>⟨λh4=>?_,λh4=>⟨λh5=>?_,λh5=>⟨λh6=>?_,λh6=>⟨λh7=>?_,λh7=>by omega⟩⟩⟩⟩⟩⟩⟩
 . rw[hMt (by omega),e1 h1];exact⟨(Xv4 hS (hm.1 (by omega)) ho).2.1,rfl⟩
 . obtain⟨_,hB,hh,hmk,hf⟩:=Xv4 hS (hm.1 (by omega)) ho
   have hf:=hf h2
   have hBl:=hB.len
   rw[w64 (x:=a1.2.2.1 - a0.2.1) (by omega) (by omega),hMt (by omega)]
   refine⟨λh3=>?_,λh3=>(e3 h1 h2 h3).symm⟩
   rw[e2 h1 h2 h3]
   refine⟨⟨⟨by omega,by omega⟩,rfl,by simp[Xf5],by simp⟩,?_⟩
   rintro⟨i,k,hd,mk,fl,z0,z1,z2,z4,z5,z6,z7,c1,c2,c3,c4,l,bk,ca,fi,se,z3⟩ ⟨⟨q1,q2⟩,q3,q4,q5⟩
   simp only at q1 q2 q3 q4 q5 ⊢
   have q3o:=q3
   simp only[Xrk,Yaa]at q3
   obtain⟨r1,r2,r3,r4⟩:=q3
   have rb:bk=a0.2.2.2.1:=Ybo Prod.fst r4
   have rr:((fl,(ca,fi)),se)=a0.2.2.2.2:=Ybo Prod.snd r4
   subst rb
   subst r3
   refine⟨λhi=>?_,λhi=>?_⟩
   . have ht:Xf5 (a0.2.2.2.1.take (i+1).toNat) (a1.2.2.1 - a0.2.1)=Xf5 (a0.2.2.2.1.take i.toNat) (a1.2.2.1 - a0.2.1)++Xf5 [a0.2.2.2.1.getD i.toNat (0,0)] (a1.2.2.1 - a0.2.1):=by
      rw[tn1 q1,X0J (0,0) (by omega)];unfold Xf5;rw[YaY]
     rw[<-q4]at ht
     rw[w64 (x:=i+1) (by omega) (by omega)]
     generalize a0.2.2.2.1.getD i.toNat (0,0)=x at ht ⊢
     refine⟨q1,hi,λh4=>⟨q1,hi,by omega,by omega,⟨⟨by omega,by omega⟩,q3o,?_,by simp only[Yab,Yad,Yai];omega⟩,by unfold lmM;omega⟩,λh4=>⟨⟨⟨by omega,by omega⟩,q3o,?_,by omega⟩,by unfold lmM;omega⟩⟩
     . rw[ht];simp[Xf5,h4]
     . rw[ht];simp[Xf5,h4]
   . have e:i.toNat=a0.2.2.2.1.length:=by omega
     rw[e,Yat]at q4
     rw[q4,r1,r2,<-rr]
 . rw[hMt (by omega),e4 h1 h2]
 . exact hW ho h4 (h2E (by omega))
 . obtain⟨l1,l2,l3,l4⟩:=Xsa (k:=a1.2.1) (a:=a1.2.2.1) (b:=a1.2.2.2.1) (hE (by omega)) hp.1
   rw[hSh (by omega)];unfold fSh;rw[Yae h4,Yah h5,l4];exact⟨l1,l2,l3,rfl⟩
 . rw[hSh (by omega)];unfold fSh Xbu;rw[Yae h4,Yae h5,Yah h6,Yah (hE (by omega))];exact⟨(Xoz (hE (by omega))).1,rfl⟩
 . rw[hSh (by omega)];unfold fSh XcQ;rw[Yae h4,Yae h5,Yae h6,Yah h7,Yah (hE (by omega))];exact⟨Xe9 (hE (by omega)) hp.1,rfl⟩
def Xd9:Con:={A:=(.pair T4q XjH),shA:=[.agg 8,.agg 5],ownA:=[(3,43),(5,109),(6,9),(7,64)],R:=(.pair T4q XkE),shR:=[(true,8),(true,4)],pre:=λ_ a=>(pDoA a.1 a.2),f:=some λ_ a=>((XcB a.1 a.2),((),()))}
def X50.F(a0:U1q)(a1:Xc5):Prop:=X8a.F a0 a1 (True/\∀r5,(Eq r5 ((X0r a1.2.2.2.2),((),())))->((Xvo (a0.2.2.2.2.1.1,(a0.2.2.2.2.1.2.1,a0.2.2.2.2.1.2.2)) a1.2.1 r5.1.1)/\∀r6,(Eq r6 ((XbB (a0.2.2.2.2.1.1,(a0.2.2.2.2.1.2.1,a0.2.2.2.2.1.2.2)) a1.2.1 r5.1.1),((),())))->(X00 (r6.1.2==(2:Int)) (X00 (r6.1.2==(3:Int)) (X00 (r6.1.2==(0:Int)) (Eq (((a0.1,(a0.2.1,(a0.2.2.1,(a0.2.2.2.1,((r6.1.1.1,(r6.1.1.2.1,r6.1.1.2.2)),a0.2.2.2.2.2))))),(3,(0,(r6.1.1.1,[])))),((),())) ((XcB a0 a1),((),()))) (Eq (((a0.1,(a0.2.1,(a0.2.2.1,(a0.2.2.2.1,((a0.2.2.2.2.1.1,(a0.2.2.2.2.1.2.1,a0.2.2.2.2.1.2.2)),a0.2.2.2.2.2))))),(3,(0,(a0.2.2.2.2.1.1,[])))),((),())) ((XcB a0 a1),((),())))) (X00 (r6.1.2==(0:Int)) (Eq (((a0.1,(a0.2.1,(a0.2.2.1,(a0.2.2.2.1,((r6.1.1.1,(r6.1.1.2.1,r6.1.1.2.2)),a0.2.2.2.2.2))))),(2,(0,(r6.1.1.1,[])))),((),())) ((XcB a0 a1),((),()))) (Eq (((a0.1,(a0.2.1,(a0.2.2.1,(a0.2.2.2.1,((a0.2.2.2.2.1.1,(a0.2.2.2.2.1.2.1,a0.2.2.2.2.1.2.2)),a0.2.2.2.2.2))))),(2,(0,(a0.2.2.2.2.1.1,[])))),((),())) ((XcB a0 a1),((),()))))) (X00 (r6.1.2==(3:Int)) (X00 (r6.1.2==(0:Int)) (Eq (((a0.1,(a0.2.1,(a0.2.2.1,(a0.2.2.2.1,((r6.1.1.1,(r6.1.1.2.1,r6.1.1.2.2)),a0.2.2.2.2.2))))),(3,(0,(r6.1.1.1,[])))),((),())) ((XcB a0 a1),((),()))) (Eq (((a0.1,(a0.2.1,(a0.2.2.1,(a0.2.2.2.1,((a0.2.2.2.2.1.1,(a0.2.2.2.2.1.2.1,a0.2.2.2.2.1.2.2)),a0.2.2.2.2.2))))),(3,(0,(a0.2.2.2.2.1.1,[])))),((),())) ((XcB a0 a1),((),())))) (X00 (r6.1.2==(0:Int)) (Eq (((a0.1,(a0.2.1,(a0.2.2.1,(a0.2.2.2.1,((r6.1.1.1,(r6.1.1.2.1,r6.1.1.2.2)),a0.2.2.2.2.2))))),(0,(0,(r6.1.1.1,[])))),((),())) ((XcB a0 a1),((),()))) (Eq (((a0.1,(a0.2.1,(a0.2.2.1,(a0.2.2.2.1,((a0.2.2.2.2.1.1,(a0.2.2.2.2.1.2.1,a0.2.2.2.2.1.2.2)),a0.2.2.2.2.2))))),(0,(0,(a0.2.2.2.2.1.1,[])))),((),())) ((XcB a0 a1),((),()))))))))
def X50.L(a0:U1q)(a1:Xc5):Nat->Option X0e:=XLK [(1027674,⟨⟨[2,4,5],[7,8],[3,5,6],[kC 7 0 1000899 43,kA 3 3 13800393 43,kA 3 5 13800397 109,kA 3 6 13800399 9,kA 3 7 13800401 64,kA 5 3 13800649 43]⟩,T13q,λst y=>lmI a0 a1 y.1 y.2.1 y.2.2.1 y.2.2.2.1 y.2.2.2.2.1 y.2.2.2.2.2.1 y.2.2.2.2.2.2.1 y.2.2.2.2.2.2.2.1 y.2.2.2.2.2.2.2.2.1 y.2.2.2.2.2.2.2.2.2.1 y.2.2.2.2.2.2.2.2.2.2.1 y.2.2.2.2.2.2.2.2.2.2.2.1 y.2.2.2.2.2.2.2.2.2.2.2.2.1 y.2.2.2.2.2.2.2.2.2.2.2.2.2.1 y.2.2.2.2.2.2.2.2.2.2.2.2.2.2.1 y.2.2.2.2.2.2.2.2.2.2.2.2.2.2.2.1 y.2.2.2.2.2.2.2.2.2.2.2.2.2.2.2.2.1 y.2.2.2.2.2.2.2.2.2.2.2.2.2.2.2.2.2.1 y.2.2.2.2.2.2.2.2.2.2.2.2.2.2.2.2.2.2.1 y.2.2.2.2.2.2.2.2.2.2.2.2.2.2.2.2.2.2.2.1 y.2.2.2.2.2.2.2.2.2.2.2.2.2.2.2.2.2.2.2.2.1 y.2.2.2.2.2.2.2.2.2.2.2.2.2.2.2.2.2.2.2.2.2,λst y=>lmM a0 a1 y.1 y.2.1 y.2.2.1 y.2.2.2.1 y.2.2.2.2.1 y.2.2.2.2.2.1 y.2.2.2.2.2.2.1 y.2.2.2.2.2.2.2.1 y.2.2.2.2.2.2.2.2.1 y.2.2.2.2.2.2.2.2.2.1 y.2.2.2.2.2.2.2.2.2.2.1 y.2.2.2.2.2.2.2.2.2.2.2.1 y.2.2.2.2.2.2.2.2.2.2.2.2.1 y.2.2.2.2.2.2.2.2.2.2.2.2.2.1 y.2.2.2.2.2.2.2.2.2.2.2.2.2.2.1 y.2.2.2.2.2.2.2.2.2.2.2.2.2.2.2.1 y.2.2.2.2.2.2.2.2.2.2.2.2.2.2.2.2.1 y.2.2.2.2.2.2.2.2.2.2.2.2.2.2.2.2.2.1 y.2.2.2.2.2.2.2.2.2.2.2.2.2.2.2.2.2.2.1 y.2.2.2.2.2.2.2.2.2.2.2.2.2.2.2.2.2.2.2.1 y.2.2.2.2.2.2.2.2.2.2.2.2.2.2.2.2.2.2.2.2.1 y.2.2.2.2.2.2.2.2.2.2.2.2.2.2.2.2.2.2.2.2.2⟩)]
theorem X50.p(a0:U1q)(a1:Xc5)(h:(pDoA a0 a1)):X50.F a0 a1:=
 X8a.p a0 a1 h.1 λho h4 hk2=>by
 simp only[Bs,B0,B1,Yaa,X01,YaA]
 obtain⟨⟨hS,hp,hk⟩,hna⟩:=h
 have hEe:=Xso hS hk2
 have ep:XbB a0.2.2.2.2.1 a1.2.1 (X0r a1.2.2.2.2).1=ptR a0 a1:=rfl
 obtain⟨hk4,hb4⟩:=Xpq ho h4
 have hcode:=Xpn hEe hk4 hb4.1 hb4.2
 have hcode:(ptR a0 a1).2=0\/(ptR a0 a1).2=2\/(ptR a0 a1).2=3:=hcode
 have eS:XcB a0 a1=fWr a0 a1:=by unfold XcB fSh;rw[Yah ho,Yae (by omega),Yah h4]
 rw[ep,eS]
 have hne:¬(ptR a0 a1).2=0:=λe=>hna ⟨hk2,ho,h4,e⟩
 refine⟨⟨⟨hEe,hp.1,hk⟩,hne⟩,λc2=>⟨λc3=>by omega,λc3=>⟨λc0=>by omega,λc0=>?_⟩⟩,λc2=>⟨λc3=>⟨λc0=>by omega,λc0=>?_⟩,λc3=>by omega⟩⟩
 . unfold fWr;rw[Yae c0,Yah c2]
 . unfold fWr;rw[Yae c0,Yae c2]
theorem X50.eq:EqS Xd9 Tryz.f22 [31,38] [X2Q.e,X64.e,X2t.e,X19.e,X4o.e,X0W.e,X1t.e,X2r.e,X3c.e,X2u.e,X2F.e] [] (λi x=>X50.L x.1 x.2) (λi x=>X50.F x.1 x.2):=by intro i x;kernel_rfl
theorem X50.ok:X0g Tryz.prog 22 Xd9:=X0S X50.eq func22 rfl (by kernel_rfl) λi x h _ _=>X50.p x.1 x.2 h
def Xdo:Con:={A:=(.pair T4q XjH),shA:=[.agg 8,.agg 5],ownA:=[(3,43),(5,109),(6,9),(7,64)],R:=(.pair T4q XkE),shR:=[(true,8),(true,4)],pre:=λ_ a=>(pDoB a.1 a.2),f:=some λ_ a=>((XcB a.1 a.2),((),()))}
def X6C.F(a0:U1q)(a1:Xc5):Prop:=X8a.F a0 a1 (True/\∀r5,(Eq r5 ((X0r a1.2.2.2.2),((),())))->((Xta (a0.2.2.2.2.1.1,(a0.2.2.2.2.1.2.1,a0.2.2.2.2.1.2.2)) a1.2.1 r5.1.1)/\∀r6,(Eq r6 ((XbB (a0.2.2.2.2.1.1,(a0.2.2.2.2.1.2.1,a0.2.2.2.2.1.2.2)) a1.2.1 r5.1.1),((),())))->(X00 (r6.1.2==(2:Int)) (X00 (r6.1.2==(3:Int)) (X00 (r6.1.2==(0:Int)) (Eq (((a0.1,(a0.2.1,(a0.2.2.1,(a0.2.2.2.1,((r6.1.1.1,(r6.1.1.2.1,r6.1.1.2.2)),a0.2.2.2.2.2))))),(3,(0,(r6.1.1.1,[])))),((),())) ((XcB a0 a1),((),()))) False) (X00 (r6.1.2==(0:Int)) (Eq (((a0.1,(a0.2.1,(a0.2.2.1,(a0.2.2.2.1,((r6.1.1.1,(r6.1.1.2.1,r6.1.1.2.2)),a0.2.2.2.2.2))))),(2,(0,(r6.1.1.1,[])))),((),())) ((XcB a0 a1),((),()))) False)) (X00 (r6.1.2==(3:Int)) (X00 (r6.1.2==(0:Int)) (Eq (((a0.1,(a0.2.1,(a0.2.2.1,(a0.2.2.2.1,((r6.1.1.1,(r6.1.1.2.1,r6.1.1.2.2)),a0.2.2.2.2.2))))),(3,(0,(r6.1.1.1,[])))),((),())) ((XcB a0 a1),((),()))) False) (X00 (r6.1.2==(0:Int)) (Eq (((a0.1,(a0.2.1,(a0.2.2.1,(a0.2.2.2.1,((r6.1.1.1,(r6.1.1.2.1,r6.1.1.2.2)),a0.2.2.2.2.2))))),(0,(0,(r6.1.1.1,[])))),((),())) ((XcB a0 a1),((),()))) False)))))
theorem X6C.p(a0:U1q)(a1:Xc5)(h:(pDoB a0 a1)):X6C.F a0 a1:=
 X8a.p a0 a1 h.1 λho h4 hk2=>by
 simp only[Bs,B0,B1,Yaa,X01,YaA]
 obtain⟨⟨hS,hp,hk⟩,hna⟩:=h
 have hEe:=Xso hS hk2
 have ep:XbB a0.2.2.2.2.1 a1.2.1 (X0r a1.2.2.2.2).1=ptR a0 a1:=rfl
 obtain⟨hk4,hb4⟩:=Xpq ho h4
 have hcode:=Xpn hEe hk4 hb4.1 hb4.2
 have hcode:(ptR a0 a1).2=0\/(ptR a0 a1).2=2\/(ptR a0 a1).2=3:=hcode
 have eS:XcB a0 a1=fWr a0 a1:=by unfold XcB fSh;rw[Yah ho,Yae (by omega),Yah h4]
 rw[ep,eS]
 have he:(ptR a0 a1).2=0:=hna.2.2.2
 have fl0:(ptR a0 a1).1.1=a0.2.2.2.2.1.1:=XsB hEe he
 refine⟨⟨hEe,hp.1,hk⟩,λc2=>by omega,λc2=>⟨λc3=>by omega,λc3=>⟨λc0=>?_,λc0=>absurd he c0⟩⟩⟩
 unfold fWr;rw[Yah c0,fl0];rfl
theorem X6C.eq:EqS Xdo Tryz.f22 [31,38] [X2Q.e,X64.e,X2t.e,X19.e,X51.e,X0W.e,X1t.e,X2r.e,X3c.e,X2u.e,X2F.e] [] (λi x=>X50.L x.1 x.2) (λi x=>X6C.F x.1 x.2):=by intro i x;kernel_rfl
theorem X6C.ok:X0g Tryz.prog 22 Xdo:=X0S X6C.eq func22 rfl (by kernel_rfl) λi x h _ _=>X6C.p x.1 x.2 h
def XfW:Con:={A:=(.pair T4q XjH),shA:=[.agg 8,.agg 5],ownA:=[(3,43),(5,109),(6,9),(7,64)],R:=(.pair T4q XkE),shR:=[(true,8),(true,4)],pre:=λ_ a=>(XuA a.1 a.2),f:=some λ_ a=>((XcB a.1 a.2),((),()))}
theorem Xfm.ok:X0g Tryz.prog 22 XfW:=λw M vs cs i x F FI b h1 h2 h3 h4 h5 h6 h7 hp=>by
 by_cases ha:acc x.1 x.2
 . exact Calls.mono (X6C.ok w M vs cs i x F FI b h1 h2 h3 h4 h5 h6 h7 ⟨hp,ha⟩) λe w h=>⟨h.ex⟩
 . exact Calls.mono (X50.ok w M vs cs i x F FI b h1 h2 h3 h4 h5 h6 h7 ⟨hp,ha⟩) λe w h=>⟨h.ex⟩
def Xfm.e:GE:=⟨22,XfW,⟨_,func22,rfl,rfl⟩,Xfm.ok⟩
def X9a:Con:=cQ (.pair T4q XjH) [.agg 8,.agg 5] (.pair T4q XkE) [(true,8),(true,4)] (λa=>(pDo a.1 a.2)) λa=>(fDo a.1 a.2)
def X3z.F(a0:U1q)(a1:Xc5):Prop:=((pSt (a0.1,(a0.2.1,(a0.2.2.1,(a0.2.2.2.1,((a0.2.2.2.2.1.1,(a0.2.2.2.2.1.2.1,a0.2.2.2.2.1.2.2)),a0.2.2.2.2.2))))))/\∀r1,(Eq r1 ((X2W (a0.1,(a0.2.1,(a0.2.2.1,(a0.2.2.2.1,((a0.2.2.2.2.1.1,(a0.2.2.2.2.1.2.1,a0.2.2.2.2.1.2.2)),a0.2.2.2.2.2)))))),((),())))->(X00 (!r1.1) (Eq (((0,(0,(0,(([]:U9q),((0,(([]:(List U3q)),([]:(List U6q)))),([]:(List U7q))))))),(1,(0,(0,[])))),((),())) ((fDo a0 a1),((),()))) ((XdM (a0.1,(a0.2.1,(a0.2.2.1,(a0.2.2.2.1,((a0.2.2.2.2.1.1,(a0.2.2.2.2.1.2.1,a0.2.2.2.2.1.2.2)),a0.2.2.2.2.2))))))/\∀r2,(Eq r2 ((Xhl (a0.1,(a0.2.1,(a0.2.2.1,(a0.2.2.2.1,((a0.2.2.2.2.1.1,(a0.2.2.2.2.1.2.1,a0.2.2.2.2.1.2.2)),a0.2.2.2.2.2)))))),((),())))->((XuA (r2.1.1,(r2.1.2.1,(r2.1.2.2.1,(r2.1.2.2.2.1,((r2.1.2.2.2.2.1.1,(r2.1.2.2.2.2.1.2.1,r2.1.2.2.2.2.1.2.2)),r2.1.2.2.2.2.2))))) (a1.1,(a1.2.1,(a1.2.2.1,(a1.2.2.2.1,a1.2.2.2.2)))))/\∀r3,(Eq r3 ((XcB (r2.1.1,(r2.1.2.1,(r2.1.2.2.1,(r2.1.2.2.2.1,((r2.1.2.2.2.2.1.1,(r2.1.2.2.2.2.1.2.1,r2.1.2.2.2.2.1.2.2)),r2.1.2.2.2.2.2))))) (a1.1,(a1.2.1,(a1.2.2.1,(a1.2.2.2.1,a1.2.2.2.2))))),((),())))->(Eq (((r3.1.1.1,(r3.1.1.2.1,(r3.1.1.2.2.1,(r3.1.1.2.2.2.1,((r3.1.1.2.2.2.2.1.1,(r3.1.1.2.2.2.2.1.2.1,r3.1.1.2.2.2.2.1.2.2)),r3.1.1.2.2.2.2.2))))),(r3.1.2.1,(r3.1.2.2.1,(r3.1.2.2.2.1,r3.1.2.2.2.2)))),((),())) ((fDo a0 a1),((),())))))))
theorem X3z.p(a0:U1q)(a1:Xc5)(h:(pDo a0 a1)):X3z.F a0 a1:=by
 unfold X3z.F
 simp only[Bs,B0,B1,Yaa,X01,YaA,Xhl]
 unfold fDo
 refine⟨h.1,λc=>?_,λc=>⟨XnS c,⟨c,h.1,h.2⟩,?_⟩⟩
 . rw[Yae (by rw[c];decide)]
 . rw[Yah c]
def X3z.e:GE:=mE X9a func9 [31,38] [X3f.e,Xfm.e,X4C.e] [] noL (λi x=>X3z.F x.1 x.2) λi x h _ _=>X3z.p x.1 x.2 h
def Xwz(x:Xc5):Nat:=(x.2.1.length)+(x.2.2.2.2.length)
def Xse(x:Xc5)(left:Int):Prop:=WfD XjH x/\0<=left/\left<=1048576
def Xi4(x:Xc5)(left:Int):Int:=fSz (Xwz x) left
def Xdn:Con:=cQ (.pair XjH (.int .i64)) [.agg 5,.one] (.int .i64) [(false,1)] (λa=>(Xse a.1 a.2)) λa=>(Xi4 a.1 a.2)
def X6S.F(a0:Xc5)(a1:Int):Prop:=(X00 (decide ((wI (a1 - (ln a0.2.1)))<(0:Int))) (Eq ((-1),((),())) ((Xi4 a0 a1),((),()))) (X00 (decide ((wI ((wI (a1 - (ln a0.2.1))) - (ln a0.2.2.2.2)))<(0:Int))) (Eq ((-1),((),())) ((Xi4 a0 a1),((),()))) (Eq ((wI ((wI (a1 - (ln a0.2.1))) - (ln a0.2.2.2.2))),((),())) ((Xi4 a0 a1),((),())))))
theorem X6S.p(a0:Xc5)(a1:Int)(h:(Xse a0 a1))(hw:Wf Xdn.A (a0,a1)):X6S.F a0 a1:=by
 delta X6S.F ln wI
 obtain⟨hwf,p1,p2⟩:=h
 have w1:a0.2.1.length<=9223372036854775807:=hwf.2.1
 have w4:a0.2.2.2.2.length<=9223372036854775807:=hwf.2.2.2.2
 simp only[Bs,B0,B1,Yaa,X01,Xwz,Xi4]
 repeat' (with_reducible (first | (refine And.intro ?_ ?_) | intro _))
 all_goals (try simp (disch:=omega) only[w64,wu8,tn0,tn1,tm1,tm2,Yab,Yad,Yai]at*)
 all_goals (try simp (disch:=omega) only[w64,wu8,tn0,tn1,tm1,tm2,Yab,Yad,Yai]at*)
 all_goals (try omega)
 all_goals (try grind[fSz])
def X6S.e:GE:=mE Xdn func13 [3] [] [] noL (λi x=>X6S.F x.1 x.2) λi x h _ hw=>X6S.p x.1 x.2 h hw
def Xhv(x:Xc5):Prop:=Xwz x<=1048576
def Xjx(x:Xc5):Xc5:=x
def XdG:Con:=cQ XjH [.agg 5] XjH [(true,5)] (λa=>(Xhv a)) λa=>(Xjx a)
def X6P.F(a0:Xc5):Prop:=(Eq ((a0.1,(a0.2.1,(a0.2.2.1,(a0.2.2.2.1,a0.2.2.2.2)))),((),())) ((Xjx a0),((),())))
theorem X6P.p(a0:Xc5)(h:(Xhv a0))(hw:Wf XdG.A a0):X6P.F a0:=by
 unfold X6P.F
 have hp:Xwz a0<=1048576:=h
 simp only[Xwz]at hp
 simp only[Bs,B0,B1,Yaa,X01,Xwz,Xjx,Xhv]
 repeat' (with_reducible (first | (refine And.intro ?_ ?_) | intro _))
 all_goals (try simp (disch:=omega) only[w64,wu8,tn0,tn1,tm1,tm2,Yab,Yad,Yai]at*)
 all_goals (try simp (disch:=omega) only[w64,wu8,tn0,tn1,tm1,tm2,Yab,Yad,Yai]at*)
 all_goals (try omega)
 all_goals (try grind[])
def X6P.e:GE:=mE XdG func15 [36] [] [] noL (λi x=>X6P.F x) λi x h _ hw=>X6P.p x h hw
theorem Xut:∀l:List Bkt,cL X0B l=2*l.length
 | []=>by simp[cL]
 | x::l=>by rw[X4y,Xut l,show X0B x=2 from rfl,Yad];omega
theorem XuM:∀l:List XfC,cL X0E l=6*l.length
 | []=>by simp[cL]
 | x::l=>by rw[X4y,XuM l,show X0E x=6 from rfl,Yad];omega
theorem c_of(s:Stt):0<=X5g s/\X5g s<=2*s.2.2.2.1.length+2*tot s.2.2.2.2.1.2.1+s.2.2.2.2.1.2.2.length+6*s.2.2.2.2.2.length:=by
 have h1:=Xut s.2.2.2.1
 have h2:=Xr8 s.2.2.2.2.1.2.1
 have h3:=XuI s.2.2.2.2.1.2.2
 have h4:=XuM s.2.2.2.2.2
 simp only[X5g]
 omega
theorem n_c{s:Stt}(h:Xcx s<=1048576):X5g s<=100000000:=by
 have h1:=c_of s
 unfold Xcx at h
 have h2:=XuF s.2.2.2.2.1.2.1
 have h3:X7G s.2.2.2.2.1=nL X35 s.2.2.2.2.1.2.1+nL List.length s.2.2.2.2.1.2.2:=rfl
 have h4:=Xor List.length s.2.2.2.2.1.2.2
 have h5:=Xor X2U s.2.2.2.2.2
 omega
theorem XrF(s:Stt)(o:Opp)(h:s.2.2.2.1.length<=1000):(X9B s o).1.2.2.2.1.length<=1000/\(X9B s o).1.2.2.2.2=s.2.2.2.2:=by
 unfold X9B
 split
 . exact⟨h,rfl⟩
 . split
   . exact⟨h,rfl⟩
   . exact⟨by simp only;omega,rfl⟩
theorem Xu7(s:Stt)(o:Opp)(h:s.2.2.2.1.length<=1000):(XfA s o).1.2.2.2.1.length<=1000/\(XfA s o).1.2.2.2.2=s.2.2.2.2:=by
 unfold XfA
 split
 . exact XrF s o h
 . split
   . split
     . exact⟨Ya5 (Ycr _ _) h,rfl⟩
     . exact⟨h,rfl⟩
   . exact⟨h,rfl⟩
theorem Xiy{s:Stt}{e:Eng}(h:XdM s)(he:tot e.2.1<=2000000/\e.2.2.length<=2000000):XdM (setE s e):=⟨h.1,⟨by show tot e.2.1<=_;omega,by show e.2.2.length<=_;omega⟩,h.2.2⟩
theorem Xt1{s:Stt}{o:Opp}(h:pDo s o):XdM (fDo s o).1:=by
 unfold fDo
 split
 . rename_i hS
   have hc:=XnS hS
   unfold XcB
   split
   . split
     . unfold fMt
       split
       . obtain⟨m1,m2⟩:=Xu7 s o hc.1
         unfold XdM
         rw[m2];exact⟨m1,hc.2⟩
       . exact hc
     . unfold fSh
       split
       . unfold fWr
         split
         . exact Xiy hc (Xw2 h.1.1)
         . split<;>exact hc
       . split
         . exact hc
         . split
           . exact Xiy hc (Xru _ _)
           . split
             . exact Xiy hc (Xsk h.1.1)
             . exact hc
   . exact hc
 . exact⟨by simp,⟨by simp[tot,cL],by simp⟩,by simp⟩
def X24.F(a0:U1q)(a1:Xc5):Prop:=((XiT (a0.1,(a0.2.1,(a0.2.2.1,(a0.2.2.2.1,((a0.2.2.2.2.1.1,(a0.2.2.2.2.1.2.1,a0.2.2.2.2.1.2.2)),a0.2.2.2.2.2))))) 1048576)/\∀r1,(Eq r1 ((XaD (a0.1,(a0.2.1,(a0.2.2.1,(a0.2.2.2.1,((a0.2.2.2.2.1.1,(a0.2.2.2.2.1.2.1,a0.2.2.2.2.1.2.2)),a0.2.2.2.2.2))))) 1048576),((),())))->(X00 (decide (r1.1<(0:Int))) (Eq (true,((),())) (true,((),()))) ((Xse (a1.1,(a1.2.1,(a1.2.2.1,(a1.2.2.2.1,a1.2.2.2.2)))) r1.1)/\∀r2,(Eq r2 ((Xi4 (a1.1,(a1.2.1,(a1.2.2.1,(a1.2.2.2.1,a1.2.2.2.2)))) r1.1),((),())))->(X00 (decide (r2.1<(0:Int))) (Eq (true,((),())) (true,((),()))) ((Xax (a0.1,(a0.2.1,(a0.2.2.1,(a0.2.2.2.1,((a0.2.2.2.2.1.1,(a0.2.2.2.2.1.2.1,a0.2.2.2.2.1.2.2)),a0.2.2.2.2.2))))))/\∀r3,(Eq r3 ((XaB (a0.1,(a0.2.1,(a0.2.2.1,(a0.2.2.2.1,((a0.2.2.2.2.1.1,(a0.2.2.2.2.1.2.1,a0.2.2.2.2.1.2.2)),a0.2.2.2.2.2)))))),((),())))->((Xhv (a1.1,(a1.2.1,(a1.2.2.1,(a1.2.2.2.1,a1.2.2.2.2)))))/\∀r4,(Eq r4 ((Xjx (a1.1,(a1.2.1,(a1.2.2.1,(a1.2.2.2.1,a1.2.2.2.2))))),((),())))->((pDo (r3.1.1,(r3.1.2.1,(r3.1.2.2.1,(r3.1.2.2.2.1,((r3.1.2.2.2.2.1.1,(r3.1.2.2.2.2.1.2.1,r3.1.2.2.2.2.1.2.2)),r3.1.2.2.2.2.2))))) (r4.1.1,(r4.1.2.1,(r4.1.2.2.1,(r4.1.2.2.2.1,r4.1.2.2.2.2)))))/\∀r5,(Eq r5 ((fDo (r3.1.1,(r3.1.2.1,(r3.1.2.2.1,(r3.1.2.2.2.1,((r3.1.2.2.2.2.1.1,(r3.1.2.2.2.2.1.2.1,r3.1.2.2.2.2.1.2.2)),r3.1.2.2.2.2.2))))) (r4.1.1,(r4.1.2.1,(r4.1.2.2.1,(r4.1.2.2.2.1,r4.1.2.2.2.2))))),((),())))->((Xax (a0.1,(a0.2.1,(a0.2.2.1,(a0.2.2.2.1,((a0.2.2.2.2.1.1,(a0.2.2.2.2.1.2.1,a0.2.2.2.2.1.2.2)),a0.2.2.2.2.2))))))/\∀r6,(Eq r6 ((XaB (a0.1,(a0.2.1,(a0.2.2.1,(a0.2.2.2.1,((a0.2.2.2.2.1.1,(a0.2.2.2.2.1.2.1,a0.2.2.2.2.1.2.2)),a0.2.2.2.2.2)))))),((),())))->((Xhv (a1.1,(a1.2.1,(a1.2.2.1,(a1.2.2.2.1,a1.2.2.2.2)))))/\∀r7,(Eq r7 ((Xjx (a1.1,(a1.2.1,(a1.2.2.1,(a1.2.2.2.1,a1.2.2.2.2))))),((),())))->((pDo (r6.1.1,(r6.1.2.1,(r6.1.2.2.1,(r6.1.2.2.2.1,((r6.1.2.2.2.2.1.1,(r6.1.2.2.2.2.1.2.1,r6.1.2.2.2.2.1.2.2)),r6.1.2.2.2.2.2))))) (r7.1.1,(r7.1.2.1,(r7.1.2.2.1,(r7.1.2.2.2.1,r7.1.2.2.2.2)))))/\∀r8,(Eq r8 ((fDo (r6.1.1,(r6.1.2.1,(r6.1.2.2.1,(r6.1.2.2.2.1,((r6.1.2.2.2.2.1.1,(r6.1.2.2.2.2.1.2.1,r6.1.2.2.2.2.1.2.2)),r6.1.2.2.2.2.2))))) (r7.1.1,(r7.1.2.1,(r7.1.2.2.1,(r7.1.2.2.2.1,r7.1.2.2.2.2))))),((),())))->(True/\∀r9,(Eq r9 ((X56 (r8.1.1.1,(r8.1.1.2.1,(r8.1.1.2.2.1,(r8.1.1.2.2.2.1,((r8.1.1.2.2.2.2.1.1,(r8.1.1.2.2.2.2.1.2.1,r8.1.1.2.2.2.2.1.2.2)),r8.1.1.2.2.2.2.2))))) (r5.1.1.1,(r5.1.1.2.1,(r5.1.1.2.2.1,(r5.1.1.2.2.2.1,((r5.1.1.2.2.2.2.1.1,(r5.1.1.2.2.2.2.1.2.1,r5.1.1.2.2.2.2.1.2.2)),r5.1.1.2.2.2.2.2)))))),((),())))->(X00 (!r9.1) (Eq (false,((),())) (true,((),()))) (True/\∀r10,(Eq r10 ((X4J (r8.1.2.1,(r8.1.2.2.1,(r8.1.2.2.2.1,r8.1.2.2.2.2))) (r5.1.2.1,(r5.1.2.2.1,(r5.1.2.2.2.1,r5.1.2.2.2.2)))),((),())))->(X00 (!r10.1) (Eq (false,((),())) (true,((),()))) ((Xax (a0.1,(a0.2.1,(a0.2.2.1,(a0.2.2.2.1,((a0.2.2.2.2.1.1,(a0.2.2.2.2.1.2.1,a0.2.2.2.2.1.2.2)),a0.2.2.2.2.2))))))/\∀r11,(Eq r11 ((XaB (a0.1,(a0.2.1,(a0.2.2.1,(a0.2.2.2.1,((a0.2.2.2.2.1.1,(a0.2.2.2.2.1.2.1,a0.2.2.2.2.1.2.2)),a0.2.2.2.2.2)))))),((),())))->(True/\∀r12,(Eq r12 ((X56 (r6.1.1,(r6.1.2.1,(r6.1.2.2.1,(r6.1.2.2.2.1,((r6.1.2.2.2.2.1.1,(r6.1.2.2.2.2.1.2.1,r6.1.2.2.2.2.1.2.2)),r6.1.2.2.2.2.2))))) (r11.1.1,(r11.1.2.1,(r11.1.2.2.1,(r11.1.2.2.2.1,((r11.1.2.2.2.2.1.1,(r11.1.2.2.2.2.1.2.1,r11.1.2.2.2.2.1.2.2)),r11.1.2.2.2.2.2)))))),((),())))->(X00 (!r12.1) (Eq (false,((),())) (true,((),()))) ((X6E (r6.1.1,(r6.1.2.1,(r6.1.2.2.1,(r6.1.2.2.2.1,((r6.1.2.2.2.2.1.1,(r6.1.2.2.2.2.1.2.1,r6.1.2.2.2.2.1.2.2)),r6.1.2.2.2.2.2))))) 1)/\∀r13,(Eq r13 ((X7r (r6.1.1,(r6.1.2.1,(r6.1.2.2.1,(r6.1.2.2.2.1,((r6.1.2.2.2.2.1.1,(r6.1.2.2.2.2.1.2.1,r6.1.2.2.2.2.1.2.2)),r6.1.2.2.2.2.2))))) 1).1,((),(X7r (r6.1.1,(r6.1.2.1,(r6.1.2.2.1,(r6.1.2.2.2.1,((r6.1.2.2.2.2.1.1,(r6.1.2.2.2.2.1.2.1,r6.1.2.2.2.2.1.2.2)),r6.1.2.2.2.2.2))))) 1).2)))->(X00 (decide (r13.1<(0:Int))) (Eq (false,((),())) (true,((),()))) (True/\∀r14,(Eq r14 ((X56 (r8.1.1.1,(r8.1.1.2.1,(r8.1.1.2.2.1,(r8.1.1.2.2.2.1,((r8.1.1.2.2.2.2.1.1,(r8.1.1.2.2.2.2.1.2.1,r8.1.1.2.2.2.2.1.2.2)),r8.1.1.2.2.2.2.2))))) (r5.1.1.1,(r5.1.1.2.1,(r5.1.1.2.2.1,(r5.1.1.2.2.2.1,((r5.1.1.2.2.2.2.1.1,(r5.1.1.2.2.2.2.1.2.1,r5.1.1.2.2.2.2.1.2.2)),r5.1.1.2.2.2.2.2)))))),((),())))->(X00 (!r14.1) (Eq (false,((),())) (true,((),()))) (True/\∀r15,(Eq r15 ((X4J (r8.1.2.1,(r8.1.2.2.1,(r8.1.2.2.2.1,r8.1.2.2.2.2))) (r5.1.2.1,(r5.1.2.2.1,(r5.1.2.2.2.1,r5.1.2.2.2.2)))),((),())))->(X00 (!r15.1) (Eq (false,((),())) (true,((),()))) ((X6E (r8.1.1.1,(r8.1.1.2.1,(r8.1.1.2.2.1,(r8.1.1.2.2.2.1,((r8.1.1.2.2.2.2.1.1,(r8.1.1.2.2.2.2.1.2.1,r8.1.1.2.2.2.2.1.2.2)),r8.1.1.2.2.2.2.2))))) 1)/\∀r16,(Eq r16 ((X7r (r8.1.1.1,(r8.1.1.2.1,(r8.1.1.2.2.1,(r8.1.1.2.2.2.1,((r8.1.1.2.2.2.2.1.1,(r8.1.1.2.2.2.2.1.2.1,r8.1.1.2.2.2.2.1.2.2)),r8.1.1.2.2.2.2.2))))) 1).1,((),(X7r (r8.1.1.1,(r8.1.1.2.1,(r8.1.1.2.2.1,(r8.1.1.2.2.2.1,((r8.1.1.2.2.2.2.1.1,(r8.1.1.2.2.2.2.1.2.1,r8.1.1.2.2.2.2.1.2.2)),r8.1.1.2.2.2.2.2))))) 1).2)))->((X6E (r8.1.1.1,(r8.1.1.2.1,(r8.1.1.2.2.1,(r16.2.2.1,((r8.1.1.2.2.2.2.1.1,(r16.2.2.2.1,r16.2.2.2.2.1)),r16.2.2.2.2.2))))) 1)/\∀r17,(Eq r17 ((X7t (r8.1.1.1,(r8.1.1.2.1,(r8.1.1.2.2.1,(r16.2.2.1,((r8.1.1.2.2.2.2.1.1,(r16.2.2.2.1,r16.2.2.2.2.1)),r16.2.2.2.2.2))))) 1),((),())))->(X00 (decide (r17.1<(0:Int))) (Eq (false,((),())) (true,((),()))) (X00 (r17.1 !=r16.1) (Eq (false,((),())) (true,((),()))) ((Xax (a0.1,(a0.2.1,(a0.2.2.1,(a0.2.2.2.1,((a0.2.2.2.2.1.1,(a0.2.2.2.2.1.2.1,a0.2.2.2.2.1.2.2)),a0.2.2.2.2.2))))))/\∀r18,(Eq r18 ((XaB (a0.1,(a0.2.1,(a0.2.2.1,(a0.2.2.2.1,((a0.2.2.2.2.1.1,(a0.2.2.2.2.1.2.1,a0.2.2.2.2.1.2.2)),a0.2.2.2.2.2)))))),((),())))->((Xhv (a1.1,(a1.2.1,(a1.2.2.1,(a1.2.2.2.1,a1.2.2.2.2)))))/\∀r19,(Eq r19 ((Xjx (a1.1,(a1.2.1,(a1.2.2.1,(a1.2.2.2.1,a1.2.2.2.2))))),((),())))->((pDo (r18.1.1,(r18.1.2.1,(r18.1.2.2.1,(r18.1.2.2.2.1,((r18.1.2.2.2.2.1.1,(r18.1.2.2.2.2.1.2.1,r18.1.2.2.2.2.1.2.2)),r18.1.2.2.2.2.2))))) (r19.1.1,(r19.1.2.1,(r19.1.2.2.1,(r19.1.2.2.2.1,r19.1.2.2.2.2)))))/\∀r20,(Eq r20 ((fDo (r18.1.1,(r18.1.2.1,(r18.1.2.2.1,(r18.1.2.2.2.1,((r18.1.2.2.2.2.1.1,(r18.1.2.2.2.2.1.2.1,r18.1.2.2.2.2.1.2.2)),r18.1.2.2.2.2.2))))) (r19.1.1,(r19.1.2.1,(r19.1.2.2.1,(r19.1.2.2.2.1,r19.1.2.2.2.2))))),((),())))->(True/\∀r21,(Eq r21 ((X56 (r20.1.1.1,(r20.1.1.2.1,(r20.1.1.2.2.1,(r20.1.1.2.2.2.1,((r20.1.1.2.2.2.2.1.1,(r20.1.1.2.2.2.2.1.2.1,r20.1.1.2.2.2.2.1.2.2)),r20.1.1.2.2.2.2.2))))) (r5.1.1.1,(r5.1.1.2.1,(r5.1.1.2.2.1,(r5.1.1.2.2.2.1,((r5.1.1.2.2.2.2.1.1,(r5.1.1.2.2.2.2.1.2.1,r5.1.1.2.2.2.2.1.2.2)),r5.1.1.2.2.2.2.2)))))),((),())))->(X00 (!r21.1) (Eq (false,((),())) (true,((),()))) (True/\∀r22,(Eq r22 ((X4J (r20.1.2.1,(r20.1.2.2.1,(r20.1.2.2.2.1,r20.1.2.2.2.2))) (r5.1.2.1,(r5.1.2.2.1,(r5.1.2.2.2.1,r5.1.2.2.2.2)))),((),())))->(X00 (!r22.1) (Eq (false,((),())) (true,((),()))) ((X6E (r8.1.1.1,(r8.1.1.2.1,(r8.1.1.2.2.1,(r16.2.2.1,((r8.1.1.2.2.2.2.1.1,(r16.2.2.2.1,r16.2.2.2.2.1)),r16.2.2.2.2.2))))) 1)/\∀r23,(Eq r23 ((X7t (r8.1.1.1,(r8.1.1.2.1,(r8.1.1.2.2.1,(r16.2.2.1,((r8.1.1.2.2.2.2.1.1,(r16.2.2.2.1,r16.2.2.2.2.1)),r16.2.2.2.2.2))))) 1),((),())))->(X00 (decide (r23.1<(0:Int))) (Eq (false,((),())) (true,((),()))) (X00 (r23.1 !=r16.1) (Eq (false,((),())) (true,((),()))) (Eq (true,((),())) (true,((),()))))))))))))))))))))))))))))))))))))))))
theorem X24.p(a0:U1q)(a1:Xc5)(h:WfD (.pair T4q XjH) (a0,a1))(hw:Wf (Xpu (.pair T4q XjH) [.agg 8,.agg 5]).A (a0,a1)):X24.F a0 a1:=by
 unfold X24.F
 simp only[Bs,B0,B1,Yaa,X01,XaD,XaB,Xi4,Xjx,YaA]
 refine⟨⟨h.1,by omega,by omega⟩,λ_=>trivial,λh1=>?_⟩
 have hn:=Xs8 h1
 have hps:=XwS h.1 hn
 simp only[Xvp h1]at*
 refine⟨⟨h.2,by omega,by omega⟩,λ_=>trivial,λh2=>?_⟩
 have hn2:=Xvk h2
 have hp:Xax a0:=hn
 have hp2:Xhv a1:=by unfold Xhv;omega
 have hq:pDo a0 a1:=⟨hps,h.2.2.1⟩
 have hc:=n_c hn
 have hc0:=c_of a0
 have hc1:=c_of (fDo a0 a1).1
 obtain⟨d1,⟨d2,d3⟩,d4⟩:=Xt1 hq
 have hm0:X6E a0 1:=⟨by omega,by omega⟩
 have hk1:¬(1+X5g a0<0):=by omega
 obtain⟨o1,o2⟩:=XrB (fDo a0 a1).1 1
 have hm2:X6E (fDo a0 a1).1 1:=⟨by omega,by omega⟩
 have hm3:X6E (XeM (fDo a0 a1).1 1) 1:=⟨by omega,by rw[o2];omega⟩
 have hh:X7t (XeM (fDo a0 a1).1 1) 1=1+X5g (fDo a0 a1).1:=by unfold X7t;rw[X4U o1,o2]
 have hk2:¬(1+X5g (fDo a0 a1).1<0):=by omega
 have he:∀x:Stt,X56 x x=true:=λx=>by simp[X56]
 have he2:∀x:Ans,X4J x x=true:=λx=>by simp[X4J]
 simp only[X7r,XlT]
 simp only[XeM]at hm3 hh
 simp[hp,hp2,hq,hm0,hm2,hm3,hh,hk1,hk2,he,he2]
set_option maxRecDepth 100000 in
theorem X24.eq:EqS (Xpu (.pair T4q XjH) [.agg 8,.agg 5]) Tryz.f4 [4] [X3x.e,X3z.e,X4v.e,X6S.e,X4A.e,X6P.e,X4z.e,X36.e,X2X.e,X31.e] [] noL (λi x=>X24.F x.1 x.2):=by intro i x;kernel_rfl
theorem X24.ok:X0g Tryz.prog 4 (Xpu (.pair T4q XjH) [.agg 8,.agg 5]):=X0S X24.eq func4 rfl (by kernel_rfl) λi x h _ hw=>X24.p x.1 x.2 h hw
end Go.Proofs.YtgmafgmjbaoomaaGreat.B
