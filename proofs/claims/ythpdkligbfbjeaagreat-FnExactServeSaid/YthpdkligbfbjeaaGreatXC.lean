/- Part 3 of the walk: contracts of functions, their formulas and proofs. -/
import Derived.Test.YthpdkligbfbjeaaGreatXB
set_option maxRecDepth 100000
set_option linter.unusedVariables false
set_option linter.unusedSimpArgs false
namespace Go.Proofs.YthpdkligbfbjeaaGreat.B
open Go Go.Proofs.YthpdkligbfbjeaaGreat.Bv Go.Proofs.Tryz
def ixF:List Ser->Nat->List UInt8
 | [],_=>[]
 | x::r,n=>X7L x n++ixF r (n+(X04 x.2).length)
def txF(l:List Ser):List UInt8:=l.flatMap λx=>X04 x.2
theorem XtE:∀(l:List Ser) (t x:List UInt8),l.foldl XrX (t,x)=(t++txF l,x++ixF l t.length)
 | [],t,x=>by simp[txF,ixF]
 | s::l,t,x=>by
   rw[Ybr,XrX,XtE l];simp only[txF,ixF,YcR,Yam,Yab]
theorem Xfy(a b:List Ser):txF (a++b)=txF a++txF b:=by simp[txF]
theorem Xpr(x:Ser)(b:List Ser):txF (x::b)=X04 x.2++txF b:=by simp[txF]
theorem Xfi:∀l:List Ser,(txF l).length<=2014*l.length
 | []=>by simp[txF]
 | x::l=>by
   have h1:=Xfi l;have h2:=X7J x.2;rw[Xpr,Yab,Yad];omega
def tF(l:List Ser):List UInt8:=[116,115,98,49]++txF l
theorem XeJ(l:List Ser):(tF l).length=4+(txF l).length:=by simp[tF];omega
def RF(s:List UInt8)(l:List Ser):Prop:=(X0Q l=true/\l≠[])/\X0y l=s
instance (s:List UInt8) (l:List Ser):Decidable (RF s l):=by unfold RF;infer_instance
theorem Xq7{n:Nat}(h:n<4294967296):X18 n 4=X3A (fx 4 n):=by
 unfold X18;rw[Yah ⟨by decide,by omega,by rw[show(4:Int).toNat=4 from rfl];omega⟩];rfl
structure Lay (s:List UInt8) (l:List Ser):Prop where
 len:s.length=(tF l).length+(ixF l 4).length+8
 five:l.length<=5
 at4:X0E (s.drop ((tF l).length+(ixF l 4).length)) 4=(((tF l).length:Int),true)
 ix:(s.take ((tF l).length+(ixF l 4).length)).drop (tF l).length=ixF l 4
 tx:s.take (tF l).length=tF l
theorem RF.lay{s:List UInt8}{l:List Ser}(h:RF s l):Lay s l:=by
 obtain⟨h0,rfl⟩:=h;have h5:=(XjU h0.1).1;have ht:=Xfi l;have hl:=XeJ l;have e:Xxe l=(tF l,ixF l 4):=by
  have:=XtE l [116,115,98,49] [];rw[YaV]at this;exact this
 have e2:X0y l=(tF l++ixF l 4)++(X18 (tF l).length 4++X18 (XjL (XmD (Xxe l))) 4):=by
  unfold X0y;rw[Yah h0]
  conv=>lhs;rw[e]
  rw[e];simp only[XmD,Yam]
 have l1:(X18 (tF l).length 4).length=4:=by rw[Xq7 (by omega),Xd1,Xdj]
 have l2:=XjE (XmD (Xxe l));have hlen:(X0y l).length=(tF l).length+(ixF l 4).length+8:=by
  rw[e2];simp only[Yab,l1,l2]
 have e3:(tF l).length+(ixF l 4).length=(tF l++ixF l 4).length:=by rw[Yab]
 refine⟨hlen,h5,?_,?_,?_⟩
 . rw[e2,e3,Ya4];unfold X0E;rw[Yah ⟨by decide,by rw[Yab,l1,l2];decide⟩,show(4:Int).toNat=(X18 (tF l).length 4).length from l1.symm,Ybl,Xq7 (by omega),Xxk 4 _ (by omega)]
 . rw[e2,e3,Ybl,Ya4]
 . rw[e2,Yam,Ybl]
theorem Xk4{v:Int}(h:X6r v)(q:List UInt8):X6T (X28 v++q,true)=(v,(q,true)):=by
 have hp:=XbG h;have e:=Xqi h q;rw[Xwu (i:=(X28 v++q,true)) rfl (by rw[e];simp only;omega)];simp only;rw[e];simp only[YaG,Ya4]
theorem Xs4{k:List UInt8}(h:k.length<=1000)(q:List UInt8):X5A (X28 k.length++(k++q),true)=(k,(q,true)):=by
 unfold X5A;rw[Xk4 (by unfold X6r;omega)];unfold Xbl;rw[Yah ⟨rfl,by simp only[Yab];omega⟩];simp only[YaG,Ybl,Ya4]
structure At (s:List UInt8) (x:Ser) (p:Nat) (bl:Nat):Prop where
 key:1<=x.1.length/\x.1.length<=8
 eb:bl=(X04 x.2).length
 blk:(s.take (p+bl)).drop p=X04 x.2
 fit:p+bl+8<=s.length
 small:p+bl<=12000
 read:X0s (X04 x.2)=(x.2,true)
 t0:X6r (x.2.getD 0 (0,0)).1
 t1:X6r (x.2.getD (x.2.length - 1) (0,0)).1
theorem XqF{l:List Pt}(h:X0N l=true/\l≠[]):X0s (X04 l)=(l,true):=(Xjz ⟨h,by unfold X04;rw[Yah h];rfl⟩).symm
theorem XyK{l:List Pt}(h:X0N l=true){i:Nat}(hi:i<l.length):0<=(l.getD i (0,0)).1/\(l.getD i (0,0)).1<=1099511627776:=by
 have:=(Xqk.1 ((XkN.1 h).2 i hi)).1;have:=XbN.1 this;rw[XnU]at this;exact this.1
theorem RF.at{s:List UInt8}{a b:List Ser}{x:Ser}(h:RF s (a++x::b)):At s x (4+(txF a).length) (X04 x.2).length:=by
 have L:=h.lay;have hs:=(XjU h.1.1).2 a.length (by simp);have ex:(a++x::b).getD a.length ([],[])=x:=by simp[Yar]
 rw[ex]at hs;obtain⟨q1,q2,q3,q4⟩:=hs;have q5:0<x.2.length:=by omega
 have q3:x.2≠[]:=Ybj.1 q5;have htl:=XeJ (a++x::b);have e1:tF (a++x::b)=([116,115,98,49]++txF a)++(X04 x.2++txF b):=by
  simp only[tF,Xfy,Xpr,Yam]
 have e2:4+(txF a).length=([116,115,98,49]++txF a).length:=by simp;omega
 have e3:(tF (a++x::b)).length=4+(txF a).length+(X04 x.2).length+(txF b).length:=by
  rw[e1];simp only[Yab,Yad,Yai];omega
 have e4:s.take (4+(txF a).length+(X04 x.2).length)=([116,115,98,49]++txF a)++X04 x.2:=by
  have:s.take (4+(txF a).length+(X04 x.2).length)=(s.take (tF (a++x::b)).length).take (4+(txF a).length+(X04 x.2).length):=by
   rw[YbL];congr 1;omega
  rw[this,L.tx,e1,<-Yam,e2,<-Yab,Ybl]
 have p0:=XyK q4 (i:=0) (by omega);have p1:=XyK q4 (i:=x.2.length - 1) (by omega);have h5:=L.five;have tb:=Xfi (a++x::b);have el:=L.len;refine⟨⟨q2,q1⟩,rfl,?_,by omega,by omega,XqF ⟨q4,q3⟩,by unfold X6r;omega,by unfold X6r;omega⟩;rw[e4,e2,Ya4]
theorem Xiv(x:Ser)(p:Nat)(r:List UInt8):X7L x p++r=X28 x.1.length++(x.1++(X28 p++(X28 (X04 x.2).length++(X28 (x.2.getD 0 (0,0)).1++(X28 (x.2.getD (x.2.length - 1) (0,0)).1++r))))):=by
 simp only[X7L,Yam]
structure Rs (s rest:List UInt8) (x:Ser) (p:Nat) (r:List UInt8):Prop where
 k:(X5A (rest,true)).1=x.1
 b:(X6T (X5A (rest,true)).2).1=(p:Int)
 c:(X6T (X6T (X5A (rest,true)).2).2).1=((X04 x.2).length:Int)
 d:(X6T (X6T (X6T (X6T (X5A (rest,true)).2).2).2).2).2=(r,true)
theorem At.rs{s:List UInt8}{x:Ser}{p:Nat}(h:At s x p (X04 x.2).length)(r:List UInt8):Rs s (X7L x p++r) x p r:=by
 have hk:=h.key;have hs:=h.small;have a1:=Xs4 (k:=x.1) (by omega) (X28 p++(X28 (X04 x.2).length++(X28 (x.2.getD 0 (0,0)).1++(X28 (x.2.getD (x.2.length - 1) (0,0)).1++r))));have a2:=Xk4 (v:=(p:Int)) (by unfold X6r;omega) (X28 (X04 x.2).length++(X28 (x.2.getD 0 (0,0)).1++(X28 (x.2.getD (x.2.length - 1) (0,0)).1++r)));have a3:=Xk4 (v:=((X04 x.2).length:Int)) (by unfold X6r;omega) (X28 (x.2.getD 0 (0,0)).1++(X28 (x.2.getD (x.2.length - 1) (0,0)).1++r));have a4:=Xk4 h.t0 (X28 (x.2.getD (x.2.length - 1) (0,0)).1++r);have a5:=Xk4 h.t1 r;rw[Xiv];refine⟨?_,?_,?_,?_⟩
 . rw[a1]
 . rw[a1];simp only;rw[a2]
 . rw[a1];simp only;rw[a2];simp only;rw[a3]
 . rw[a1];simp only;rw[a2];simp only;rw[a3];simp only;rw[a4];simp only;rw[a5]
def dcF(s:List UInt8):Nat->Rd->List Ser
 | 0,_=>[]
 | k+1,r=>if r.1=[] then [] else((X5A r).1,(X0s ((s.take ((X6T (X5A r).2).1+(X6T (X6T (X5A r).2).2).1).toNat).drop (X6T (X5A r).2).1.toNat)).1)::dcF s k (X6T (X6T (X6T (X6T (X5A r).2).2).2).2).2
def cF(s:List UInt8):List Ser:=dcF s 6 ((s.take (s.length - 8)).drop (X0E (s.drop (s.length - 8)) 4).1.toNat,true)
theorem Xnl{x:Ser}{p:Nat}(h:1<=x.1.length)(r:List UInt8):X7L x p++r≠[]:=by
 intro e;have:=Ybh List.length e;rw[Xiv]at this;simp only[Yab,Yai]at this;omega
theorem Xvo{s:List UInt8}:∀(b a:List Ser) (k:Nat),RF s (a++b)->b.length<k->dcF s k (ixF b (4+(txF a).length),true)=b
 | [],a,k+1,h,hk=>by simp[dcF,ixF]
 | x::b,a,k+1,h,hk=>by
   have A:=h.at;have R:=A.rs (ixF b (4+(txF a).length+(X04 x.2).length));rw[dcF,Yae (by simp only;rw[ixF];exact Xnl A.key.1 _),ixF,R.d];have hn:RF s ((a++[x])++b):=by rw[Yam];exact h
   have ih:=Xvo b (a++[x]) k hn (by simp at hk;omega);rw[Xfy,Yab,show txF [x]=X04 x.2 by simp[txF],<-Yca]at ih;rw[ih,R.c,R.b,R.k];rw[show((((4+(txF a).length:Nat):Int)+((X04 x.2).length:Int))).toNat=4+(txF a).length+(X04 x.2).length by omega,YaG,A.blk,A.read]
theorem RF.dec{s:List UInt8}{l:List Ser}(h:RF s l):cF s=l:=by
 have L:=h.lay;have e:s.length - 8=(tF l).length+(ixF l 4).length:=by rw[L.len];omega
 unfold cF;rw[e,L.at4];simp only[YaG];rw[L.ix];have:=Xvo (s:=s) l [] 6 (by simpa using h) (by have:=L.five;omega);simpa [txF] using this
def X0m(s:List UInt8):List Ser×Bool:=if RF s (cF s) then(cF s,true) else([],false)
theorem XjN{s:List UInt8}{l:List Ser}(h:RF s l):(l,true)=X0m s:=by
 unfold X0m;rw[h.dec,Yah h]
theorem XaU{s:List UInt8}(h:∀l,¬RF s l):([],false)=X0m s:=by
 unfold X0m;rw[Yae (h _)]
theorem XxW{s:List UInt8}{l:List Ser}(h:X0y l=s)(h2:s≠[]):RF s l:=by
 unfold RF;refine⟨?_,h⟩;unfold X0y at h;split at h
 . rename_i h3;exact h3
 . exact absurd h.symm h2
def fI(s rest:List UInt8)(ok:Bool)(out:List Ser):Prop:=(rest.length<=s.length/\(∀x∈out,x.1.length<=maxLen)/\out.length<=6)/\∀l,RF s l->ok=true/\∃b,l=out++b/\rest=ixF b (4+(txF out).length)
def fM(s rest:List UInt8)(ok:Bool)(out:List Ser):Nat:=6 - out.length
theorem XxL{s rest:List UInt8}{ok:Bool}{out:List Ser}(h:fI s rest ok out)(he:ok=true->rest≠[]->out.length<=5->False):∀l,RF s l->ok=true/\out=l:=λl hl=>by
 obtain⟨h1,b,h2,h3⟩:=h.2 l hl;refine⟨h1,?_⟩;have h5:=hl.lay.five;cases b with
 | nil=>rw[h2];simp
 | cons x b=>
   exfalso;subst h2;have A:=hl.at;exact he h1 (by rw[h3,ixF];exact Xnl A.key.1 _) (by rw[Yab]at h5;omega)
theorem Xxb{s rest:List UInt8}{ok:Bool}{out:List Ser}(hs:s≠[])(h:fI s rest ok out)(he:ok=true->rest≠[]->out.length<=5->False):
 (ok=false->([],false)=X0m s)/\(ok=true->((out.length:Int)=0->([],false)=X0m s)/\(¬(out.length:Int)=0->X3C out/\(¬X0y out=s->([],false)=X0m s)/\(X0y out=s->(out,true)=X0m s))):=by
 have hf:=XxL h he;refine⟨λh1=>XaU λl hl=>?_,λh1=>⟨λh2=>XaU λl hl=>?_,λh2=>⟨h.1.2.1,λh3=>XaU λl hl=>h3 ?_,λh3=>XjN (XxW h3 hs)⟩⟩⟩
 . rw[(hf l hl).1]at h1;cases h1
 . have:=(hf l hl).2;exact hl.1.2 (by rw[<-this];exact YaL.1 (by omega))
 . rw[(hf l hl).2];exact hl.2
theorem Xyg{s rest:List UInt8}{out:List Ser}(h:fI s rest true out)(hr:rest≠[]):(∀l,RF s l->∃x b,l=out++x::b/\rest=X7L x (4+(txF out).length)++ixF b (4+(txF out).length+(X04 x.2).length)/\At s x (4+(txF out).length) (X04 x.2).length/\Rs s rest x (4+(txF out).length) (ixF b (4+(txF out).length+(X04 x.2).length))):=λl hl=>by
 obtain⟨h1,b,h2,h3⟩:=h.2 l hl;cases b with
 | nil=>exact absurd h3 hr
 | cons x b=>
   rw[ixF]at h3;have A:At s x (4+(txF out).length) (X04 x.2).length:=RF.at (h2▸hl);exact⟨x,b,h2,h3,A,h3▸A.rs _⟩
def X9N:Con:=cW .str [.one] (.pair X5C .bool) [(false,1),(false,1)] [(0,115)] (λa=>(Xoe a)) λa=>(X0m a)
def X2J.F(a0:U7q):Prop:=dC (wI (ln a0 - 8)<4) (rE (([]:List U3q),false) (X0m a0)) (0<=wI (ln a0 - 8)/\wI (ln a0 - 8)<=ln a0/\True/\∀r1,rU r1 (X0E (List.drop (tN (wI (ln a0 - 8))) a0) 4)->dC (r1.1.1>wI (ln a0 - 8)) (rE (([]:List U3q),false) (X0m a0)) (0<=r1.1.1/\r1.1.1<=wI (ln a0 - 8)/\wI (ln a0 - 8)<=ln a0/\eQ [(0,vS a0),(4,vI (wI (ln a0 - 8))),(7,.box 35 0)]/\fI a0 (List.drop (tN r1.1.1) (List.take (tN (wI (ln a0 - 8))) a0)) true ([]:List U3q)/\∀(y2:U7q×Bool×List U3q),fI a0 y2.1 y2.2.1 y2.2.2->X00 y2.2.1 (X00 (!y2.1==[]) (dC (ln y2.2.2<=5) (True/\∀r3,Eq r3 ((X5A (y2.1,y2.2.1)).1,(X5A (y2.1,y2.2.1)).2,())->True/\∀r4,Eq r4 ((X6T r3.2.1).1,(X6T r3.2.1).2,())->True/\∀r5,Eq r5 ((X6T r4.2.1).1,(X6T r4.2.1).2,())->True/\∀r6,Eq r6 ((X6T r5.2.1).1,(X6T r5.2.1).2,())->True/\∀r7,Eq r7 ((X6T r6.2.1).1,(X6T r6.2.1).2,())->X00 (!r7.2.1.2) (rE (([]:List U3q),false) (X0m a0)) (dC (r4.1>wI (ln a0 - 8)) (rE (([]:List U3q),false) (X0m a0)) (dC (r5.1>wI (wI (ln a0 - 8) - r4.1)) (rE (([]:List U3q),false) (X0m a0)) (0<=r4.1/\r4.1<=wI (r4.1+r5.1)/\wI (r4.1+r5.1)<=ln a0/\True/\∀r8,rU r8 (X0s (List.drop (tN r4.1) (List.take (tN (wI (r4.1+r5.1))) a0)))->lE y2.2.2 [(r3.1,r8.1.1)]/\(List.length y2.2.2+List.length [(r3.1,r8.1.1)])*40<=140737488355328/\eQ [(0,vS a0),(4,vI (wI (ln a0 - 8))),(7,.box 35 0)]/\fI a0 r7.2.1.1 r7.2.1.2 (y2.2.2++[(r3.1,r8.1.1)])/\fM a0 r7.2.1.1 r7.2.1.2 (y2.2.2++[(r3.1,r8.1.1)])<fM a0 y2.1 y2.2.1 y2.2.2)))) (X00 (!y2.2.1) (rE (([]:List U3q),false) (X0m a0)) (X00 (ln y2.2.2==0) (rE (([]:List U3q),false) (X0m a0)) (X3C y2.2.2/\∀r9,rU r9 (X0y y2.2.2)->X00 (!r9.1==a0) (rE (([]:List U3q),false) (X0m a0)) (rE (y2.2.2,true) (X0m a0)))))) (X00 (!y2.2.1) (rE (([]:List U3q),false) (X0m a0)) (X00 (ln y2.2.2==0) (rE (([]:List U3q),false) (X0m a0)) (X3C y2.2.2/\∀r10,rU r10 (X0y y2.2.2)->X00 (!r10.1==a0) (rE (([]:List U3q),false) (X0m a0)) (rE (y2.2.2,true) (X0m a0)))))) (X00 (!y2.2.1) (rE (([]:List U3q),false) (X0m a0)) (X00 (ln y2.2.2==0) (rE (([]:List U3q),false) (X0m a0)) (X3C y2.2.2/\∀r11,rU r11 (X0y y2.2.2)->X00 (!r11.1==a0) (rE (([]:List U3q),false) (X0m a0)) (rE (y2.2.2,true) (X0m a0)))))))
def X2J.L(a0:U7q):Nat->Option X0f:=XLK [(1020,⟨⟨[0,4,7],[8],[35],[kC 8 0 1001027 115]⟩,(.pair .str (.pair .bool X5C)),λst y=>fI a0 y.1 y.2.1 y.2.2,λst y=>fM a0 y.1 y.2.1 y.2.2⟩)]
theorem X2J.p(a0:U7q)(h:(Xoe a0)):X2J.F a0:=by
 delta X2J.F ln tN wI dC eQ lE rE rU vI vS;simp only[Bs,B0,B1,Yaa,X01,Yay];have hl:a0.length<=maxLen:=h;have hl2:=hl;unfold maxLen at hl;rw[w64 (x:=(a0.length:Int) - 8) (by omega) (by omega)];have hbe:=XuT (s:=a0.drop ((a0.length:Int) - 8).toNat) (w:=4);refine⟨λh1=>XaU λl hl=>?_,λh1=>?_⟩
 . have L:=hl.lay;have:=L.len;have:=XeJ l;omega
 have hne:a0≠[]:=λe=>by rw[e]at h1;simp at h1
 have en:((a0.length:Int) - 8).toNat=a0.length - 8:=by omega
 rw[en]at hbe ⊢;refine⟨by omega,by omega,λh2=>XaU λl hl=>?_,λh2=>⟨by omega,by omega,by omega,⟨⟨by rw[Yap,Yal];omega,by simp,by simp⟩,λl hl=>⟨rfl,l,rfl,?_⟩⟩,λy hI=>?_⟩⟩
 . have L:=hl.lay;have:=L.len;rw[show a0.length - 8=(tF l).length+(ixF l 4).length by omega,L.at4]at h2;simp only at h2;omega
 . have L:=hl.lay;have:=L.len;rw[show a0.length - 8=(tF l).length+(ixF l 4).length by omega,L.at4];simp only[YaG];rw[L.ix];rfl
 obtain⟨rest,ok,out⟩:=y;simp only at hI ⊢;refine⟨λh3=>⟨λh4=>⟨λh5=>?_,λh5=>Xxb hne hI (λ_ _ h6=>by omega)⟩,λh4=>Xxb hne hI (λ_ h6 _=>h6 h4)⟩,λh3=>Xxb hne hI (λh6 _ _=>by rw[h6]at h3;cases h3)⟩;subst h3;have st:=Xyg hI h4;obtain⟨⟨r1,r2,r3⟩,_⟩:=hI;have n1:=XpQ (X5A (rest,true)).2;have n2:=XpQ (X6T (X5A (rest,true)).2).2;have k1:=XsV (rest,true);have k2:=XjK (X5A (rest,true)).2;have k3:=XjK (X6T (X5A (rest,true)).2).2;have k4:=XjK (X6T (X6T (X5A (rest,true)).2).2).2;have k5:=XjK (X6T (X6T (X6T (X5A (rest,true)).2).2).2).2;simp only at k1;refine⟨λh6=>XaU λl hl=>?_,λh6=>⟨λh7=>XaU λl hl=>?_,λh7=>?_⟩⟩
 . obtain⟨x,b,e1,e2,A,R⟩:=st l hl;rw[R.d]at h6;cases h6
 . obtain⟨x,b,e1,e2,A,R⟩:=st l hl;rw[R.b]at h7;have:=A.fit;omega
 rw[w64 (x:=(a0.length:Int) - 8 - (X6T (X5A (rest,true)).2).1) (by omega) (by omega)];refine⟨λh8=>XaU λl hl=>?_,λh8=>?_⟩
 . obtain⟨x,b,e1,e2,A,R⟩:=st l hl;rw[R.b,R.c]at h8;have:=A.fit;omega
 rw[w64 (x:=(X6T (X5A (rest,true)).2).1+(X6T (X6T (X5A (rest,true)).2).2).1) (by omega) (by omega)];refine⟨by omega,by omega,by omega,by omega,by omega,⟨⟨by omega,?_,by simp;omega⟩,λl hl=>?_⟩,by unfold fM;simp;omega⟩
 . intro x hx;rcases Yaf.1 hx with hx | hx
   . exact r2 x hx
   . rw[YaP.1 hx];simp only;unfold maxLen;omega
 . obtain⟨x,b,e1,e2,A,R⟩:=st l hl;refine⟨h6,b,?_,?_⟩
   . rw[e1,R.c,R.b,R.k];rw[show((((4+(txF out).length:Nat):Int)+((X04 x.2).length:Int))).toNat=4+(txF out).length+(X04 x.2).length by omega,YaG,A.blk,A.read];simp
   . rw[R.d,R.c,R.b,R.k];rw[show((((4+(txF out).length:Nat):Int)+((X04 x.2).length:Int))).toNat=4+(txF out).length+(X04 x.2).length by omega,YaG,A.blk,A.read];simp only[Xfy,Yab];rw[show txF [(x.1,x.2)]=X04 x.2 by simp[txF],<-Yca]
def X2J.e:GE:=mE X9N func162 [35,4] [X1B.e,X24.e,X3X.e,X40.e,X2f.e] [] (λi x=>X2J.L x) (λi x=>X2J.F x) λi x h _ _=>X2J.p x h
def Xcr(s:List UInt8)(y:(List Ser×Bool)×(Unit×Unit)):Prop:=(∀x∈y.1.1,x.1.length<=maxLen)/\(y.1.2=true->s≠[])/\∀l,RF s l->y.1=(l,true)
def lI(s:List UInt8)(at':Int)(out:List Ser):Prop:=(12<=s.length/\0<=at'/\at'<=(s.length:Int) - 8/\(∀x∈out,x.1.length<=maxLen)/\out.length<=5)/\∀l,RF s l->∃b,l=out++b/\(s.take (s.length - 8)).drop at'.toNat=ixF b (4+(txF out).length)
def lM(s:List UInt8)(at':Int)(out:List Ser):Nat:=((s.length:Int) - at').toNat
theorem Xmj{s:List UInt8}{out:List Ser}(h:∀x∈out,x.1.length<=maxLen)(h2:∀l,RF s l->False):Xcr s ((out,false),((),())):=⟨h,λh=>(by cases h),λl hl=>absurd hl (h2 l)⟩
structure Sp (s:List UInt8) (a:Nat) (x:Ser) (p:Nat) (r:List UInt8):Prop where
 v:X0k ((s.take (s.length - 8)).drop a)=((x.1.length:Int),((X28 x.1.length).length:Int))
 kp:0<(X28 x.1.length).length
 fit:a+(X28 x.1.length).length+x.1.length<=s.length - 8
 key:(s.take (a+(X28 x.1.length).length+x.1.length)).drop (a+(X28 x.1.length).length)=x.1
 v7:X0W ((s.take (s.length - 8)).drop (a+(X28 x.1.length).length+x.1.length)) 4=([(p:Int),((X04 x.2).length:Int),(x.2.getD 0 (0,0)).1,(x.2.getD (x.2.length - 1) (0,0)).1],((s.length - 8 - (a+(X28 x.1.length).length+x.1.length) - r.length:Nat):Int))
 r8:r.length<=s.length - 8 - (a+(X28 x.1.length).length+x.1.length)
 last:(s.take (s.length - 8)).drop (s.length - 8 - r.length)=r
theorem At.sp{s:List UInt8}{a p:Nat}{x:Ser}{r:List UInt8}(h:At s x p (X04 x.2).length)(hr:(s.take (s.length - 8)).drop a=X7L x p++r):Sp s a x p r:=by
 have hk:=h.key;have hs:=h.small;have i1:X6r (x.1.length:Int):=by unfold X6r;omega
 have i2:X6r (p:Int):=by unfold X6r;omega
 have i3:X6r ((X04 x.2).length:Int):=by unfold X6r;omega
 have kp:=XbG i1;have hlen:=Ybh List.length hr;rw[Yap,Yal]at hlen;rw[Xiv]at hr hlen;simp only[Yab]at hlen;have d1:(s.take (s.length - 8)).drop (a+(X28 x.1.length).length)=x.1++(X28 p++(X28 (X04 x.2).length++(X28 (x.2.getD 0 (0,0)).1++(X28 (x.2.getD (x.2.length - 1) (0,0)).1++r)))):=by
  rw[<-YaH,hr,Ya4]
 have d2:(s.take (s.length - 8)).drop (a+(X28 x.1.length).length+x.1.length)=X28 p++(X28 (X04 x.2).length++(X28 (x.2.getD 0 (0,0)).1++(X28 (x.2.getD (x.2.length - 1) (0,0)).1++r))):=by
  rw[<-YaH,d1,Ya4]
 refine⟨by rw[hr];exact Xqi i1 _,kp,by omega,?_,?_,by omega,?_⟩
 . have:s.take (a+(X28 x.1.length).length+x.1.length)=(s.take (s.length - 8)).take (a+(X28 x.1.length).length+x.1.length):=by
    rw[YbL];congr 1;omega
   rw[this,Xky,d1,Ybl]
 . rw[d2]
   let W:Nat->Int:=λj=>([(p:Int),((X04 x.2).length:Int),(x.2.getD 0 (0,0)).1,(x.2.getD (x.2.length - 1) (0,0)).1]:List Int).getD j 0
   have hc:cat W 4=X28 p++(X28 (X04 x.2).length++(X28 (x.2.getD 0 (0,0)).1++X28 (x.2.getD (x.2.length - 1) (0,0)).1)):=by
    simp only[cat,YaV,Yam];rfl
   have e:X28 p++(X28 (X04 x.2).length++(X28 (x.2.getD 0 (0,0)).1++(X28 (x.2.getD (x.2.length - 1) (0,0)).1++r)))=cat W 4++r:=by
    rw[hc];simp only[Yam]
   have hv:=XmM (W:=W) (n:=4) (s:=cat W 4++r) (λj hj=>by
    have:j=0\/j=1\/j=2\/j=3:=by omega
    rcases this with h0 | h0 | h0 | h0<;>subst h0
    . exact i2
    . exact i3
    . exact h.t0
    . exact h.t1) (by rw[Ybl])
   rw[e];refine hv.trans ?_;have hcl:=Ybh List.length hc;simp only[Yab]at hcl;rw[Yaa];exact⟨rfl,by omega⟩
 . have d3:(s.take (s.length - 8)).drop (a+(X28 x.1.length).length+x.1.length+((X28 p).length+((X28 (X04 x.2).length).length+((X28 (x.2.getD 0 (0,0)).1).length+(X28 (x.2.getD (x.2.length - 1) (0,0)).1).length))))=r:=by
    rw[<-YaH,d2,<-YaH,Ya4,<-YaH,Ya4,<-YaH,Ya4,Ya4]
   have e:s.length - 8 - r.length=a+(X28 x.1.length).length+x.1.length+((X28 p).length+((X28 (X04 x.2).length).length+((X28 (x.2.getD 0 (0,0)).1).length+(X28 (x.2.getD (x.2.length - 1) (0,0)).1).length))):=by omega
   rw[e];exact d3
theorem Xy2{s:List UInt8}{at':Int}{out:List Ser}(h:lI s at' out)(hi:at'<(s.length:Int) - 8):∀l,RF s l->∃x b,l=out++x::b/\At s x (4+(txF out).length) (X04 x.2).length/\Sp s at'.toNat x (4+(txF out).length) (ixF b (4+(txF out).length+(X04 x.2).length)):=λl hl=>by
 obtain⟨b,h2,h3⟩:=h.2 l hl;cases b with
 | nil=>
   exfalso;have:=Ybh List.length h3;rw[Yap,Yal]at this;have h0:=h.1;simp only[ixF,Yai]at this;omega
 | cons x b=>
   rw[ixF]at h3;have A:At s x (4+(txF out).length) (X04 x.2).length:=RF.at (h2▸hl);exact⟨x,b,h2,A,A.sp h3⟩
theorem l_end{s:List UInt8}{at':Int}{out:List Ser}(h:lI s at' out)(hi:¬at'<(s.length:Int) - 8):Xcr s ((out,true),((),())):=by
 obtain⟨⟨h1,h2,h3,h4,h5⟩,h6⟩:=h;refine⟨h4,λ_ e=>by rw[e]at h1;simp at h1,λl hl=>?_⟩;obtain⟨b,k1,k2⟩:=h6 l hl;cases b with
 | nil=>rw[k1];simp
 | cons x b=>
   exfalso;have A:At s x (4+(txF out).length) (X04 x.2).length:=RF.at (k1▸hl);have:=Ybh List.length k2;rw[Yap,Yal,ixF,Xiv]at this;have:=A.key;simp only[Yab]at*;omega
def XaF:Con:={I:=.unit,B:=.unit,A:=.str,shA:=[.one],R:=(.pair X5C .bool),shR:=[(false,1),(false,1)],fresh:=[(0,115)],pre:=λ_ a=>(Xoe a),post:=λ_ a y=>(Xcr a y)}
def X3s.F(a0:U7q):Prop:=dC (ln a0<12) (Xcr a0 ((([]:List U3q),false),(),())) (0<=wI (ln a0 - 8)/\wI (ln a0 - 8)<=ln a0/\True/\∀r1,rU r1 (X0E (List.drop (tN (wI (ln a0 - 8))) a0) 4)->dC (r1.1.1>wI (ln a0 - 8)) (Xcr a0 ((([]:List U3q),false),(),())) (eQ [(0,vS a0),(7,vI (wI (ln a0 - 8)))]/\lI a0 r1.1.1 ([]:List U3q)/\∀(y2:Int×List U3q),lI a0 y2.1 y2.2->dC (y2.1<wI (ln a0 - 8)) (0<=y2.1/\y2.1<=wI (ln a0 - 8)/\wI (ln a0 - 8)<=ln a0/\True/\∀r3,rU r3 (X0k (List.drop (tN y2.1) (List.take (tN (wI (ln a0 - 8))) a0)))->X00 (r3.1.2==0) (Xcr a0 ((y2.2,false),(),())) (dC (r3.1.1>wI (wI (wI (ln a0 - 8) - y2.1) - r3.1.2)) (Xcr a0 ((y2.2,false),(),())) (0<=wI (y2.1+r3.1.2)/\wI (y2.1+r3.1.2)<=wI (wI (y2.1+r3.1.2)+r3.1.1)/\wI (wI (y2.1+r3.1.2)+r3.1.1)<=ln a0/\0<=wI (wI (y2.1+r3.1.2)+r3.1.1)/\wI (wI (y2.1+r3.1.2)+r3.1.1)<=wI (ln a0 - 8)/\wI (ln a0 - 8)<=ln a0/\p7 (List.drop (tN (wI (wI (y2.1+r3.1.2)+r3.1.1))) (List.take (tN (wI (ln a0 - 8))) a0)) 4/\∀r4,rU r4 (X0W (List.drop (tN (wI (wI (y2.1+r3.1.2)+r3.1.1))) (List.take (tN (wI (ln a0 - 8))) a0)) 4)->dC (r4.1.2<0) (Xcr a0 ((y2.2,false),(),())) (0<=(0:Int)/\0<ln r4.1.1/\dC (gA r4.1.1 0 0>ln a0) (Xcr a0 ((y2.2,false),(),())) (0<=(1:Int)/\1<ln r4.1.1/\0<=(0:Int)/\0<ln r4.1.1/\dC (gA r4.1.1 1 0>wI (ln a0 - gA r4.1.1 0 0)) (Xcr a0 ((y2.2,false),(),())) (0<=(0:Int)/\0<ln r4.1.1/\0<=(0:Int)/\0<ln r4.1.1/\0<=(1:Int)/\1<ln r4.1.1/\0<=gA r4.1.1 0 0/\gA r4.1.1 0 0<=wI (gA r4.1.1 0 0+gA r4.1.1 1 0)/\wI (gA r4.1.1 0 0+gA r4.1.1 1 0)<=ln a0/\True/\∀r5,rU r5 (X0s (List.drop (tN (gA r4.1.1 0 0)) (List.take (tN (wI (gA r4.1.1 0 0+gA r4.1.1 1 0))) a0)))->X00 (!r5.1.2) (Xcr a0 ((y2.2,false),(),())) (lE y2.2 [(List.drop (tN (wI (y2.1+r3.1.2))) (List.take (tN (wI (wI (y2.1+r3.1.2)+r3.1.1))) a0),r5.1.1)]/\(List.length y2.2+List.length [(List.drop (tN (wI (y2.1+r3.1.2))) (List.take (tN (wI (wI (y2.1+r3.1.2)+r3.1.1))) a0),r5.1.1)])*40<=140737488355328/\dC (ln (y2.2++[(List.drop (tN (wI (y2.1+r3.1.2))) (List.take (tN (wI (wI (y2.1+r3.1.2)+r3.1.1))) a0),r5.1.1)])>5) (Xcr a0 ((y2.2++[(List.drop (tN (wI (y2.1+r3.1.2))) (List.take (tN (wI (wI (y2.1+r3.1.2)+r3.1.1))) a0),r5.1.1)],false),(),())) (eQ [(0,vS a0),(7,vI (wI (ln a0 - 8)))]/\lI a0 (wI (wI (wI (y2.1+r3.1.2)+r3.1.1)+r4.1.2)) (y2.2++[(List.drop (tN (wI (y2.1+r3.1.2))) (List.take (tN (wI (wI (y2.1+r3.1.2)+r3.1.1))) a0),r5.1.1)])/\lM a0 (wI (wI (wI (y2.1+r3.1.2)+r3.1.1)+r4.1.2)) (y2.2++[(List.drop (tN (wI (y2.1+r3.1.2))) (List.take (tN (wI (wI (y2.1+r3.1.2)+r3.1.1))) a0),r5.1.1)])<lM a0 y2.1 y2.2)))))))) (Xcr a0 ((y2.2,true),(),()))))
def X3s.L(a0:U7q):Nat->Option X0f:=XLK [(508,⟨⟨[0,7],[4,5],[],[kC 4 0 1000515 115]⟩,(.pair (.int .i64) X5C),λst y=>lI a0 y.1 y.2,λst y=>lM a0 y.1 y.2⟩)]
theorem X3s.p(a0:U7q)(h:(Xoe a0)):X3s.F a0:=by
 delta X3s.F ln tN wI dC eQ gA lE rU vI vS;simp only[Bs,B0,B1,Yaa,X01,Yay];have hl:a0.length<=maxLen:=h;have hl2:=hl;unfold maxLen at hl;rw[w64 (x:=(a0.length:Int) - 8) (by omega) (by omega)];have hbe:=XuT (s:=a0.drop ((a0.length:Int) - 8).toNat) (w:=4);refine⟨λh1=>Xmj (by simp) λl hl=>?_,λh1=>?_⟩
 . have L:=hl.lay;have:=L.len;have:=XeJ l;omega
 have en:((a0.length:Int) - 8).toNat=a0.length - 8:=by omega
 rw[en]at hbe ⊢;refine⟨by omega,by omega,λh2=>Xmj (by simp) λl hl=>?_,λh2=>⟨⟨⟨by omega,by omega,by omega,by simp,by simp⟩,λl hl=>⟨l,rfl,?_⟩⟩,λy hI=>?_⟩⟩
 . have L:=hl.lay;have:=L.len;rw[show a0.length - 8=(tF l).length+(ixF l 4).length by omega,L.at4]at h2;simp only at h2;omega
 . have L:=hl.lay;have:=L.len;rw[show a0.length - 8=(tF l).length+(ixF l 4).length by omega,L.at4];simp only[YaG];rw[L.ix];rfl
 obtain⟨p,out⟩:=y;simp only at hI ⊢;refine⟨λhi=>?_,λhi=>l_end hI hi⟩;have st:=Xy2 hI hi;obtain⟨⟨g1,g2,g3,g4,g5⟩,_⟩:=hI;have hb:=X4t ((a0.take (a0.length - 8)).drop p.toNat);rw[Yap,Yal]at hb;have st2:∀l,RF a0 l->∃x b,l=out++x::b/\At a0 x (4+(txF out).length) (X04 x.2).length/\Sp a0 p.toNat x (4+(txF out).length) (ixF b (4+(txF out).length+(X04 x.2).length))/\(X0k ((a0.take (a0.length - 8)).drop p.toNat)).1=x.1.length/\(X0k ((a0.take (a0.length - 8)).drop p.toNat)).2=(X28 x.1.length).length:=λl hl=>by
  obtain⟨x,b,e1,A,S⟩:=st l hl;exact⟨x,b,e1,A,S,by rw[S.v],by rw[S.v]⟩
 clear st;generalize (X0k ((a0.take (a0.length - 8)).drop p.toNat)).1=n at*;generalize (X0k ((a0.take (a0.length - 8)).drop p.toNat)).2=k at*;rw[w64 (x:=(a0.length:Int) - 8 - p) (by omega) (by omega),w64 (x:=(a0.length:Int) - 8 - p - k) (by omega) (by omega),w64 (x:=p+k) (by omega) (by omega)];refine⟨g2,by omega,by omega,λh3=>Xmj g4 λl hl=>?_,λh3=>⟨λh4=>Xmj g4 λl hl=>?_,λh4=>?_⟩⟩
 . obtain⟨x,b,e1,A,S,v1,v2⟩:=st2 l hl;have:=S.kp;omega
 . obtain⟨x,b,e1,A,S,v1,v2⟩:=st2 l hl;have:=S.fit;omega
 rw[w64 (x:=p+k+n) (by omega) (by omega)];have hl2':((a0.take (a0.length - 8)).drop (p+k+n).toNat).length=a0.length - 8 - (p+k+n).toNat:=by rw[Yap,Yal];omega
 have st3:∀l,RF a0 l->∃x b,l=out++x::b/\At a0 x (4+(txF out).length) (X04 x.2).length/\Sp a0 p.toNat x (4+(txF out).length) (ixF b (4+(txF out).length+(X04 x.2).length))/\(a0.take (p+k+n).toNat).drop (p+k).toNat=x.1/\(X0W ((a0.take (a0.length - 8)).drop (p+k+n).toNat) 4).1=[((4+(txF out).length:Nat):Int),((X04 x.2).length:Int),(x.2.getD 0 (0,0)).1,(x.2.getD (x.2.length - 1) (0,0)).1]/\(p+k+n)+(X0W ((a0.take (a0.length - 8)).drop (p+k+n).toNat) 4).2=(a0.length:Int) - 8 - (ixF b (4+(txF out).length+(X04 x.2).length)).length/\p+k+n<=(a0.length:Int) - 8 - (ixF b (4+(txF out).length+(X04 x.2).length)).length:=λl hl=>by
  obtain⟨x,b,e1,A,S,v1,v2⟩:=st2 l hl;have e2:(p+k+n).toNat=p.toNat+(X28 x.1.length).length+x.1.length:=by omega
  have e3:(p+k).toNat=p.toNat+(X28 x.1.length).length:=by omega
  have hf:=S.fit;have h8:=S.r8;refine⟨x,b,e1,A,S,by rw[e2,e3];exact S.key,by rw[e2,S.v7],?_,by omega⟩;rw[e2,S.v7];simp only;omega
 clear st2;have h7:=XsY (s:=(a0.take (a0.length - 8)).drop (p+k+n).toNat) (n:=4) (by omega);have hkl:((a0.take (p+k+n).toNat).drop (p+k).toNat).length<=maxLen:=by unfold maxLen;rw[Yap,Yal];omega
 refine⟨by omega,by omega,by omega,by omega,by omega,by omega,⟨by omega,by omega,by omega⟩,λh5=>Xmj g4 λl hl=>?_,λh5=>?_⟩
 . obtain⟨x,b,e1,A,S,v1,v2,v3,v4⟩:=st3 l hl;omega
 obtain⟨k1,k2,k3,k4⟩:=h7 h5;rw[hl2']at k4;clear h7;generalize (X0W ((a0.take (a0.length - 8)).drop (p+k+n).toNat) 4).1=v at*;generalize (X0W ((a0.take (a0.length - 8)).drop (p+k+n).toNat) 4).2=m at*;have k20:=k2 0;have k21:=k2 1;rw[show Int.toNat 0=0 from rfl,show Int.toNat 1=1 from rfl];have st4:∀l,RF a0 l->∃x b,l=out++x::b/\At a0 x (4+(txF out).length) (X04 x.2).length/\Sp a0 p.toNat x (4+(txF out).length) (ixF b (4+(txF out).length+(X04 x.2).length))/\(a0.take (p+k+n).toNat).drop (p+k).toNat=x.1/\v.getD 0 0=((4+(txF out).length:Nat):Int)/\v.getD 1 0=((X04 x.2).length:Int)/\p+k+n+m=(a0.length:Int) - 8 - (ixF b (4+(txF out).length+(X04 x.2).length)).length:=λl hl=>by
  obtain⟨x,b,e1,A,S,v1,v2,v3,_⟩:=st3 l hl;exact⟨x,b,e1,A,S,v1,by rw[v2];rfl,by rw[v2];rfl,v3⟩
 clear st3;generalize v.getD 0 0=v0 at*;generalize v.getD 1 0=v1 at*;refine⟨by omega,by omega,λh6=>Xmj g4 λl hl=>?_,λh6=>?_⟩
 . obtain⟨x,b,e1,A,S,w1,w2,w3,w4⟩:=st4 l hl;have:=A.fit;omega
 rw[w64 (x:=(a0.length:Int) - v0) (by omega) (by omega)];refine⟨by omega,by omega,by omega,by omega,λh8=>Xmj g4 λl hl=>?_,λh8=>?_⟩
 . obtain⟨x,b,e1,A,S,w1,w2,w3,w4⟩:=st4 l hl;have:=A.fit;omega
 rw[w64 (x:=v0+v1) (by omega) (by omega),w64 (x:=p+k+n+m) (by omega) (by omega)];have blk:∀x,At a0 x (4+(txF out).length) (X04 x.2).length->v0=((4+(txF out).length:Nat):Int)->v1=((X04 x.2).length:Int)->X0s ((a0.take (v0+v1).toNat).drop v0.toNat)=(x.2,true):=λx A w2 w3=>by
  rw[w2,w3,show(((4+(txF out).length:Nat):Int)+((X04 x.2).length:Int)).toNat=4+(txF out).length+(X04 x.2).length by omega,YaG,A.blk,A.read]
 refine⟨by omega,by omega,by omega,by omega,by omega,by omega,by omega,by omega,by omega,λh9=>Xmj g4 λl hl=>?_,λh9=>?_⟩
 . obtain⟨x,b,e1,A,S,w1,w2,w3,w4⟩:=st4 l hl;rw[blk x A w2 w3]at h9;cases h9
 have g4':∀y,∀x∈out++[((a0.take (p+k+n).toNat).drop (p+k).toNat,y)],x.1.length<=maxLen:=λy x hx=>by
  rcases Yaf.1 hx with hx | hx
  . exact g4 x hx
  . rw[YaP.1 hx];exact hkl
 refine⟨by omega,by omega,λh10=>Xmj (g4' _) λl hl=>?_,λh10=>⟨⟨⟨g1,by omega,by omega,g4' _,by simp;omega⟩,λl hl=>?_⟩,by unfold lM;omega⟩⟩
 . obtain⟨x,b,e1,A,S,w1,w2,w3,w4⟩:=st4 l hl;have h5':=hl.lay.five;rw[e1,Yab,Yad]at h5';omega
 . obtain⟨x,b,e1,A,S,w1,w2,w3,w4⟩:=st4 l hl;refine⟨b,?_,?_⟩
   . rw[blk x A w2 w3,w1,e1];simp
   . rw[blk x A w2 w3,w1,Xfy,Yab,show txF [(x.1,x.2)]=X04 x.2 by simp[txF],<-Yca];have:=S.last;have h8:=S.r8;rw[show(p+k+n+m).toNat=a0.length - 8 - (ixF b (4+(txF out).length+(X04 x.2).length)).length by omega];exact this
def X3s.e:GE:=mE XaF func148 [35,4] [X1g.e,X2D.e,X20.e,X3n.e] [] (λi x=>X3s.L x) (λi x=>X3s.F x) λi x h _ _=>X3s.p x h
def X9G:Con:=cQ .str [.one] (.pair X5C .bool) [(false,1),(false,1)] (λa=>(Xoe a)) λa=>(X0m a)
def X3j.F(a0:U7q):Prop:=Xoe a0/\∀r1,Xcr a0 r1->X00 (!r1.1.2) (Eq ((([]:List U3q),false),(),()) (X0m a0,(),())) (X3C r1.1.1/\∀r2,Eq r2 (X0y r1.1.1,(),())->X00 (!r2.1==a0) (Eq ((([]:List U3q),false),(),()) (X0m a0,(),())) (Eq ((r1.1.1,true),(),()) (X0m a0,(),())))
theorem X3j.p(a0:U7q)(h:(Xoe a0)):X3j.F a0:=by
 unfold X3j.F;simp only[Bs,B0,B1,Yaa,X01,Yay];refine⟨h,λr hr=>?_⟩;obtain⟨⟨l,is⟩,_,_⟩:=r;obtain⟨q1,q2,q3⟩:=hr;simp only at q1 q2 q3 ⊢;refine⟨λh1=>XaU λl' hl=>?_,λh1=>⟨q1,λh2=>XaU λl' hl=>h2 ?_,λh2=>XjN (XxW h2 (q2 h1))⟩⟩
 . have:=q3 l' hl;rw[Yaa]at this;rw[this.2]at h1;cases h1
 . have:=q3 l' hl;rw[Yaa]at this;rw[this.1];exact hl.2
def X3j.e:GE:=mE X9G func109 [35,4] [X2b.e,X3s.e] [] noL (λi x=>X3j.F x) λi x h _ _=>X3j.p x h
abbrev Eng:=X5Y
def Xok(s:Ser)(k:List UInt8):Int:=Xea s.1 k
def Xxx(l:List Ser)(k:List UInt8)(u:Unit):Prop:=Xht l/\l.length<=1099511627776
def Xx0(l:List Ser)(k:List UInt8)(u:Unit):Int×Bool:=((pos Op.bytesLess Prod.fst k l:Nat),X99 l k)
structure btI (l:List Ser) (k:List UInt8) (u:Unit) (i j:Int):Prop where
 h1:0<=i
 h2:i<=j
 h3:j<=l.length
 h4:∀x,x<i.toNat->Op.bytesLess (l.getD x ([],[])).1 k=true
 h5:∀x,j.toNat<=x->x<l.length->Op.bytesLess (l.getD x ([],[])).1 k=false
def btM(l:List Ser)(k:List UInt8)(u:Unit)(i j:Int):Nat:=(j - i).toNat
theorem bt_lo{l:List Ser}{k:List UInt8}{u:Unit}{i j h:Int}(ha:Xht l)(hI:btI l k u i j)(h1:i<=h)(h2:h<j)(hk:Op.bytesLess (l.getD h.toNat ([],[])).1 k=true):btI l k u (h+1) j:=by
 obtain⟨q1,q2,q3,q4,q5⟩:=hI;refine⟨by omega,by omega,q3,λx hx=>?_,q5⟩;by_cases e:x=h.toNat
 . subst e;exact hk
 . exact X71.tr _ _ _ (X6g ([],[]) ha (i:=x) (j:=h.toNat) (by omega) (by omega)) hk
theorem bt_hi{l:List Ser}{k:List UInt8}{u:Unit}{i j h:Int}(ha:Xht l)(hI:btI l k u i j)(h1:i<=h)(h2:h<j)(hk:¬Op.bytesLess (l.getD h.toNat ([],[])).1 k=true):btI l k u i h:=by
 obtain⟨q1,q2,q3,q4,q5⟩:=hI;refine⟨q1,h1,by omega,q4,λx hx hl=>?_⟩;by_cases e:x=h.toNat
 . subst e;simpa using hk
 . have:=X6g ([],[]) ha (i:=h.toNat) (j:=x) (by omega) hl;rw[Ybn];intro hx2;exact hk (X71.tr _ _ _ this hx2)
theorem XyZ{l:List Ser}{k:List UInt8}{u:Unit}{i j:Int}(ha:Xht l)(hI:btI l k u i j)(hij:¬i<j):pos Op.bytesLess Prod.fst k l=i.toNat/\X99 l k=(decide (i<l.length)&&decide ((l.getD i.toNat ([],[])).1=k)):=by
 obtain⟨q1,q2,q3,q4,q5⟩:=hI;have e:i=j:=by omega
 subst e;have hp:pos Op.bytesLess Prod.fst k l=i.toNat:=Xpu ([],[]) (by omega) q4 q5;refine⟨hp,?_⟩;rw[Ybq,Yac,Yaj,Yaj];constructor
 . intro h;obtain⟨h1,h2⟩:=Xhj ha h;rw[hp]at h1 h2;exact⟨by omega,h2⟩
 . rintro⟨h1,h2⟩;exact X7X.2 ⟨_,X10 (by omega),h2⟩
theorem lt0(x:Ser)(k:List UInt8):(Xok x k<0)=(Op.bytesLess x.1 k=true):=propext (XsE _ _)
theorem eq0(x:Ser)(k:List UInt8):(Xok x k==0)=decide (x.1=k):=by
 rw[Ybq];simp only[YbW,Yaj];exact Xt5 _ _
def fSf(l:List Ser)(k:List UInt8):Int×Bool:=Xx0 l k ()
def pSf(l:List Ser)(k:List UInt8):Prop:=Xxx l k ()
def X6P:Con:=cQ (.pair T5q .str) [.agg 2,.one] (.int .i64) [(false,1)] (λ_=>True) λa=>(Xok a.1 a.2)
def X1K.F(a0:U3q)(a1:U7q):Prop:=True/\∀r1,Eq r1 (Xea a0.1 a1,(),())->Eq (r1.1,(),()) (Xok a0 a1,(),())
theorem X1K.p(a0:U3q)(a1:U7q)(h:True)(hw:Wf X6P.A (a0,a1)):X1K.F a0 a1:=by
 unfold X1K.F;simp only[Bs,B0,B1,Yaa,X01,Xok,Yay]
 repeat' (with_reducible (first | (refine And.intro ?_ ?_) | intro _))
 all_goals (try simp (disch:=omega) only[w64,wu8,tn0,tn1,tm1,tm2,Yab,Yad,Yai]at*)
 all_goals (try simp (disch:=omega) only[w64,wu8,tn0,tn1,tm1,tm2,Yab,Yad,Yai]at*)
 all_goals (try omega)
 all_goals (try grind[])
def X1K.e:GE:=mE X6P func207 [3] [X2F.e] [] noL (λi x=>X1K.F x.1 x.2) λi x h _ hw=>X1K.p x.1 x.2 h hw
def X0B:Con:=cQ (.pair X5C (.pair .str .unit)) [.one,.one,.clo 207 []] Xpe [(false,1),(false,1)] (λa=>(Xxx a.1 a.2.1 a.2.2)) λa=>(Xx0 a.1 a.2.1 a.2.2)
def X03.F(a0:(List U3q))(a1:U7q)(a2:Unit):Prop:=eQ [(0,vL T5q a0),(1,vS a1),(2,.fn 207 [] []),(8,vI (ln a0))]/\btI a0 a1 a2 0 (ln a0)/\∀(y1:Int×Int),btI a0 a1 a2 y1.1 y1.2->dC (y1.1<y1.2) (0<=(1:Int)/\iB (wI (Int.fdiv (IntKind.wrap .u64 (wI (y1.1+y1.2))) (2^min (tN 1) (IntKind.bits .u64)))) a0 (True/\∀r2,rU r2 (Xok ((gA a0 (wI (Int.fdiv (IntKind.wrap .u64 (wI (y1.1+y1.2))) (2^min (tN 1) (IntKind.bits .u64)))) ([],[])).1,(gA a0 (wI (Int.fdiv (IntKind.wrap .u64 (wI (y1.1+y1.2))) (2^min (tN 1) (IntKind.bits .u64)))) ([],[])).2) a1)->dC (r2.1<0) (eQ [(0,vL T5q a0),(1,vS a1),(2,.fn 207 [] []),(8,vI (ln a0))]/\btI a0 a1 a2 (wI (wI (Int.fdiv (IntKind.wrap .u64 (wI (y1.1+y1.2))) (2^min (tN 1) (IntKind.bits .u64)))+1)) y1.2/\btM a0 a1 a2 (wI (wI (Int.fdiv (IntKind.wrap .u64 (wI (y1.1+y1.2))) (2^min (tN 1) (IntKind.bits .u64)))+1)) y1.2<btM a0 a1 a2 y1.1 y1.2) (eQ [(0,vL T5q a0),(1,vS a1),(2,.fn 207 [] []),(8,vI (ln a0))]/\btI a0 a1 a2 y1.1 (wI (Int.fdiv (IntKind.wrap .u64 (wI (y1.1+y1.2))) (2^min (tN 1) (IntKind.bits .u64))))/\btM a0 a1 a2 y1.1 (wI (Int.fdiv (IntKind.wrap .u64 (wI (y1.1+y1.2))) (2^min (tN 1) (IntKind.bits .u64))))<btM a0 a1 a2 y1.1 y1.2))) (dC (y1.1<ln a0) (iB y1.1 a0 (True/\∀r3,rU r3 (Xok ((gA a0 y1.1 ([],[])).1,(gA a0 y1.1 ([],[])).2) a1)->rE (y1.1,r3.1==0) (Xx0 a0 a1 a2))) (rE (y1.1,false) (Xx0 a0 a1 a2)))
def X03.L(a0:(List U3q))(a1:U7q)(a2:Unit):Nat->Option X0f:=XLK [(60,⟨⟨[0,1,2,8],[9,10],[],[]⟩,T0q,λst y=>btI a0 a1 a2 y.1 y.2,λst y=>btM a0 a1 a2 y.1 y.2⟩)]
theorem X03.p(a0:(List U3q))(a1:U7q)(a2:Unit)(h:(Xxx a0 a1 a2)):X03.F a0 a1 a2:=by
 delta X03.F ln tN wI dC eQ gA iB rE rU vI vL vS;simp only[Bs,B0,B1,Yaa,X01,Yay];obtain⟨hp,hl⟩:=h;refine⟨⟨by omega,by omega,by omega,by simp,λk h1 h2=>by omega⟩,?_⟩;rintro⟨i,j⟩ hI;simp only at hI ⊢;have q1:=hI.h1;have q2:=hI.h2;have q3:=hI.h3;refine⟨λhij=>?_,λhij=>?_⟩
 . rw[w64 (x:=i+j) (by omega) (by omega),wu64 (x:=i+j) (by omega) (by omega),half (by omega) (by omega),w64 (x:=(i+j) / 2) (by omega) (by omega)];rw[lt0,w64 (x:=(i+j) / 2+1) (by omega) (by omega)];refine⟨by omega,by omega,by omega,λh1=>⟨bt_lo hp hI (by omega) (by omega) h1,by unfold btM;omega⟩,λh1=>⟨bt_hi hp hI (by omega) (by omega) h1,by unfold btM;omega⟩⟩
 . obtain⟨e1,e2⟩:=XyZ hp hI hij;have e3:((i.toNat:Nat):Int)=i:=by omega
   refine⟨λh1=>⟨by omega,by omega,?_⟩,λh1=>?_⟩
   . simp only[Xx0,e1,e2,e3,Yaz h1,YaQ,Yaa,Ybw,Ybm];exact eq0 _ _
   . simp only[Xx0,e1,e2,e3,Yav h1,Ybk]
def X03.e:GE:=mE X0B func206 [3,4] [X1K.e] [] (λi x=>X03.L x.1 x.2.1 x.2.2) (λi x=>X03.F x.1 x.2.1 x.2.2) λi x h _ _=>X03.p x.1 x.2.1 x.2.2 h
def X8l:Con:=cQ (.pair X5C .str) [.one,.one] Xpe [(false,1),(false,1)] (λa=>(pSf a.1 a.2)) λa=>(fSf a.1 a.2)
def X2I.F(a0:(List U3q))(a1:U7q):Prop:=Xxx a0 a1 ()/\∀r1,Eq r1 (Xx0 a0 a1 (),(),())->Eq ((r1.1.1,r1.1.2),(),()) (fSf a0 a1,(),())
theorem X2I.p(a0:(List U3q))(a1:U7q)(h:(pSf a0 a1)):X2I.F a0 a1:=by
 unfold X2I.F;simp only[Bs,B0,B1,Yaa,X01,fSf];exact h
def X2I.e:GE:=mE X8l func182 [3,4] [X03.e,X1K.e] [] noL (λi x=>X2I.F x.1 x.2) λi x h _ _=>X2I.p x.1 x.2 h
def Xr9(l top:List Ser):Prop:=Xdr l/\(∀x∈top,XfB x.2)/\tot l+tot top<=100000000
structure laI (l top:List Ser) (i:Int) (out:List Ser):Prop where
 h1:0<=i
 h2:i<=top.length
 h3:X4R out (top.drop i.toNat)=X4R l top
 h4:Xdr out
 h5:tot out+tot (top.drop i.toNat)<=100000000
def laM(l top:List Ser)(i:Int)(out:List Ser):Nat:=(top.length - i).toNat
theorem Xv9{l:List Ser}{i:Nat}(h:i<l.length):tot (l.drop i)=cS (l.getD i ([],[]))+tot (l.drop (i+1)):=by
 rw[X3J ([],[]) h];exact X4C ..
theorem Xwl{l top:List Ser}{i:Int}{out:List Ser}(ht:∀x∈top,XfB x.2)(h:laI l top i out)(hi:i<top.length):laI l top (i+1) (Xjb out (top.getD i.toNat ([],[]))):=by
 obtain⟨h1,h2,h3,h4,h5⟩:=h;have hs:=ht _ (X10 (d:=([],[])) (by omega:i.toNat<top.length));have a1:=Xpk h4.1 (top.getD i.toNat ([],[]));have a2:=Xv9 (l:=top) (i:=i.toNat) (by omega);refine⟨by omega,by omega,?_,XrQ h4 hs,?_⟩
 . rw[tn1 h1];rw[X3J ([],[]) (by omega:i.toNat<top.length)]at h3;exact h3
 . rw[tn1 h1];omega
theorem XyH{l top:List Ser}{i:Int}{out:List Ser}(h:laI l top i out)(hi:¬i<top.length):out=X4R l top:=by
 obtain⟨h1,h2,h3,h4,h5⟩:=h;have e:i.toNat=top.length:=by omega
 rw[e,YbO]at h3;exact h3
def Xe5:Con:={A:=(.pair X5C X5C),shA:=[.one,.one],ownA:=[(0,115)],R:=X5C,shR:=[(false,1)],fresh:=[(0,115)],pre:=λ_ a=>(Xr9 a.1 a.2),f:=some λ_ a=>((X4R a.1 a.2),((),()))}
def X5u.F(a0:(List U3q))(a1:(List U3q)):Prop:=eQ [(9,vL T5q a1),(10,vI (ln a1))]/\laI a0 a1 0 a0/\∀(y1:Int×List U3q),laI a0 a1 y1.1 y1.2->dC (y1.1<ln a1) (iB y1.1 a1 (pSf y1.2 (gA a1 y1.1 ([],[])).1/\∀r2,rU r2 (fSf y1.2 (gA a1 y1.1 ([],[])).1)->X00 r2.1.2 (iB r2.1.1 y1.2 (pMg (gA y1.2 r2.1.1 ([],[])).2 (gA a1 y1.1 ([],[])).2/\∀r3,rU r3 (X4r (gA y1.2 r2.1.1 ([],[])).2 (gA a1 y1.1 ([],[])).2)->iB r2.1.1 y1.2 (eQ [(9,vL T5q a1),(10,vI (ln a1))]/\laI a0 a1 (wI (y1.1+1)) (List.set y1.2 (tN r2.1.1) ((gA y1.2 r2.1.1 ([],[])).1,r3.1))/\laM a0 a1 (wI (y1.1+1)) (List.set y1.2 (tN r2.1.1) ((gA y1.2 r2.1.1 ([],[])).1,r3.1))<laM a0 a1 y1.1 y1.2))) (Xk1 (gA a1 y1.1 ([],[])).2/\∀r4,rU r4 (Xrm (gA a1 y1.1 ([],[])).2)->X4b y1.2 r2.1.1 [((gA a1 y1.1 ([],[])).1,r4.1)]/\∀r5,rU r5 (X2i y1.2 r2.1.1 [((gA a1 y1.1 ([],[])).1,r4.1)])->eQ [(9,vL T5q a1),(10,vI (ln a1))]/\laI a0 a1 (wI (y1.1+1)) r5.1/\laM a0 a1 (wI (y1.1+1)) r5.1<laM a0 a1 y1.1 y1.2))) (rE y1.2 (X4R a0 a1))
def X5u.L(a0:(List U3q))(a1:(List U3q)):Nat->Option X0f:=XLK [(26,⟨⟨[9,10],[0,11],[],[kC 0 0 1000003 115]⟩,(.pair (.int .i64) X5C),λst y=>laI a0 a1 y.1 y.2,λst y=>laM a0 a1 y.1 y.2⟩)]
theorem X5u.p(a0:(List U3q))(a1:(List U3q))(h:(Xr9 a0 a1)):X5u.F a0 a1:=by
 delta X5u.F ln tN wI dC eQ gA iB rE rU vI vL;simp only[Bs,B0,B1,Yaa,X01,pSf,Xxx,Xrm,Xk1];obtain⟨hl,ht,hn⟩:=h;refine⟨⟨by omega,by omega,rfl,hl,by simpa using hn⟩,?_⟩;rintro⟨i,out⟩ hI;simp only at hI ⊢;have q1:=hI.h1;have q2:=hI.h2;have q5:=hI.h5;refine⟨λhi=>?_,λhi=>XyH hI hi⟩;have st:=Xwl ht hI hi;have dn:∀o,laM a0 a1 (i+1) o<laM a0 a1 i out:=λo=>by unfold laM;omega
 have k8:=Xbc a1;have k9:=XeD a0;rw[w64 (x:=i+1) (by omega) (by omega)];have hm:=X10 (d:=(([]:List UInt8),([]:List Pt))) (by omega:i.toNat<a1.length);have hs:=ht _ hm;have k1:=Xbc out;have k2:=XeD (a1.drop i.toNat);have k3:=Xg0 hm;have k4:=XeD a0;have k5:=XeD out;generalize a1.getD i.toNat ([],[])=s at*;have hp:=Xne (lt:=Op.bytesLess) (key:=Prod.fst) s.1 out;refine⟨q1,hi,⟨hI.h4.1,by omega⟩,λh6=>?_,λh6=>?_⟩
 . have h7:X99 out s.1=true:=h6;obtain⟨p1,p2⟩:=Xhj hI.h4.1 h7;have e:(fSf out s.1).1=((pos Op.bytesLess Prod.fst s.1 out:Nat):Int):=rfl;rw[e,YaG];have hm2:=X10 (d:=(([]:List UInt8),([]:List Pt))) p1;have k6:=Xg0 hm2;have hR:=hI.h4.2 _ hm2;refine⟨by omega,by omega,⟨hR,hs,by omega,by omega⟩,by omega,by omega,?_,dn _⟩;have e2:Xjb out s=out.set (pos Op.bytesLess Prod.fst s.1 out) ((out.getD (pos Op.bytesLess Prod.fst s.1 out) ([],[])).1,X4r (out.getD (pos Op.bytesLess Prod.fst s.1 out) ([],[])).2 s.2):=by unfold Xjb;rw[Yah h7]
   rw[<-e2];exact st
 . have h7:X99 out s.1=false:=h6;have e:(fSf out s.1).1=((pos Op.bytesLess Prod.fst s.1 out:Nat):Int):=rfl;have e2:Xjb out s=X2i out (fSf out s.1).1 [(s.1,s.2)]:=by
    unfold Xjb;rw[Yae (by rw[h7];decide),e];rfl
   refine⟨by omega,⟨by omega,by omega,by simp,by simp;omega⟩,?_,dn _⟩;rw[<-e2];exact st
def X5u.e:GE:=mE Xe5 func163 [35] [X0g.e,X2I.e,X4p.e,X2W.e] [] (λi x=>X5u.L x.1 x.2) (λi x=>X5u.F x.1 x.2) λi x h _ _=>X5u.p x.1 x.2 h
def Xjl(l:List Ser)(f:Int):Prop:=tot l<=100000000
structure raI (l:List Ser) (f i:Int) (out:List Ser):Prop where
 h1:0<=i
 h2:i<=l.length
 h3:out=X15 (l.take i.toNat) f
 h4:(out.length:Int)<=i
def raM(l:List Ser)(f i:Int)(out:List Ser):Nat:=(l.length - i).toNat
theorem Xla(a b:List Ser)(f:Int):X15 (a++b) f=X15 a f++X15 b f:=by unfold X15;rw[Ya8,Ya2]
theorem Xvg{l:List Ser}{f i:Int}{out:List Ser}(h:raI l f i out)(hi:i<l.length)(hn:0<(X25 (l.getD i.toNat ([],[])).2 f 1099511627777).length):raI l f (i+1) (out++[((l.getD i.toNat ([],[])).1,X25 (l.getD i.toNat ([],[])).2 f 1099511627777)]):=by
 obtain⟨h1,h2,h3,h4⟩:=h;refine⟨by omega,by omega,?_,by simp;omega⟩;rw[tn1 h1,X0M ([],[]) (by omega),Xla,h3];generalize l.getD i.toNat ([],[])=x at*;have:(X25 x.2 f 1099511627777).isEmpty=false:=by
  cases e:X25 x.2 f 1099511627777 with
  | nil=>rw[e]at hn;simp at hn
  | cons=>rfl
 simp[X15,this]
theorem XxC{l:List Ser}{f i:Int}{out:List Ser}(h:raI l f i out)(hi:i<l.length)(hn:¬0<(X25 (l.getD i.toNat ([],[])).2 f 1099511627777).length):raI l f (i+1) out:=by
 obtain⟨h1,h2,h3,h4⟩:=h;refine⟨by omega,by omega,?_,by omega⟩;rw[tn1 h1,X0M ([],[]) (by omega),Xla,h3];generalize l.getD i.toNat ([],[])=x at*;have:(X25 x.2 f 1099511627777)=[]:=YaL.1 (by omega);simp[X15,this]
theorem Xw0{l:List Ser}{f i:Int}{out:List Ser}(h:raI l f i out)(hi:¬i<l.length):out=X15 l f:=by
 obtain⟨h1,h2,h3,h4⟩:=h;rw[h3,show i.toNat=l.length by omega,Yat]
def XbE:Con:=cW (.pair X5C (.int .i64)) [.one,.one] X5C [(false,1)] [(0,115)] (λa=>(Xjl a.1 a.2)) λa=>(X15 a.1 a.2)
def X3S.F(a0:(List U3q))(a1:Int):Prop:=eQ [(1,vI a1),(10,vL T5q a0),(11,vI (ln a0))]/\raI a0 a1 0 ([]:List U3q)/\∀(y1:Int×List U3q),raI a0 a1 y1.1 y1.2->dC (y1.1<ln a0) (iB y1.1 a0 (X8L (gA a0 y1.1 ([],[])).2 a1 1099511627777/\∀r2,rU r2 (X25 (gA a0 y1.1 ([],[])).2 a1 1099511627777)->dC (ln r2.1>0) (lE y1.2 ([((gA a0 y1.1 ([],[])).1,r2.1)]:List U3q)/\(List.length y1.2+List.length ([((gA a0 y1.1 ([],[])).1,r2.1)]:List U3q))*40<=140737488355328/\eQ [(1,vI a1),(10,vL T5q a0),(11,vI (ln a0))]/\raI a0 a1 (wI (y1.1+1)) (y1.2++[((gA a0 y1.1 ([],[])).1,r2.1)])/\raM a0 a1 (wI (y1.1+1)) (y1.2++[((gA a0 y1.1 ([],[])).1,r2.1)])<raM a0 a1 y1.1 y1.2) (eQ [(1,vI a1),(10,vL T5q a0),(11,vI (ln a0))]/\raI a0 a1 (wI (y1.1+1)) y1.2/\raM a0 a1 (wI (y1.1+1)) y1.2<raM a0 a1 y1.1 y1.2))) (rE y1.2 (X15 a0 a1))
def X3S.L(a0:(List U3q))(a1:Int):Nat->Option X0f:=XLK [(58,⟨⟨[1,10,11],[5,12],[],[kC 5 0 1000643 115]⟩,(.pair (.int .i64) X5C),λst y=>raI a0 a1 y.1 y.2,λst y=>raM a0 a1 y.1 y.2⟩)]
theorem X3S.p(a0:(List U3q))(a1:Int)(h:(Xjl a0 a1)):X3S.F a0 a1:=by
 delta X3S.F ln wI dC eQ gA iB lE rE rU vI vL tN;simp only[Bs,B0,B1,Yaa,X01,X8L];have hn:tot a0<=100000000:=h;have k1:=Xbc a0;refine⟨⟨by omega,by omega,by simp[X15],by simp⟩,?_⟩;rintro⟨i,out⟩ hI;simp only at hI ⊢;have q1:=hI.h1;have q2:=hI.h2;have q4:=hI.h4;refine⟨λhi=>?_,λhi=>Xw0 hI hi⟩;have dn:∀o,raM a0 a1 (i+1) o<raM a0 a1 i out:=λo=>by unfold raM;omega
 rw[w64 (x:=i+1) (by omega) (by omega)];have k2:=Xg0 (X10 (d:=(([]:List UInt8),([]:List Pt))) (by omega:i.toNat<a0.length));refine⟨q1,hi,by omega,λh6=>⟨by omega,by omega,Xvg hI hi (by omega),dn _⟩,λh6=>⟨XxC hI hi (by omega),dn _⟩⟩
def X3S.e:GE:=mE XbE func164 [35] [X4Y.e] [] (λi x=>X3S.L x.1 x.2) (λi x=>X3S.F x.1 x.2) λi x h _ _=>X3S.p x.1 x.2 h
def XfC(l:List Ser):Int:=cL (λx:Ser=>(x.2.length:Int)) l
theorem XlB(l:List Ser):0<=XfC l/\XfC l+l.length=tot l:=by
 unfold XfC tot
 induction l with
 | nil=>simp[cL]
 | cons x l ih=>have e:cS x=(x.2.length:Int)+1:=rfl;rw[X4C,X4C,Yad];omega
def Xqa(l:List Ser):Prop:=tot l<=100000000
def cnI(l:List Ser)(n i:Int):Prop:=0<=i/\i<=l.length/\n=XfC (l.take i.toNat)
def cnM(l:List Ser)(n i:Int):Nat:=(l.length - i).toNat
theorem XsD{l:List Ser}{n i:Int}(h:cnI l n i)(hi:i<l.length):cnI l (n+((l.getD i.toNat ([],[])).2.length:Int)) (i+1):=by
 obtain⟨h1,h2,h3⟩:=h;refine⟨by omega,by omega,?_⟩;unfold XfC at h3 ⊢;rw[tn1 h1,(X5w (λx:Ser=>(x.2.length:Int)) ([],[]) (by omega:i.toNat<l.length)).1,h3]
theorem XyQ{l:List Ser}{n i:Int}(h:cnI l n i)(hi:i<l.length):0<=n/\n+((l.getD i.toNat ([],[])).2.length:Int)<=XfC l:=by
 obtain⟨h1,h2,h3⟩:=h;have a:=(X5w (λx:Ser=>(x.2.length:Int)) ([],[]) (by omega:i.toNat<l.length)).2;have b:=(XlB (l.take i.toNat)).1;have c:=(XlB (l.drop (i.toNat+1))).1;unfold XfC at*;omega
theorem Xvf{l:List Ser}{n i:Int}(h:cnI l n i)(hi:¬i<l.length):n=XfC l:=by
 obtain⟨h1,h2,h3⟩:=h;rw[h3,show i.toNat=l.length by omega,Yat]
def XoE(c:Eng)(x:Ser):Bool:=decide ((x.2.getD 0 (0,0)).1<c.1)
def fLow(x:Ser)(c:Eng):Bool:=XoE c x
def XxS(x:Ser)(c:Eng):Prop:=x.2≠[]
def Xox(l:List Ser)(c:Eng):Prop:=l.length<=1099511627776/\∀x∈l,x.2≠[]
def Xkn(l:List Ser)(c:Eng):Int:=if l.findIdx (XoE c)<l.length then((l.findIdx (XoE c):Nat):Int) else -1
def ilI(l:List Ser)(c:Eng)(i:Int):Prop:=0<=i/\i<=l.length/\∀j,j<i.toNat->XoE c (l.getD j ([],[]))=false
def ilM(l:List Ser)(c:Eng)(i:Int):Nat:=(l.length - i).toNat
theorem XxV{l:List Ser}{c:Eng}{i:Int}(h:ilI l c i)(hi:i<l.length)(hd:XoE c (l.getD i.toNat ([],[]))=true):i=Xkn l c:=by
 obtain⟨h1,h2,h3⟩:=h;have e:l.findIdx (XoE c)=i.toNat:=by
  refine(YcF (by omega)).2 ⟨by rw[X0O (by omega)]at hd;exact hd,λj hj=>?_⟩;have:=h3 j hj;rw[X0O (by omega)]at this;exact this
 unfold Xkn;rw[e,Yah (by omega)];omega
theorem il_no{l:List Ser}{c:Eng}{i:Int}(h:ilI l c i)(hi:¬i<l.length):-1=Xkn l c:=by
 obtain⟨h1,h2,h3⟩:=h;have e:¬l.findIdx (XoE c)<l.length:=λhlt=>by
  have a:=Yby (w:=hlt);have b:=h3 (l.findIdx (XoE c)) (by omega);rw[X0O hlt,a]at b;cases b
 unfold Xkn;rw[Yae e]
def Xmu(l:List Ser)(c:Eng):Bool:=l.any (XoE c)
theorem Xxd(l:List Ser)(c:Eng):decide (Xkn l c>=0)=Xmu l c:=by
 unfold Xkn Xmu;rw[Ybq,Yaj,Ydq];constructor
 . intro h;split at h
   . rename_i hlt;exact⟨_,Yc3 hlt,Yby (w:=hlt)⟩
   . omega
 . rintro⟨x,hx,hd⟩;rw[Yah (Yc2 ⟨x,hx,hd⟩)];omega
def Xbp:Con:=cQ X5C [.one] (.int .i64) [(false,1)] (λa=>(Xqa a)) λa=>(XfC a)
def X47.F(a0:(List U3q)):Prop:=eQ [(6,vL T5q a0),(7,vI (ln a0))]/\cnI a0 0 0/\∀(y1:Int×Int),cnI a0 y1.1 y1.2->dC (y1.2<ln a0) (iB y1.2 a0 (eQ [(6,vL T5q a0),(7,vI (ln a0))]/\cnI a0 (wI (y1.1+ln (gA a0 y1.2 ([],[])).2)) (wI (y1.2+1))/\cnM a0 (wI (y1.1+ln (gA a0 y1.2 ([],[])).2)) (wI (y1.2+1))<cnM a0 y1.1 y1.2)) (rE y1.1 (XfC a0))
def X47.L(a0:(List U3q)):Nat->Option X0f:=XLK [(58,⟨⟨[6,7],[3,8],[],[]⟩,T0q,λst y=>cnI a0 y.1 y.2,λst y=>cnM a0 y.1 y.2⟩)]
theorem X47.p(a0:(List U3q))(h:(Xqa a0)):X47.F a0:=by
 delta X47.F ln wI dC eQ gA iB rE vI vL tN;simp only[Bs,B0,B1,Yaa,X01];have hn:tot a0<=100000000:=h;have k0:=XlB a0;have k1:=Xbc a0;refine⟨⟨by omega,by omega,by simp[XfC,cL]⟩,?_⟩;rintro⟨n,i⟩ hI;simp only at hI ⊢;have q1:=hI.1;have q2:=hI.2.1;refine⟨λhi=>?_,λhi=>Xvf hI hi⟩;have k2:=XyQ hI hi;have st:=XsD hI hi;rw[w64 (x:=i+1) (by omega) (by omega),w64 (by omega) (by omega)];exact⟨q1,hi,st,by unfold cnM;omega⟩
def X47.e:GE:=mE Xbp func129 [3] [] [] (λi x=>X47.L x) (λi x=>X47.F x) λi x h _ _=>X47.p x h
def X6c:Con:=cQ (.pair T5q T9q) [.agg 2,.ptr 3] .bool [(false,1)] (λa=>(XxS a.1 a.2)) λa=>(fLow a.1 a.2)
def X14.F(a0:U3q)(a1:X5Y):Prop:=0<=(0:Int)/\(0:Int)<ln a0.2/\Eq (decide ((List.getD a0.2 (tN (0:Int)) (0,0)).1<a1.1),(),()) (fLow a0 a1,(),())
theorem X14.p(a0:U3q)(a1:X5Y)(h:(XxS a0 a1)):X14.F a0 a1:=by
 delta X14.F ln tN;simp only[Bs,B0,B1,Yaa,X01,XxS,Yay];have hp:a0.2≠[]:=h;have:0<a0.2.length:=Ybj.2 hp;exact⟨by omega,by omega,rfl⟩
def X14.e:GE:=mE X6c func131 [4] [] [] noL (λi x=>X14.F x.1 x.2) λi x h _ _=>X14.p x.1 x.2 h
def X17:Con:=cQ (.pair X5C T9q) [.one,.clo 131 [3]] (.int .i64) [(false,1)] (λa=>(Xox a.1 a.2)) λa=>(Xkn a.1 a.2)
def X0a.F(a0:(List U3q))(a1:X5Y):Prop:=eQ [(0,vL T5q a0),(1,.fn 131 [] [.ptr [.int .i64 a1.1,.lst T5q a1.2.1 none,.lst .str a1.2.2 none]]),(7,vI (ln a0))]/\ilI a0 a1 0/\∀(y1:Int),ilI a0 a1 y1->dC (y1<ln a0) (iB y1 a0 (XxS ((gA a0 y1 ([],[])).1,(gA a0 y1 ([],[])).2) a1/\∀r2,rU r2 (fLow ((gA a0 y1 ([],[])).1,(gA a0 y1 ([],[])).2) a1)->X00 r2.1 (rE y1 (Xkn a0 a1)) (eQ [(0,vL T5q a0),(1,.fn 131 [] [.ptr [.int .i64 a1.1,.lst T5q a1.2.1 none,.lst .str a1.2.2 none]]),(7,vI (ln a0))]/\ilI a0 a1 (wI (y1+1))/\ilM a0 a1 (wI (y1+1))<ilM a0 a1 y1))) (rE (-1) (Xkn a0 a1))
def X0a.L(a0:(List U3q))(a1:X5Y):Nat->Option X0f:=XLK [(26,⟨⟨[0,1,7],[8],[],[]⟩,(.int .i64),λst y=>ilI a0 a1 y,λst y=>ilM a0 a1 y⟩)]
theorem X0a.p(a0:(List U3q))(a1:X5Y)(h:(Xox a0 a1)):X0a.F a0 a1:=by
 delta X0a.F ln wI dC eQ gA iB rE rU vI vL tN;simp only[Bs,B0,B1,Yaa,X01,Yay,fLow,XxS];obtain⟨hl,hne⟩:=h;refine⟨⟨by omega,by omega,λj hj=>absurd hj (by simp)⟩,?_⟩;rintro i hI;have q1:=hI.1;have q2:=hI.2.1;rw[w64 (x:=i+1) (by omega) (by omega)];refine⟨λhi=>⟨q1,hi,hne _ (X10 (by omega)),λhd=>XxV hI hi hd,λhd=>⟨⟨by omega,by omega,λj hj=>?_⟩,by unfold ilM;omega⟩⟩,λhi=>il_no hI hi⟩;by_cases e:j=i.toNat
 . rw[e];exact hd
 . exact hI.2.2 j (by omega)
def X0a.e:GE:=mE X17 func161 [3] [X14.e] [] (λi x=>X0a.L x.1 x.2) (λi x=>X0a.F x.1 x.2) λi x h _ _=>X0a.p x.1 x.2 h
def X0U:Con:=cQ (.pair X5C T9q) [.one,.clo 131 [3]] .bool [(false,1)] (λa=>(Xox a.1 a.2)) λa=>(Xmu a.1 a.2)
def X0e.F(a0:(List U3q))(a1:X5Y):Prop:=Xox a0 (a1.1,a1.2.1,a1.2.2)/\∀r1,Eq r1 (Xkn a0 (a1.1,a1.2.1,a1.2.2),(),())->Eq (decide (r1.1>=(0:Int)),(),()) (Xmu a0 a1,(),())
theorem X0e.p(a0:(List U3q))(a1:X5Y)(h:(Xox a0 a1)):X0e.F a0 a1:=by
 unfold X0e.F;simp only[Bs,B0,B1,Yaa,X01,Yay];exact⟨h,Xxd _ _⟩
def X0e.e:GE:=mE X0U func130 [4] [X14.e,X0a.e] [] noL (λi x=>X0e.F x.1 x.2) λi x h _ _=>X0e.p x.1 x.2 h
def Xbk(fs:List U7q):List (List Ser):=fs.map λf=>(X0m f).1
def okF(fs:List U7q):Bool:=fs.all λf=>(X0m f).2
theorem XuI(f:List UInt8)(h:(X0m f).2=true):X0Q (X0m f).1=true:=by
 unfold X0m at h ⊢;split at h
 . rename_i hr;rw[Yah hr];exact hr.1.1
 . cases h
theorem XiX(f:List UInt8):Xdr (X0m f).1/\tot (X0m f).1<=305/\∀x∈(X0m f).1,x.1.length<=8:=by
 by_cases h:(X0m f).2=true
 . obtain⟨h1,h2,h3,h4⟩:=X3i (XuI f h);exact⟨h1,h2,λx hx=>(h4 x hx).1⟩
 . have:(X0m f).1=[]:=by
    unfold X0m at h ⊢;split
    . rename_i hr;rw[Yah hr]at h;exact absurd rfl h
    . rfl
   rw[this];exact⟨Xgv,by simp[tot,cL],λx hx=>by cases hx⟩
def X0l(e:Eng):List Ser×Bool:=if okF e.2.2=true then(X15 (X4R (X4x (Xbk e.2.2)) e.2.1) e.1,true) else([],false)
def Xhn(e:Eng):Prop:=(∀f∈e.2.2,Xoe f)/\Xdr e.2.1/\tot e.2.1<=100000/\e.2.2.length<=1000
structure plI (e:Eng) (i:Int) (fl:Int) (ca:List Ser) (fi:List U7q) (out:List Ser):Prop where
 h0:((fl,(ca,fi)):Eng)=e
 h1:0<=i
 h2:i<=e.2.2.length
 h3:out=X4x (Xbk (e.2.2.take i.toNat))
 h4:Xdr out
 h5:tot out<=305*i
 h6:okF (e.2.2.take i.toNat)=true
def plM(e:Eng)(i:Int)(fl:Int)(ca:List Ser)(fi:List U7q)(out:List Ser):Nat:=(e.2.2.length - i).toNat
theorem Xwa{e:Eng}{i fl:Int}{ca:List Ser}{fi:List U7q}{out:List Ser}(h:plI e i fl ca fi out)(hi:i<e.2.2.length)(hr:(X0m (e.2.2.getD i.toNat [])).2=true):plI e (i+1) fl ca fi (X4R out (X0m (e.2.2.getD i.toNat [])).1):=by
 obtain⟨h0,h1,h2,h3,h4,h5,h6⟩:=h;obtain⟨r1,r2,_⟩:=XiX (e.2.2.getD i.toNat []);have ht:=Xdg h4 r1.2;refine⟨h0,by omega,by omega,?_,X7M h4 r1.2,by omega,?_⟩
 . rw[tn1 h1,X0M [] (by omega),h3];simp only[Xbk,X4x,Ya8,YbH,Yas,YaI,Ybr,YcL]
 . rw[tn1 h1,X0M [] (by omega)];simp only[okF,List.all_append,List.all_cons,List.all_nil,Ybu,Yac]at h6 ⊢;exact⟨h6,hr⟩
theorem pl_no{e:Eng}{i:Nat}(hi:i<e.2.2.length)(hr:(X0m (e.2.2.getD i [])).2=false):([],false)=X0l e:=by
 unfold X0l;rw[Yae];intro h;have:=Ya7.1 h _ (X10 (d:=[]) hi);rw[hr]at this;cases this
theorem Xyn{e:Eng}{i fl:Int}{ca:List Ser}{fi:List U7q}{out:List Ser}(h:plI e i fl ca fi out)(hi:¬i<e.2.2.length):(X15 (X4R out e.2.1) e.1,true)=X0l e:=by
 obtain⟨h0,h1,h2,h3,h4,h5,h6⟩:=h;have e1:i.toNat=e.2.2.length:=by omega
 rw[e1,Yat]at h3 h6;unfold X0l;rw[Yah h6,h3]
def Xco:Con:=cW T9q [.agg 3] (.pair X5C .bool) [(false,1),(false,1)] [(0,115)] (λa=>(Xhn a)) λa=>(X0l a)
def X4X.F(a0:X5Y):Prop:=eQ [(1,.box 2 0),(11,vL .str a0.2.2),(12,vI (ln a0.2.2))]/\plI a0 0 a0.1 a0.2.1 a0.2.2 ([]:List U3q)/\∀(y1:Int×Int×List U3q×List U7q×List U3q),plI a0 y1.1 y1.2.1 y1.2.2.1 y1.2.2.2.1 y1.2.2.2.2->dC (y1.1<ln a0.2.2) (iB y1.1 a0.2.2 (Xoe (gA a0.2.2 y1.1 [])/\∀r2,rU r2 (X0m (gA a0.2.2 y1.1 []))->X00 (!r2.1.2) (rE (([]:List U3q),false) (X0l a0)) (Xr9 y1.2.2.2.2 r2.1.1/\∀r3,rU r3 (X4R y1.2.2.2.2 r2.1.1)->eQ [(1,.box 2 0),(11,vL .str a0.2.2),(12,vI (ln a0.2.2))]/\plI a0 (wI (y1.1+1)) y1.2.1 y1.2.2.1 y1.2.2.2.1 r3.1/\plM a0 (wI (y1.1+1)) y1.2.1 y1.2.2.1 y1.2.2.2.1 r3.1<plM a0 y1.1 y1.2.1 y1.2.2.1 y1.2.2.2.1 y1.2.2.2.2))) (Xr9 y1.2.2.2.2 y1.2.2.1/\∀r4,rU r4 (X4R y1.2.2.2.2 y1.2.2.1)->Xjl r4.1 y1.2.1/\∀r5,rU r5 (X15 r4.1 y1.2.1)->rE (r5.1,true) (X0l a0))
def X4X.L(a0:X5Y):Nat->Option X0f:=XLK [(58,⟨⟨[1,11,12],[4,13],[2],[kC 4 0 1000515 115]⟩,(.pair (.int .i64) (.pair (.int .i64) (.pair X5C (.pair XfH X5C)))),λst y=>plI a0 y.1 y.2.1 y.2.2.1 y.2.2.2.1 y.2.2.2.2,λst y=>plM a0 y.1 y.2.1 y.2.2.1 y.2.2.2.1 y.2.2.2.2⟩)]
theorem X4X.p(a0:X5Y)(h:(Xhn a0)):X4X.F a0:=by
 delta X4X.F ln wI dC eQ gA iB rE rU vI vL tN;simp only[Bs,B0,B1,Yaa,X01,Yay,Xjl];obtain⟨hf,hc,hn,hl⟩:=h;refine⟨⟨rfl,by omega,by omega,by simp[X4x,Xbk],Xgv,by simp[tot,cL],by simp[okF]⟩,?_⟩;rintro⟨i,fl,ca,fi,out⟩ hI;simp only at hI ⊢;have q1:=hI.h1;have q2:=hI.h2;have q5:=hI.h5;refine⟨λhi=>?_,λhi=>?_⟩
 . have hm:=X10 (d:=([]:List UInt8)) (by omega:i.toNat<a0.2.2.length);obtain⟨r1,r2,_⟩:=XiX (a0.2.2.getD i.toNat []);rw[w64 (x:=i+1) (by omega) (by omega)];exact⟨q1,hi,hf _ hm,λhr=>pl_no (by omega) hr,λhr=>⟨⟨hI.h4,r1.2,by omega⟩,Xwa hI hi hr,by unfold plM;omega⟩⟩
 . have he:=Xyn hI hi;have ht:=Xdg hI.h4 hc.2;obtain rfl:=hI.h0;simp only at hn he ht hc hl hi q2 ⊢;exact⟨⟨hI.h4,hc.2,by omega⟩,by omega,he⟩
def X4X.e:GE:=mE Xco func132 [35,4] [X2J.e,X5u.e,X3S.e] [] (λi x=>X4X.L x) (λi x=>X4X.F x) λi x h _ _=>X4X.p x h
def Xdm(e:Eng):Bool:=Xb3 e.1&&(X0Q e.2.1&&(decide (XfC e.2.1<=40)&&(decide (e.2.2.length<=4)&&!Xmu e.2.1 e)))
def X3T(e:Eng):List Ser×Bool:=if Xdm e=true then(if (X0l e).2=true then((X0l e).1,X0Q (X0l e).1) else((X0l e).1,false)) else([],false)
def X3D(e:Eng):Bool:=(X3T e).2
def Xgx(e:Eng):Prop:=X3C e.2.1/\∀f∈e.2.2,Xoe f
theorem Xvb{l:List Ser}{s:Ser}{n:Nat}(h:∀x∈l,x.1.length<=n)(hs:s.1.length<=n):∀x∈Xjb l s,x.1.length<=n:=λx hx=>by
 rcases Xmd hx with hx | rfl | ⟨y,hy,rfl⟩
 . exact h x hx
 . exact hs
 . exact h y hy
theorem Xdi{n:Nat}:∀{t l:List Ser},(∀x∈l,x.1.length<=n)->(∀x∈t,x.1.length<=n)->∀x∈X4R l t,x.1.length<=n
 | [],_,h,_=>h
 | s::t,l,h,ht=>Xdi (t:=t) (Xvb h (ht s (by simp))) λx hx=>ht x (by simp[hx])
theorem Xlr{n:Nat}:∀(ls:List (List Ser)) (l:List Ser),(∀x∈l,x.1.length<=n)->(∀t∈ls,∀x∈t,x.1.length<=n)->∀x∈ls.foldl X4R l,x.1.length<=n
 | [],_,h,_=>h
 | t::ls,l,h,ht=>Xlr ls (X4R l t) (Xdi h (ht t (by simp))) λx hx=>ht x (by simp[hx])
theorem Xqv{n:Nat}{l:List Ser}(h:∀x∈l,x.1.length<=n)(f:Int):∀x∈X15 l f,x.1.length<=n:=λx hx=>by
 obtain⟨y,hy,rfl⟩:=Xlj hx;exact h y hy
theorem Xnv{e:Eng}(h:∀x∈e.2.1,x.1.length<=8):∀x∈(X0l e).1,x.1.length<=8:=by
 unfold X0l;split
 . refine Xqv (Xdi (Xlr _ _ (λx hx=>by cases hx) λt ht x hx=>?_) h) _;obtain⟨f,_,rfl⟩:=YaN.1 ht;exact(XiX f).2.2 x hx
 . intro x hx;cases hx
theorem Xlv{l:List Ser}(h:∀x∈l,x.1.length<=8):X3C l:=λx hx=>YaW (h x hx) (by decide)
def X7y:Con:=cW T9q [.agg 3] (.pair X5C .bool) [(false,1),(false,1)] [(0,115)] (λa=>(Xgx a)) λa=>(X3T a)
def X1Q.F(a0:X5Y):Prop:=True/\∀r1,Eq r1 (fIn a0.1 0 1099511627776,(),())->X00 (!r1.1) (Eq ((([]:List U3q),false),(),()) (X3T a0,(),())) (X3C a0.2.1/\∀r2,Eq r2 (X0Q a0.2.1,(),())->X00 (!r2.1) (Eq ((([]:List U3q),false),(),()) (X3T a0,(),())) (Xqa a0.2.1/\∀r3,Eq r3 (XfC a0.2.1,(),())->X00 (decide (r3.1>(40:Int))) (Eq ((([]:List U3q),false),(),()) (X3T a0,(),())) (X00 (decide (ln a0.2.2>(4:Int))) (Eq ((([]:List U3q),false),(),()) (X3T a0,(),())) (Xox a0.2.1 (a0.1,a0.2.1,a0.2.2)/\∀r4,Eq r4 (Xmu a0.2.1 (a0.1,a0.2.1,a0.2.2),(),())->X00 r4.1 (Eq ((([]:List U3q),false),(),()) (X3T a0,(),())) (Xhn (a0.1,a0.2.1,a0.2.2)/\∀r5,Eq r5 (X0l (a0.1,a0.2.1,a0.2.2),(),())->X00 r5.1.2 (X3C r5.1.1/\∀r6,Eq r6 (X0Q r5.1.1,(),())->Eq ((r5.1.1,r6.1),(),()) (X3T a0,(),())) (Eq ((r5.1.1,false),(),()) (X3T a0,(),())))))))
theorem X1Q.p(a0:X5Y)(h:(Xgx a0)):X1Q.F a0:=by
 delta X1Q.F ln;simp only[Bs,B0,B1,Yaa,X01,Yay];obtain⟨hk,hf⟩:=h;have no:Xdm a0=false->(([]:List Ser),false)=X3T a0:=λh=>by unfold X3T;rw[Yae (by rw[h];decide)]
 refine⟨λh1=>no (by unfold Xdm Xb3;rw[h1];rfl),λh1=>⟨hk,λh2=>no (by unfold Xdm;rw[h2];simp),λh2=>?_⟩⟩;obtain⟨s1,s2,s3,s4⟩:=X3i h2;have hne:Xox a0.2.1 a0:=⟨by omega,λx hx=>(s4 x hx).2.1⟩
 refine⟨by unfold Xqa;omega,λh3=>no ?_,λh3=>⟨λh4=>no ?_,λh4=>⟨hne,λh5=>no ?_,λh5=>?_⟩⟩⟩
 . have:decide (XfC a0.2.1<=40)=false:=Yav (by omega);unfold Xdm;rw[this];simp
 . have:decide (a0.2.2.length<=4)=false:=Yav (by omega);unfold Xdm;rw[this];simp
 . unfold Xdm;rw[h5];simp
 have hh:Xdm a0=true:=by
  unfold Xdm Xb3;rw[h1,h2,h5,Yaz (by omega:XfC a0.2.1<=40),Yaz (by omega:a0.2.2.length<=4)];rfl
 refine⟨⟨hf,s1,by omega,by omega⟩,λh6=>⟨Xlv (Xnv λx hx=>(s4 x hx).1),?_⟩,λh6=>?_⟩
 . unfold X3T;rw[Yah hh,Yah h6]
 . unfold X3T;rw[Yah hh,Yae (by rw[h6];decide)]
def X1Q.e:GE:=mE X7y func92 [35,4] [X0X.e,X2c.e,X47.e,X0e.e,X14.e,X4X.e] [] noL (λi x=>X1Q.F x) λi x h _ _=>X1Q.p x h
def X9B:Con:=cQ T9q [.agg 3] .bool [(false,1)] (λa=>(Xgx a)) λa=>(X3D a)
def X2N.F(a0:X5Y):Prop:=Xgx (a0.1,a0.2.1,a0.2.2)/\∀r1,Eq r1 (X3T (a0.1,a0.2.1,a0.2.2),(),())->Eq (r1.1.2,(),()) (X3D a0,(),())
theorem X2N.p(a0:X5Y)(h:(Xgx a0))(hw:Wf X9B.A a0):X2N.F a0:=by
 unfold X2N.F;simp only[Bs,B0,B1,Yaa,X01,X3D]
 repeat' (with_reducible (first | (refine And.intro ?_ ?_) | intro _))
 all_goals (try simp (disch:=omega) only[w64,wu8,tn0,tn1,tm1,tm2,Yab,Yad,Yai]at*)
 all_goals (try simp (disch:=omega) only[w64,wu8,tn0,tn1,tm1,tm2,Yab,Yad,Yai]at*)
 all_goals (try omega)
 all_goals (try grind[])
def X2N.e:GE:=mE X9B func55 [4] [X1Q.e] [] noL (λi x=>X2N.F x) λi x h _ hw=>X2N.p x h hw
def fAt(l:List Ser)(k:List UInt8):Int:=if l.findIdx (λx=>decide (x.1=k))<l.length then((l.findIdx (λx=>decide (x.1=k)):Nat):Int) else -1
def atI(l:List Ser)(k:List UInt8)(i:Int):Prop:=0<=i/\i<=l.length/\∀j,j<i.toNat->¬(l.getD j ([],[])).1=k
def atM(l:List Ser)(k:List UInt8)(i:Int):Nat:=(l.length - i).toNat
theorem Xy7{l:List Ser}{k:List UInt8}{i:Int}(h:atI l k i)(hi:i<l.length)(hd:(l.getD i.toNat ([],[])).1=k):i=fAt l k:=by
 obtain⟨h1,h2,h3⟩:=h;have e:l.findIdx (λx=>decide (x.1=k))=i.toNat:=by
  refine(YcF (by omega)).2 ⟨by rw[X0O (by omega)]at hd;simpa using hd,λj hj=>?_⟩;have:=h3 j hj;rw[X0O (by omega)]at this;simpa using this
 unfold fAt;rw[e,Yah (by omega)];omega
theorem at_no{l:List Ser}{k:List UInt8}{i:Int}(h:atI l k i)(hi:¬i<l.length):-1=fAt l k:=by
 obtain⟨h1,h2,h3⟩:=h;have e:¬l.findIdx (λx=>decide (x.1=k))<l.length:=λhlt=>by
  have a:=Yby (w:=hlt);have b:=h3 (l.findIdx (λx=>decide (x.1=k))) (by omega);rw[X0O hlt]at b;exact b (by simpa using a)
 unfold fAt;rw[Yae e]
theorem Xq4{k:List UInt8}:∀(l:List Ser) (h:l.findIdx (λx=>decide (x.1=k))<l.length),(l[l.findIdx (λx=>decide (x.1=k))]).2=X50 l k
 | [],h=>by simp at h
 | x::l,h=>by
   rw[X3p];by_cases hx:x.1=k
   . simp[List.findIdx_cons,hx]
   . have e:(x::l).findIdx (λx=>decide (x.1=k))=l.findIdx (λx=>decide (x.1=k))+1:=by simp[List.findIdx_cons,hx]
     have h':l.findIdx (λx=>decide (x.1=k))<l.length:=by rw[e]at h;simpa using h
     simp only[e,Yae hx,List.getElem_cons_succ];exact Xq4 l h'
theorem Xyh(l:List Ser)(k:List UInt8):(fAt l k>=0->fAt l k<l.length/\(l.getD (fAt l k).toNat ([],[])).2=X50 l k)/\(¬fAt l k>=0->X50 l k=[]):=by
 unfold fAt;by_cases h:l.findIdx (λx=>decide (x.1=k))<l.length
 . rw[Yah h];refine⟨λ_=>⟨by omega,?_⟩,λh2=>absurd (by omega) h2⟩;rw[YaG,X0O h];exact Xq4 l h
 . rw[Yae h];refine⟨λh2=>absurd h2 (by decide),λ_=>Xfk ?_⟩;rw[Ybn];intro hh;obtain⟨x,hx,e⟩:=X7X.1 hh;exact h (Yc2 ⟨x,hx,by simpa using e⟩)
abbrev Str:=List UInt8
def nmP(key:Str):List Str->List Str
 | []=>[key]
 | x::l=>if Op.bytesLess key x=true then key::x::l else x::nmP key l
def XdB(l:List Str)(key:Str):List Str:=if key∈l then l else nmP key l
def Xuy(l:List Str)(key:Str):Prop:=l.length<=100000000
def Xhu(key:Str)(put:Bool)(l:List Str):List Str:=if put then l else nmP key l
structure nmI (l:List Str) (key:Str) (put:Bool) (i:Int) (out:List Str):Prop where
 h1:0<=i
 h2:i<=l.length
 h3:out++Xhu key put (l.drop i.toNat)=nmP key l
 h4:(out.length:Int)<=i+1
 h5:put=false->(out.length:Int)<=i
 h6:∀j,j<i.toNat->¬l.getD j []=key
def nmM(l:List Str)(key:Str)(put:Bool)(i:Int)(out:List Str):Nat:=(l.length - i).toNat
def nmB(l:List Str)(key:Str)(put:Bool)(i:Int)(out r:List Str):Prop:=r=l/\nmI l key put i out
def nmN(l:List Str)(key:Str)(put:Bool)(i:Int)(out r:List Str):Nat:=nmM l key put i out
theorem Xwo{l:List Str}{key:Str}{put put':Bool}{i:Int}{out o':List Str}(h:nmI l key put i out)(hi:i<l.length)(hne:¬l.getD i.toNat []=key)(hl:(o'.length:Int)<=i+2/\(put'=false->(o'.length:Int)<=i+1))(he:∀r,o'++Xhu key put' r=out++Xhu key put (l.getD i.toNat []::r)):nmI l key put' (i+1) o':=by
 obtain⟨h1,h2,h3,h4,h5,h6⟩:=h;refine⟨by omega,by omega,?_,by omega,hl.2,λj hj=>?_⟩
 . rw[tn1 h1,he,<-X3J [] (by omega)];exact h3
 . by_cases e:j=i.toNat
   . rw[e];exact hne
   . exact h6 j (by omega)
theorem nm_in{l:List Str}{key:Str}{put:Bool}{i:Int}{out:List Str}(h:nmI l key put i out)(hi:i<l.length)(he:l.getD i.toNat []=key):l=XdB l key:=by
 have h1:=h.h1;unfold XdB;rw[Yah];rw[<-he];exact X10 (by omega)
theorem XyU{l:List Str}{key:Str}{put:Bool}{i:Int}{out:List Str}(h:nmI l key put i out)(hi:¬i<l.length):(put=true->out=XdB l key)/\(put=false->out++[key]=XdB l key):=by
 obtain⟨h1,h2,h3,h4,h5,h6⟩:=h;have e:i.toNat=l.length:=by omega
 rw[e]at h6;rw[e,YbO]at h3;have hn:¬key∈l:=λhm=>by
  obtain⟨j,hj,e2⟩:=YaM hm;exact h6 j hj (by rw[X0O hj];exact e2)
 unfold XdB;rw[Yae hn];refine⟨λhp=>?_,λhp=>?_⟩
 . rw[hp]at h3;simpa [Xhu] using h3
 . rw[hp]at h3;simpa [Xhu,nmP] using h3
theorem rn_no{k x:Str}{r:List Str}(h:Op.bytesLess k x=false):Xhu k false (x::r)=x::Xhu k false r:=by simp[Xhu,nmP,h]
theorem XxQ{k x:Str}{r:List Str}(h:Op.bytesLess k x=true):Xhu k false (x::r)=k::Xhu k true (x::r):=by simp[Xhu,nmP,h]
theorem rn_t{k:Str}{r:List Str}:Xhu k true r=r:=rfl
def Xck:Con:=cQ (.pair X5C .str) [.one,.one] (.int .i64) [(false,1)] (λ_=>True) λa=>(fAt a.1 a.2)
def X57.F(a0:(List U3q))(a1:U7q):Prop:=eQ [(0,vL T5q a0),(1,vS a1)]/\atI a0 a1 0/\∀(y1:Int),atI a0 a1 y1->dC (y1<ln a0) (iB y1 a0 (X00 ((gA a0 y1 ([],[])).1==a1) (rE y1 (fAt a0 a1)) (eQ [(0,vL T5q a0),(1,vS a1)]/\atI a0 a1 (wI (y1+1))/\atM a0 a1 (wI (y1+1))<atM a0 a1 y1))) (rE (-1) (fAt a0 a1))
def X57.L(a0:(List U3q))(a1:U7q):Nat->Option X0f:=XLK [(26,⟨⟨[0,1],[5],[],[]⟩,(.int .i64),λst y=>atI a0 a1 y,λst y=>atM a0 a1 y⟩)]
theorem X57.p(a0:(List U3q))(a1:U7q)(h:True)(hw:Wf Xck.A (a0,a1)):X57.F a0 a1:=by
 delta X57.F ln wI dC eQ gA iB rE vL vS tN;simp only[Bs,B0,B1,Yaa,X01];have hl:a0.length<=9223372036854775807:=hw.1.1;refine⟨⟨by omega,by omega,λj hj=>absurd hj (by simp)⟩,?_⟩;rintro i hI;have q1:=hI.1;have q2:=hI.2.1;refine⟨λhi=>⟨q1,hi,λhd=>Xy7 hI hi hd,λhd=>?_⟩,λhi=>at_no hI hi⟩;rw[w64 (x:=i+1) (by omega) (by omega)];refine⟨⟨by omega,by omega,λj hj=>?_⟩,by unfold atM;omega⟩;by_cases e:j=i.toNat
 . rw[e];exact hd
 . exact hI.2.2 j (by omega)
def X57.e:GE:=mE Xck func123 [3] [] [] (λi x=>X57.L x.1 x.2) (λi x=>X57.F x.1 x.2) λi x h _ hw=>X57.p x.1 x.2 h hw
def Xay:Con:={A:=(.pair XfH .str),shA:=[.one,.one],ownA:=[(0,9)],R:=XfH,shR:=[(false,1)],fresh:=[(0,9)],pre:=λ_ a=>(Xuy a.1 a.2),f:=some λ_ a=>((XdB a.1 a.2),((),()))}
def X3t.F(a0:(List U7q))(a1:U7q):Prop:=eQ [(0,.val false [.own .str 1000003]),(1,vS a1)]/\nmB a0 a1 false 0 ([]:List U7q) a0/\∀(y1:Bool×Int×List U7q×List U7q),nmB a0 a1 y1.1 y1.2.1 y1.2.2.1 y1.2.2.2->dC (y1.2.1<ln y1.2.2.2) (iB y1.2.1 y1.2.2.2 (X00 (gA y1.2.2.2 y1.2.1 []==a1) (rE y1.2.2.2 (XdB a0 a1)) (X00 (!y1.1) (iB y1.2.1 y1.2.2.2 (X00 (Op.bytesLess a1 (gA y1.2.2.2 y1.2.1 [])) (lE y1.2.2.1 [a1]/\(List.length y1.2.2.1+List.length [a1])*16<=140737488355328/\iB y1.2.1 y1.2.2.2 (lE (y1.2.2.1++[a1]) ([gA y1.2.2.2 y1.2.1 []]:List U7q)/\(List.length (y1.2.2.1++[a1])+List.length ([gA y1.2.2.2 y1.2.1 []]:List U7q))*16<=140737488355328/\eQ [(0,.val false [.own .str 1000003]),(1,vS a1)]/\nmB a0 a1 true (wI (y1.2.1+1)) (y1.2.2.1++[a1]++[gA y1.2.2.2 y1.2.1 []]) y1.2.2.2/\nmN a0 a1 true (wI (y1.2.1+1)) (y1.2.2.1++[a1]++[gA y1.2.2.2 y1.2.1 []]) y1.2.2.2<nmN a0 a1 y1.1 y1.2.1 y1.2.2.1 y1.2.2.2)) (iB y1.2.1 y1.2.2.2 (lE y1.2.2.1 ([gA y1.2.2.2 y1.2.1 []]:List U7q)/\(List.length y1.2.2.1+List.length ([gA y1.2.2.2 y1.2.1 []]:List U7q))*16<=140737488355328/\eQ [(0,.val false [.own .str 1000003]),(1,vS a1)]/\nmB a0 a1 y1.1 (wI (y1.2.1+1)) (y1.2.2.1++[gA y1.2.2.2 y1.2.1 []]) y1.2.2.2/\nmN a0 a1 y1.1 (wI (y1.2.1+1)) (y1.2.2.1++[gA y1.2.2.2 y1.2.1 []]) y1.2.2.2<nmN a0 a1 y1.1 y1.2.1 y1.2.2.1 y1.2.2.2)))) (iB y1.2.1 y1.2.2.2 (lE y1.2.2.1 ([gA y1.2.2.2 y1.2.1 []]:List U7q)/\(List.length y1.2.2.1+List.length ([gA y1.2.2.2 y1.2.1 []]:List U7q))*16<=140737488355328/\eQ [(0,.val false [.own .str 1000003]),(1,vS a1)]/\nmB a0 a1 y1.1 (wI (y1.2.1+1)) (y1.2.2.1++[gA y1.2.2.2 y1.2.1 []]) y1.2.2.2/\nmN a0 a1 y1.1 (wI (y1.2.1+1)) (y1.2.2.1++[gA y1.2.2.2 y1.2.1 []]) y1.2.2.2<nmN a0 a1 y1.1 y1.2.1 y1.2.2.1 y1.2.2.2))))) (X00 (!y1.1) (lE y1.2.2.1 [a1]/\(List.length y1.2.2.1+List.length [a1])*16<=140737488355328/\rE (y1.2.2.1++[a1]) (XdB a0 a1)) (rE y1.2.2.1 (XdB a0 a1)))
def X3t.L(a0:(List U7q))(a1:U7q):Nat->Option X0f:=XLK [(122,⟨⟨[0,1],[5,6,7],[],[kC 5 0 1000643 9,kC 0 0 1000003 9]⟩,(.pair .bool (.pair (.int .i64) (.pair XfH XfH))),λst y=>nmB a0 a1 y.1 y.2.1 y.2.2.1 y.2.2.2,λst y=>nmN a0 a1 y.1 y.2.1 y.2.2.1 y.2.2.2⟩)]
theorem X3t.p(a0:(List U7q))(a1:U7q)(h:(Xuy a0 a1)):X3t.F a0 a1:=by
 delta X3t.F ln wI dC eQ gA iB lE rE vS tN;simp only[Bs,B0,B1,Yaa,X01];have hl:a0.length<=100000000:=h;refine⟨⟨rfl,⟨by omega,by omega,by simp[Xhu],by simp,by simp,λj hj=>absurd hj (by simp)⟩⟩,?_⟩;rintro⟨put,i,out,r⟩ ⟨hr,hI⟩;simp only at hr hI ⊢;subst hr;have q1:=hI.h1;have q2:=hI.h2;have q4:=hI.h4;have q5:=hI.h5;have hen:=XyU hI;refine⟨λhi=>⟨q1,hi,λhe=>nm_in hI hi he,λhe=>?_⟩,λhi=>?_⟩
 . have st:∀{put' o'},_->_->nmB r a1 put' (i+1) o' r:=λh2 h3=>⟨rfl,Xwo hI hi he h2 h3⟩
   have dn:∀o p,nmN r a1 p (i+1) o r<nmN r a1 put i out r:=λo p=>by unfold nmN nmM;omega
   generalize hx:r.getD i.toNat []=x at st ⊢;rw[w64 (x:=i+1) (by omega) (by omega)]
   repeat' (with_reducible (first | (refine And.intro ?_ ?_) | intro _))
   all_goals (try simp (disch:=omega) only[w64,Yab,Yad,Yai]at*)
   all_goals (first
    | omega
    | exact dn _ _
    | (refine st (by(try simp only[Yab,Yad,Yai]);(try have:=q5 ‹_›);(first | omega | (refine ⟨by omega,λhh=>?_⟩;first | omega | (have:=q5 hh;omega) | (exfalso;simp_all;done)))) λr=>?_;(try rw[‹put=true›]);(try rw[‹put=false›]);(try simp only[Yam,Ybc,YaV,rn_t]);first | done | rw[XxQ ‹Op.bytesLess a1 x=true›,rn_t] | rw[rn_no ‹Op.bytesLess a1 x=false›] | rfl)
    | skip)
 . repeat' (with_reducible (first | (refine And.intro ?_ ?_) | intro _))
   all_goals (try simp (disch:=omega) only[w64,Yab,Yad,Yai]at*)
   all_goals (first | omega | exact(hen hi).1 ‹_› | exact(hen hi).2 ‹_› | skip)
def X3t.e:GE:=mE Xay func149 [24] [] [] (λi x=>X3t.L x.1 x.2) (λi x=>X3t.F x.1 x.2) λi x h _ _=>X3t.p x.1 x.2 h
def Xbj(o:List Str)(l:List Ser):List Str:=l.foldl (λo x=>XdB o x.1) o
def X95(ls:List (List Ser)):List Str:=ls.foldl Xbj []
def Xur(ls:List (List Ser)):Prop:=cL tot ls<=10000000
theorem XlP(ls:List (List Ser)):0<=cL tot ls:=X4c XeD ls
theorem Xq2{ls:List (List Ser)}:∀{i:Nat},i<ls.length->tot (ls.getD i [])+cL tot (ls.take i)<=cL tot ls:=λ{i} hi=>by
 have a:=(X5w tot [] hi).2;have b:=XlP (ls.drop (i+1));omega
theorem XkK(k:Str):∀l,(nmP k l).length=l.length+1
 | []=>rfl
 | x::l=>by rw[nmP];split<;>simp[XkK k l]
theorem XhL(l:List Str)(k:Str):(XdB l k).length<=l.length+1:=by
 unfold XdB;split
 . omega
 . rw[XkK];omega
theorem XgC:∀(l:List Ser) (o:List Str),(Xbj o l).length<=o.length+l.length
 | [],o=>by simp[Xbj]
 | x::l,o=>by
   have h1:=XgC l (XdB o x.1);have h2:=XhL o x.1;show(Xbj (XdB o x.1) l).length<=_;rw[Yad];omega
structure kyI (ls:List (List Ser)) (i:Int) (out:List Str):Prop where
 h1:0<=i
 h2:i<=ls.length
 h3:out=X95 (ls.take i.toNat)
 h4:(out.length:Int)<=cL tot (ls.take i.toNat)
def kyM(ls:List (List Ser))(i:Int)(out:List Str):Nat:=(ls.length - i).toNat
structure kzI (ls:List (List Ser)) (i k:Int) (out:List Str):Prop where
 h1:0<=i
 h2:i<ls.length
 h3:0<=k
 h4:k<=(ls.getD i.toNat []).length
 h5:out=Xbj (X95 (ls.take i.toNat)) ((ls.getD i.toNat []).take k.toNat)
 h6:(out.length:Int)<=cL tot (ls.take i.toNat)+k
def kzM(ls:List (List Ser))(i k:Int)(out:List Str):Nat:=((ls.getD i.toNat []).length - k).toNat
theorem Xwg{ls:List (List Ser)}{i:Int}{out:List Str}(h:kyI ls i out)(hi:i<ls.length):kzI ls i 0 out:=by
 obtain⟨h1,h2,h3,h4⟩:=h;exact⟨h1,hi,by omega,by omega,by simpa [Xbj] using h3,by omega⟩
theorem Xx4{ls:List (List Ser)}{k i:Int}{out:List Str}(h:kzI ls i k out)(hk:k<(ls.getD i.toNat []).length):kzI ls i (k+1) (XdB out ((ls.getD i.toNat []).getD k.toNat ([],[])).1):=by
 obtain⟨h1,h2,h3,h4,h5,h6⟩:=h;have:=XhL out ((ls.getD i.toNat []).getD k.toNat ([],[])).1;refine⟨h1,h2,by omega,by omega,?_,by omega⟩;rw[tn1 h3,X0M ([],[]) (by omega),h5];simp only[Xbj,YbH,Ybr,YcL]
theorem Xy0{ls:List (List Ser)}{k i:Int}{out:List Str}(h:kzI ls i k out)(hk:¬k<(ls.getD i.toNat []).length):kyI ls (i+1) out:=by
 obtain⟨h1,h2,h3,h4,h5,h6⟩:=h;have e:k.toNat=(ls.getD i.toNat []).length:=by omega
 have a:=(X5w tot [] (by omega:i.toNat<ls.length)).1;have b:=Xbc (ls.getD i.toNat []);rw[e,Yat]at h5;refine⟨by omega,by omega,?_,by rw[tn1 h1,a];omega⟩;rw[tn1 h1,X0M [] (by omega),h5];simp only[X95,YbH,Ybr,YcL]
theorem Xyb{ls:List (List Ser)}{i:Int}{out:List Str}(h:kyI ls i out)(hi:¬i<ls.length):out=X95 ls:=by
 obtain⟨h1,h2,h3,h4⟩:=h;rw[h3,show i.toNat=ls.length by omega,Yat]
def XaB:Con:=cW (.list X5C) [.one] XfH [(false,1)] [(0,9)] (λa=>(Xur a)) λa=>(X95 a)
def X3q.F(a0:(List (List U3q))):Prop:=eQ [(0,vL X5C a0)]/\kyI a0 0 ([]:List U7q)/\∀(y1:Int×List U7q),kyI a0 y1.1 y1.2->dC (y1.1<ln a0) (eQ [(0,vL X5C a0),(4,vI y1.1)]/\kzI a0 y1.1 0 y1.2/\∀(y2:Int×List U7q),kzI a0 y1.1 y2.1 y2.2->iB y1.1 a0 (dC (y2.1<ln (gA a0 y1.1 [])) (iB y1.1 a0 (iB y2.1 (gA a0 y1.1 []) (Xuy y2.2 (gA (gA a0 y1.1 []) y2.1 ([],[])).1/\∀r3,rU r3 (XdB y2.2 (gA (gA a0 y1.1 []) y2.1 ([],[])).1)->eQ [(0,vL X5C a0),(4,vI y1.1)]/\kzI a0 y1.1 (wI (y2.1+1)) r3.1/\kzM a0 y1.1 (wI (y2.1+1)) r3.1<kzM a0 y1.1 y2.1 y2.2))) (eQ [(0,vL X5C a0)]/\kyI a0 (wI (y1.1+1)) y2.2/\kyM a0 (wI (y1.1+1)) y2.2<kyM a0 y1.1 y1.2))) (rE y1.2 (X95 a0))
def X3q.L(a0:(List (List U3q))):Nat->Option X0f:=XLK [(58,⟨⟨[0],[3,4],[],[kC 3 0 1000387 9]⟩,(.pair (.int .i64) XfH),λst y=>kyI a0 y.1 y.2,λst y=>kyM a0 y.1 y.2⟩),(3730,⟨⟨[0,4],[3,5],[],[kC 3 0 1000387 9]⟩,(.pair (.int .i64) XfH),λst y=>kzI a0 (Xvd (Xi2 st 4 0)) y.1 y.2,λst y=>kzM a0 (Xvd (Xi2 st 4 0)) y.1 y.2⟩)]
theorem X3q.p(a0:(List (List U3q)))(h:(Xur a0))(hw:Wf XaB.A a0):X3q.F a0:=by
 delta X3q.F ln wI dC eQ gA iB rE rU vI vL tN;simp only[Bs,B0,B1,Yaa,X01,Xuy];have hn:cL tot a0<=10000000:=h;have hl:a0.length<=9223372036854775807:=hw.1;refine⟨⟨by omega,by omega,rfl,by simp[cL]⟩,?_⟩;rintro⟨i,out⟩ hI;simp only at hI ⊢;have q1:=hI.h1;have q2:=hI.h2;refine⟨λhi=>⟨Xwg hI hi,?_⟩,λhi=>Xyb hI hi⟩;rintro⟨k,o⟩ hK;simp only at hK ⊢;have z3:=hK.h3;have z4:=hK.h4;have z6:=hK.h6;have hb:=Xq2 (ls:=a0) (i:=i.toNat) (by omega);have hb2:=Xbc (a0.getD i.toNat []);have hb3:=XlP (a0.take i.toNat);refine⟨q1,hi,λhk=>?_,λhk=>?_⟩
 . rw[w64 (x:=k+1) (by omega) (by omega)];exact⟨q1,hi,z3,hk,by omega,Xx4 hK hk,by unfold kzM;omega⟩
 . rw[w64 (x:=i+1) (by omega) (by omega)];exact⟨Xy0 hK hk,by unfold kyM;omega⟩
def X3q.e:GE:=mE XaB func110 [24] [X3t.e] [] (λi x=>X3q.L x) (λi x=>X3q.F x) λi x h _ hw=>X3q.p x h hw
def Xw3(f:Str):Bool:=(X0m f).2
def Xiq(e:Eng):List (List Ser)×Bool:=if okF e.2.2=true then(Xbk e.2.2++[e.2.1],true) else(Xbk (e.2.2.takeWhile Xw3),false)
def Xtk(e:Eng):Prop:=(∀f∈e.2.2,Xoe f)/\e.2.2.length<=1000
structure lyI (e:Eng) (out:List (List Ser)) (i:Int) (fl:Int) (ca:List Ser) (fi:List Str):Prop where
 h0:((fl,(ca,fi)):Eng)=e
 h1:0<=i
 h2:i<=e.2.2.length
 h3:out=Xbk (e.2.2.take i.toNat)
 h4:∀j,j<i.toNat->Xw3 (e.2.2.getD j [])=true
def lyM(e:Eng)(out:List (List Ser))(i:Int)(fl:Int)(ca:List Ser)(fi:List Str):Nat:=(e.2.2.length - i).toNat
theorem Xk2(l:List Str):(Xbk l).length=l.length:=by simp[Xbk]
theorem Xt0{e:Eng}{i fl:Int}{ca:List Ser}{fi:List Str}{out:List (List Ser)}(h:lyI e out i fl ca fi)(hi:i<e.2.2.length)(hr:(X0m (e.2.2.getD i.toNat [])).2=true):lyI e (out++[(X0m (e.2.2.getD i.toNat [])).1]) (i+1) fl ca fi:=by
 obtain⟨h0,h1,h2,h3,h4⟩:=h;refine⟨h0,by omega,by omega,?_,λj hj=>?_⟩
 . rw[tn1 h1,X0M [] (by omega),h3];simp[Xbk]
 . by_cases ej:j=i.toNat
   . rw[ej];exact hr
   . exact h4 j (by omega)
theorem Xi0{p:Str->Bool}:∀{l:List Str} {i:Nat},i<l.length->(∀j,j<i->p (l.getD j [])=true)->p (l.getD i [])=false->l.takeWhile p=l.take i
 | [],i,h,_,_=>by simp at h
 | x::l,0,h,_,h2=>by
   have:p x=false:=by simpa using h2
   simp[YbF,this]
 | x::l,i+1,h,h1,h2=>by
   have h0:p x=true:=by simpa using h1 0 (by omega)
   rw[YbF,Yah h0,Yb1,Xi0 (l:=l) (i:=i) (by simpa using h) (λj hj=>by simpa using h1 (j+1) (by omega)) (by simpa using h2)]
theorem Xy1{e:Eng}{i fl:Int}{ca:List Ser}{fi:List Str}{out:List (List Ser)}(h:lyI e out i fl ca fi)(hi:i<e.2.2.length)(hr:(X0m (e.2.2.getD i.toNat [])).2=false):(out,false)=Xiq e:=by
 obtain⟨h0,h1,h2,h3,h4⟩:=h;have hm:=X10 (d:=([]:Str)) (by omega:i.toNat<e.2.2.length);unfold Xiq;rw[Yae (λhh=>by have:=Ya7.1 hh _ hm;rw[hr]at this;cases this),Xi0 (p:=Xw3) (by omega) h4 hr,h3]
theorem XvT{e:Eng}{i fl:Int}{ca:List Ser}{fi:List Str}{out:List (List Ser)}(h:lyI e out i fl ca fi)(hi:¬i<e.2.2.length):(out++[e.2.1],true)=Xiq e:=by
 obtain⟨h0,h1,h2,h3,h4⟩:=h;have e1:i.toNat=e.2.2.length:=by omega
 rw[e1]at h4;rw[e1,Yat]at h3;unfold Xiq;rw[Yah,h3];refine Ya7.2 λf hf=>?_;obtain⟨j,hj,e2⟩:=YaM hf;have:=h4 j hj;rw[X0O hj,e2]at this;exact this
def X7Y:Con:=cQ T9q [.agg 3] (.pair (.list X5C) .bool) [(false,1),(false,1)] (λa=>(Xtk a)) λa=>(Xiq a)
def X12.F(a0:X5Y):Prop:=eQ [(1,.box 2 0)]/\lyI a0 ([]:List (List U3q)) 0 a0.1 a0.2.1 a0.2.2/\∀(y1:List (List U3q)×Int×X5Y),lyI a0 y1.1 y1.2.1 y1.2.2.1 y1.2.2.2.1 y1.2.2.2.2->dC (y1.2.1<ln y1.2.2.2.2) (iB y1.2.1 y1.2.2.2.2 (Xoe (gA y1.2.2.2.2 y1.2.1 [])/\∀r2,rU r2 (X0m (gA y1.2.2.2.2 y1.2.1 []))->X00 (!r2.1.2) (rE (y1.1,false) (Xiq a0)) (lE y1.1 [r2.1.1]/\(List.length y1.1+List.length [r2.1.1])*24<=140737488355328/\eQ [(1,.box 2 0)]/\lyI a0 (y1.1++[r2.1.1]) (wI (y1.2.1+1)) y1.2.2.1 y1.2.2.2.1 y1.2.2.2.2/\lyM a0 (y1.1++[r2.1.1]) (wI (y1.2.1+1)) y1.2.2.1 y1.2.2.2.1 y1.2.2.2.2<lyM a0 y1.1 y1.2.1 y1.2.2.1 y1.2.2.2.1 y1.2.2.2.2))) (lE y1.1 [y1.2.2.2.1]/\(List.length y1.1+List.length [y1.2.2.2.1])*24<=140737488355328/\rE (y1.1++[y1.2.2.2.1],true) (Xiq a0))
def X12.L(a0:X5Y):Nat->Option X0f:=XLK [(58,⟨⟨[1],[4,5],[2],[kD 4 0 1000515 35]⟩,(.pair (.list X5C) (.pair (.int .i64) T9q)),λst y=>lyI a0 y.1 y.2.1 y.2.2.1 y.2.2.2.1 y.2.2.2.2,λst y=>lyM a0 y.1 y.2.1 y.2.2.1 y.2.2.2.1 y.2.2.2.2⟩)]
theorem X12.p(a0:X5Y)(h:(Xtk a0)):X12.F a0:=by
 delta X12.F ln wI dC eQ gA iB lE rE rU tN;simp only[Bs,B0,B1,Yaa,X01,Yay];obtain⟨hf,hl⟩:=h;refine⟨⟨rfl,by omega,by omega,by simp[Xbk],λj hj=>absurd hj (by simp)⟩,?_⟩;rintro⟨out,i,fl,ca,fi⟩ hI;simp only at hI ⊢;have q1:=hI.h1;have q2:=hI.h2;have q3:=Ybh List.length hI.h3;rw[Xk2,Yal]at q3;have st:=Xt0 hI;have no:=Xy1 hI;have en:=XvT hI;obtain rfl:=hI.h0;simp only at hf hl q2 q3 st no en ⊢;refine⟨λhi=>?_,λhi=>⟨by omega,by omega,en hi⟩⟩;have hm:=X10 (d:=([]:List UInt8)) (by omega:i.toNat<fi.length);rw[w64 (x:=i+1) (by omega) (by omega)];exact⟨q1,hi,hf _ hm,λhr=>no hi hr,λhr=>⟨by omega,by omega,st hi hr,by unfold lyM;simp only;omega⟩⟩
def X12.e:GE:=mE X7Y func76 [116,4] [X3j.e] [] (λi x=>X12.L x) (λi x=>X12.F x) λi x h _ _=>X12.p x h
def Xby(ls:List (List Ser))(f:Int)(k:Str):List Pt:=X25 (XvU ls k) f 1099511627777
def XoR(ls:List (List Ser))(f:Int)(k:Str):Prop:=cL tot ls<=10000000
structure hsI (ls:List (List Ser)) (f:Int) (k:Str) (i:Int) (out:List Pt):Prop where
 h1:0<=i
 h2:i<=ls.length
 h3:out=XvU (ls.take i.toNat) k
 h4:(out.length:Int)<=cL tot (ls.take i.toNat)
def hsM(ls:List (List Ser))(f:Int)(k:Str)(i:Int)(out:List Pt):Nat:=(ls.length - i).toNat
theorem XrU{ls:List (List Ser)}{f:Int}{k:Str}{i:Int}{out o':List Pt}(h:hsI ls f k i out)(hi:i<ls.length)(ho:o'=X4r out (X50 (ls.getD i.toNat []) k))(hl:(X50 (ls.getD i.toNat []) k).length<=tot (ls.getD i.toNat [])):hsI ls f k (i+1) o':=by
 obtain⟨h1,h2,h3,h4⟩:=h;have a:=(X5w tot [] (by omega:i.toNat<ls.length)).1;have b:=XdK (X50 (ls.getD i.toNat []) k) out;refine⟨by omega,by omega,?_,by rw[tn1 h1,a,ho];omega⟩;rw[tn1 h1,X0M [] (by omega),ho,h3];simp only[XvU,YbH,Ybr,YcL]
theorem Xoq(l:List Ser)(k:Str):((X50 l k).length:Int)<=tot l:=by
 induction l with
 | nil=>simp[XmH,tot,cL]
 | cons x l ih=>
   have h1:tot (x::l)=cS x+tot l:=X4C ..;have h2:cS x=(x.2.length:Int)+1:=rfl;have h3:=XeD l;rw[X3p];split<;>omega
theorem XxT{ls:List (List Ser)}{f:Int}{k:Str}{i:Int}{out:List Pt}(h:hsI ls f k i out)(hi:¬i<ls.length):X25 out f 1099511627777=Xby ls f k/\(out.length:Int)<=cL tot ls:=by
 obtain⟨h1,h2,h3,h4⟩:=h;rw[show i.toNat=ls.length by omega,Yat]at h3 h4;exact⟨by rw[h3];rfl,h4⟩
def Xqf(ls:List (List Ser))(f:Int):List Ser:=((X95 ls).map λk=>(k,Xby ls f k)).filter λx=>!x.2.isEmpty
def Xrv(ls:List (List Ser))(f:Int):Prop:=cL tot ls<=10000000
structure psI (ls:List (List Ser)) (f i:Int) (out:List Ser):Prop where
 h1:0<=i
 h2:i<=(X95 ls).length
 h3:out=(((X95 ls).take i.toNat).map λk=>(k,Xby ls f k)).filter λx=>!x.2.isEmpty
 h4:(out.length:Int)<=i
def psM(ls:List (List Ser))(f i:Int)(out:List Ser):Nat:=((X95 ls).length - i).toNat
theorem Xym{ls:List (List Ser)}{f i:Int}{out:List Ser}(h:psI ls f i out)(hi:i<(X95 ls).length)(hn:0<(Xby ls f ((X95 ls).getD i.toNat [])).length):psI ls f (i+1) (out++[((X95 ls).getD i.toNat [],Xby ls f ((X95 ls).getD i.toNat []))]):=by
 obtain⟨h1,h2,h3,h4⟩:=h;refine⟨by omega,by omega,?_,by simp;omega⟩;rw[tn1 h1,X0M [] (by omega),Ya8,Ya2,<-h3];generalize (X95 ls).getD i.toNat []=x at*;have:(Xby ls f x).isEmpty=false:=by
  cases e:Xby ls f x with
  | nil=>rw[e]at hn;simp at hn
  | cons=>rfl
 simp[this]
theorem ps_no{ls:List (List Ser)}{f i:Int}{out:List Ser}(h:psI ls f i out)(hi:i<(X95 ls).length)(hn:¬0<(Xby ls f ((X95 ls).getD i.toNat [])).length):psI ls f (i+1) out:=by
 obtain⟨h1,h2,h3,h4⟩:=h;refine⟨by omega,by omega,?_,by omega⟩;rw[tn1 h1,X0M [] (by omega),Ya8,Ya2,<-h3];generalize (X95 ls).getD i.toNat []=x at*;have:Xby ls f x=[]:=YaL.1 (by omega);simp[this]
theorem XyP{ls:List (List Ser)}{f i:Int}{out:List Ser}(h:psI ls f i out)(hi:¬i<(X95 ls).length):out=Xqf ls f:=by
 obtain⟨h1,h2,h3,h4⟩:=h;rw[h3,show i.toNat=(X95 ls).length by omega,Yat];rfl
theorem XoS(ls:List (List Ser)):((X95 ls).length:Int)<=cL tot ls:=by
 have:∀(ls:List (List Ser)) (o:List Str),((ls.foldl Xbj o).length:Int)<=o.length+cL tot ls:=by
  intro ls
  induction ls with
  | nil=>intro o;simp[cL]
  | cons t ls ih=>
    intro o;have h1:=ih (Xbj o t);have h2:=XgC t o;have h3:=Xbc t;rw[Ybr,X4C];omega
 have h:=this ls [];simpa [X95] using h
def Xbr:Con:=cW (.pair (.list X5C) (.pair (.int .i64) .str)) [.one,.one,.one] X7N [(false,1)] [(0,112)] (λa=>(XoR a.1 a.2.1 a.2.2)) λa=>(Xby a.1 a.2.1 a.2.2)
def X3l.F(a0:(List (List U3q)))(a1:Int)(a2:U7q):Prop:=eQ [(0,vL X5C a0),(1,vI a1),(2,vS a2)]/\hsI a0 a1 a2 0 ([]:List (Int×Int))/\∀(y1:Int×U8q),hsI a0 a1 a2 y1.1 y1.2->dC (y1.1<ln a0) (iB y1.1 a0 (True/\∀r2,rU r2 (fAt (gA a0 y1.1 []) a2)->dC (r2.1>=0) (iB y1.1 a0 (iB r2.1 (gA a0 y1.1 []) (Xn1 y1.2 (gA (gA a0 y1.1 []) r2.1 ([],[])).2/\∀r3,rU r3 (XlO y1.2 (gA (gA a0 y1.1 []) r2.1 ([],[])).2)->eQ [(0,vL X5C a0),(1,vI a1),(2,vS a2)]/\hsI a0 a1 a2 (wI (y1.1+1)) r3.1/\hsM a0 a1 a2 (wI (y1.1+1)) r3.1<hsM a0 a1 a2 y1.1 y1.2))) (eQ [(0,vL X5C a0),(1,vI a1),(2,vS a2)]/\hsI a0 a1 a2 (wI (y1.1+1)) y1.2/\hsM a0 a1 a2 (wI (y1.1+1)) y1.2<hsM a0 a1 a2 y1.1 y1.2))) (X8L y1.2 a1 1099511627777/\∀r4,rU r4 (X25 y1.2 a1 1099511627777)->rE r4.1 (Xby a0 a1 a2))
def X3l.L(a0:(List (List U3q)))(a1:Int)(a2:U7q):Nat->Option X0f:=XLK [(58,⟨⟨[0,1,2],[7,8],[],[kC 7 0 1000899 112]⟩,Xoh,λst y=>hsI a0 a1 a2 y.1 y.2,λst y=>hsM a0 a1 a2 y.1 y.2⟩)]
theorem X3l.p(a0:(List (List U3q)))(a1:Int)(a2:U7q)(h:(XoR a0 a1 a2))(hw:Wf Xbr.A (a0,a1,a2)):X3l.F a0 a1 a2:=by
 delta X3l.F ln wI dC eQ gA iB rE rU vI vL vS tN;simp only[Bs,B0,B1,Yaa,X01,Xn1,XlO,X8L];have hn:cL tot a0<=10000000:=h;have hl:a0.length<=9223372036854775807:=hw.1.1;refine⟨⟨by omega,by omega,rfl,by simp[cL]⟩,?_⟩;rintro⟨i,out⟩ hI;simp only at hI ⊢;have q1:=hI.h1;have q2:=hI.h2;have q4:=hI.h4;refine⟨λhi=>?_,λhi=>?_⟩
 . obtain⟨a1',a2'⟩:=Xyh (a0.getD i.toNat []) a2;have b1:=Xoq (a0.getD i.toNat []) a2;have b2:=Xq2 (ls:=a0) (i:=i.toNat) (by omega);have b3:=XlP (a0.take i.toNat);have b4:=XeD (a0.getD i.toNat []);rw[w64 (x:=i+1) (by omega) (by omega)];refine⟨q1,hi,λh3=>?_,λh3=>⟨XrU hI hi (by rw[a2' h3,Xgg]) b1,by unfold hsM;omega⟩⟩;obtain⟨c1,c2⟩:=a1' h3;rw[c2];exact⟨q1,hi,by omega,c1,⟨by omega,by omega⟩,XrU hI hi rfl b1,by unfold hsM;omega⟩
 . obtain⟨e1,e2⟩:=XxT hI hi;exact⟨by omega,e1⟩
def X3l.e:GE:=mE Xbr func84 [113] [X2w.e,X57.e,X2X.e] [] (λi x=>X3l.L x.1 x.2.1 x.2.2) (λi x=>X3l.F x.1 x.2.1 x.2.2) λi x h _ hw=>X3l.p x.1 x.2.1 x.2.2 h hw
def X9K:Con:=cQ (.pair (.list X5C) (.int .i64)) [.one,.one] X5C [(false,1)] (λa=>(Xrv a.1 a.2)) λa=>(Xqf a.1 a.2)
def X1I.F(a0:(List (List U3q)))(a1:Int):Prop:=Xur a0/\∀r1,rU r1 (X95 a0)->eQ [(0,vL X5C a0),(1,vI a1),(6,vL .str r1.1)]/\psI a0 a1 0 ([]:List U3q)/\∀(y2:Int×List U3q),psI a0 a1 y2.1 y2.2->dC (y2.1<ln r1.1) (iB y2.1 r1.1 (XoR a0 a1 (gA r1.1 y2.1 [])/\∀r3,rU r3 (Xby a0 a1 (gA r1.1 y2.1 []))->dC (ln r3.1>0) (iB y2.1 r1.1 (lE y2.2 ([(gA r1.1 y2.1 [],r3.1)]:List U3q)/\(List.length y2.2+List.length ([(gA r1.1 y2.1 [],r3.1)]:List U3q))*40<=140737488355328/\eQ [(0,vL X5C a0),(1,vI a1),(6,vL .str r1.1)]/\psI a0 a1 (wI (y2.1+1)) (y2.2++[(gA r1.1 y2.1 [],r3.1)])/\psM a0 a1 (wI (y2.1+1)) (y2.2++[(gA r1.1 y2.1 [],r3.1)])<psM a0 a1 y2.1 y2.2)) (eQ [(0,vL X5C a0),(1,vI a1),(6,vL .str r1.1)]/\psI a0 a1 (wI (y2.1+1)) y2.2/\psM a0 a1 (wI (y2.1+1)) y2.2<psM a0 a1 y2.1 y2.2))) (rE y2.2 (Xqf a0 a1))
def X1I.L(a0:(List (List U3q)))(a1:Int):Nat->Option X0f:=XLK [(122,⟨⟨[0,1,6],[5,7],[],[kC 5 0 1000643 115]⟩,(.pair (.int .i64) X5C),λst y=>psI a0 a1 y.1 y.2,λst y=>psM a0 a1 y.1 y.2⟩)]
theorem X1I.p(a0:(List (List U3q)))(a1:Int)(h:(Xrv a0 a1)):X1I.F a0 a1:=by
 delta X1I.F ln wI dC eQ gA iB lE rE rU vI vL tN;simp only[Bs,B0,B1,Yaa,X01,Xur,XoR];have hn:cL tot a0<=10000000:=h;have hk:=XoS a0;refine⟨hn,⟨by omega,by omega,rfl,by simp⟩,?_⟩;rintro⟨i,out⟩ hI;simp only at hI ⊢;have q1:=hI.h1;have q2:=hI.h2;have q4:=hI.h4;refine⟨λhi=>?_,λhi=>XyP hI hi⟩;rw[w64 (x:=i+1) (by omega) (by omega)];refine⟨q1,hi,hn,λh3=>⟨q1,hi,by omega,by omega,Xym hI hi (by omega),by unfold psM;omega⟩,λh3=>⟨ps_no hI hi (by omega),by unfold psM;omega⟩⟩
def X1I.e:GE:=mE X9K func77 [35] [X3l.e,X3q.e] [] (λi x=>X1I.L x.1 x.2) (λi x=>X1I.F x.1 x.2) λi x h _ _=>X1I.p x.1 x.2 h
def X9e:Con:=cQ X5C [.one] (.int .i64) [(false,1)] (λa=>(Xqa a)) λa=>(XfC a)
def X2e.F(a0:(List U3q)):Prop:=eQ [(0,vL T5q a0)]/\cnI a0 0 0/\∀(y1:Int×Int),cnI a0 y1.1 y1.2->dC (y1.2<ln a0) (iB y1.2 a0 (eQ [(0,vL T5q a0)]/\cnI a0 (wI (y1.1+ln (gA a0 y1.2 ([],[])).2)) (wI (y1.2+1))/\cnM a0 (wI (y1.1+ln (gA a0 y1.2 ([],[])).2)) (wI (y1.2+1))<cnM a0 y1.1 y1.2)) (rE y1.1 (XfC a0))
def X2e.L(a0:(List U3q)):Nat->Option X0f:=XLK [(58,⟨⟨[0],[3,4],[],[]⟩,T0q,λst y=>cnI a0 y.1 y.2,λst y=>cnM a0 y.1 y.2⟩)]
theorem X2e.p(a0:(List U3q))(h:(Xqa a0)):X2e.F a0:=by
 delta X2e.F ln wI dC eQ gA iB rE vL tN;simp only[Bs,B0,B1,Yaa,X01];have hn:tot a0<=100000000:=h;have k0:=XlB a0;have k1:=Xbc a0;refine⟨⟨by omega,by omega,by simp[XfC,cL]⟩,?_⟩;rintro⟨n,i⟩ hI;simp only at hI ⊢;have q1:=hI.1;have q2:=hI.2.1;refine⟨λhi=>?_,λhi=>Xvf hI hi⟩;have k2:=XyQ hI hi;have st:=XsD hI hi;rw[w64 (x:=i+1) (by omega) (by omega),w64 (by omega) (by omega)];exact⟨q1,hi,st,by unfold cnM;omega⟩
def X2e.e:GE:=mE X9e func75 [3] [] [] (λi x=>X2e.L x) (λi x=>X2e.F x) λi x h _ _=>X2e.p x h
theorem Xtr{k:Str}:∀{l:List Str},Asc Op.bytesLess id l->(∀x∈l,x≠k)->Asc Op.bytesLess id (nmP k l)
 | [],_,_=>YcO _ _
 | x::l,h,hn=>by
   obtain⟨h1,h2⟩:=YaT.1 h;rw[nmP];split
   . rename_i hx;refine YaT.2 ⟨λy hy=>?_,h⟩;rcases Yak.1 hy with rfl | hy
     . exact hx
     . exact X71.tr _ _ _ hx (h1 y hy)
   . rename_i hx;have hxk:Op.bytesLess x k=true:=by
      rcases X71.tri x k with h3 | h3 | h3
      . exact h3
      . exact absurd h3 (hn x (by simp))
      . exact absurd h3 hx
     refine YaT.2 ⟨λy hy=>?_,Xtr h2 λz hz=>hn z (by simp[hz])⟩;have hy':y=k\/y∈l:=by
      clear h hn h1 h2 hx hxk
      induction l with
      | nil=>exact .inl (by simpa [nmP] using hy)
      | cons z l ih=>
        rw[nmP]at hy;split at hy
        . rcases Yak.1 hy with e | hy
          . exact .inl e
          . exact .inr hy
        . rcases Yak.1 hy with e | hy
          . exact .inr (by simp[e])
          . rcases ih hy with e | h
            . exact .inl e
            . exact .inr (by simp[h])
     rcases hy' with rfl | hy'
     . exact hxk
     . exact h1 y hy'
theorem Xt9{k x:Str}:∀{l:List Str},x∈nmP k l↔x=k\/x∈l
 | []=>by simp[nmP]
 | z::l=>by
   rw[nmP];split
   . simp
   . simp only[Yak,Xt9 (l:=l)];constructor
     . rintro (h | h | h)
       . exact .inr (.inl h)
       . exact .inl h
       . exact .inr (.inr h)
     . rintro (h | h | h)
       . exact .inr (.inl h)
       . exact .inl h
       . exact .inr (.inr h)
theorem Xr2{l:List Str}(h:Asc Op.bytesLess id l)(k:Str):Asc Op.bytesLess id (XdB l k)/\∀x,x∈XdB l k↔x∈l\/x=k:=by
 unfold XdB;split
 . rename_i hk;exact⟨h,λx=>⟨.inl,λhx=>hx.elim id λe=>e▸hk⟩⟩
 . rename_i hk;refine⟨Xtr h λx hx e=>hk (e▸hx),λx=>?_⟩;rw[Xt9];exact Or.comm
theorem Xje:∀(l:List Ser) (o:List Str),Asc Op.bytesLess id o->Asc Op.bytesLess id (Xbj o l)/\∀x,x∈Xbj o l↔x∈o\/X99 l x=true
 | [],o,h=>⟨h,λx=>by simp[Xbj,X99]⟩
 | s::l,o,h=>by
   obtain⟨a1,a2⟩:=Xr2 h s.1;obtain⟨b1,b2⟩:=Xje l _ a1;refine⟨b1,λx=>?_⟩;show x∈Xbj (XdB o s.1) l↔_;rw[b2,a2,X9w,Ya5,Yaj];constructor
   . rintro ((h | h) | h)
     . exact .inl h
     . exact .inr (.inl h.symm)
     . exact .inr (.inr h)
   . rintro (h | h | h)
     . exact .inl (.inl h)
     . exact .inl (.inr h.symm)
     . exact .inr h
theorem XqD(ls:List (List Ser)):Asc Op.bytesLess id (X95 ls)/\∀x,x∈X95 ls↔∃l∈ls,X99 l x=true:=by
 have:∀(ls:List (List Ser)) (o:List Str),Asc Op.bytesLess id o->Asc Op.bytesLess id (ls.foldl Xbj o)/\∀x,x∈ls.foldl Xbj o↔x∈o\/∃l∈ls,X99 l x=true:=by
  intro ls
  induction ls with
  | nil=>intro o h;exact⟨h,λx=>by simp⟩
  | cons t ls ih=>
    intro o h;obtain⟨a1,a2⟩:=Xje t o h;obtain⟨b1,b2⟩:=ih _ a1;refine⟨b1,λx=>?_⟩;rw[Ybr,b2,a2];constructor
    . rintro ((h | h) | ⟨l,h1,h2⟩)
      . exact .inl h
      . exact .inr ⟨t,by simp,h⟩
      . exact .inr ⟨l,by simp[h1],h2⟩
    . rintro (h | ⟨l,h1,h2⟩)
      . exact .inl (.inl h)
      . rcases Yak.1 h1 with rfl | h1
        . exact .inl (.inr h2)
        . exact .inr ⟨l,h1,h2⟩
 obtain⟨a,b⟩:=this ls [] List.Pairwise.nil;exact⟨a,λx=>by rw[show X95 ls=ls.foldl Xbj [] from rfl,b];simp⟩
theorem Xyu(g:Str->List Pt):∀{ks:List Str},Asc Op.bytesLess id ks->let L:=(ks.map λk=>(k,g k)).filter λx:Ser=>!x.2.isEmpty
 Xht L/\∀k,X99 L k=(decide (k∈ks)&&!(g k).isEmpty)/\X50 L k=if k∈ks then g k else []
 | [],_=>⟨List.Pairwise.nil,λk=>⟨rfl,rfl⟩⟩
 | x::ks,h=>by
   obtain⟨h1,h2⟩:=YaT.1 h;obtain⟨a1,a2⟩:=Xyu g h2;have hx:x∉ks:=λhm=>by have:=h1 x hm;simp only[id]at this;rw[X71.irr]at this;cases this
   simp only[Yas,Yc1];cases he:(g x).isEmpty with
   | true=>
     refine⟨a1,λk=>?_⟩;obtain⟨b1,b2⟩:=a2 k;by_cases hk:k=x
     . subst hk;have hg:g k=[]:=Yc4.1 he;simp[b1,b2,hx,hg]
     . simp[b1,b2,hk]
   | false=>
     refine⟨YaT.2 ⟨λy hy=>?_,a1⟩,λk=>?_⟩
     . obtain⟨z,hz,e⟩:=YaN.1 (YbA.1 hy).1;rw[<-e];exact h1 z hz
     . obtain⟨b1,b2⟩:=a2 k;simp only[Bool.not_false,Yci,X9w,X3p,b1,b2];by_cases hk:x=k
       . subst hk;simp[he]
       . have:¬k=x:=λe=>hk e.symm;simp[hk,this]
theorem Xu8(ls:List (List Ser))(l:List Ser)(k:Str):XvU (ls++[l]) k=X4r (XvU ls k) (X50 l k):=by simp[XvU,YbH]
theorem XwA{ls:List (List Ser)}{k:Str}(h:∀l∈ls,X99 l k=false):XvU ls k=[]:=by
 have:∀(ls:List (List Ser)) (o:List Pt),(∀l∈ls,X99 l k=false)->ls.foldl (λo l=>X4r o (X50 l k)) o=o:=by
  intro ls
  induction ls with
  | nil=>intro o _;rfl
  | cons t ls ih=>
    intro o h;rw[Ybr,Xfk (h t (by simp)),Xgg];exact ih o λl hl=>h l (by simp[hl])
 exact this ls [] h
theorem XtH{ls:List (List Ser)}(h:∀l∈ls,Xdr l)(f:Int):Xqf ls f=X15 (X4x ls) f:=by
 obtain⟨k1,k2⟩:=XqD ls;obtain⟨a1,a2⟩:=Xyu (Xby ls f) k1;have hR:Xdr (X4x ls):=XdW ls [] Xgv h;have hp:∀k,X50 (X4x ls) k=XvU ls k:=λk=>by rw[X4x,Xhr ls [] Xgv h];rfl
 have hno:∀k,k∉X95 ls->Xby ls f k=[]:=λk hk=>by
  unfold Xby;rw[XwA (λl hl=>by rw[Ybn];intro hh;exact hk ((k2 k).2 ⟨l,hl,hh⟩)),Xhs]
 have b1:∀k,X99 (Xqf ls f) k=(decide (k∈X95 ls)&&!(Xby ls f k).isEmpty):=λk=>(a2 k).1;have b2:∀k,X50 (Xqf ls f) k=if k∈X95 ls then Xby ls f k else []:=λk=>(a2 k).2;refine Xme a1 (X5O hR.1 f) (λk=>?_) (λk=>?_)
 . rw[b1,(X4U hR.1 f k).2,hp];show _=!(Xby ls f k).isEmpty;by_cases hk:k∈X95 ls
   . simp[hk]
   . simp[hk,hno k hk]
 . rw[b2,(X4U hR.1 f k).1,hp];show _=Xby ls f k;split
   . rfl
   . rename_i hk;exact(hno k hk).symm
theorem XiH(fs:List Str):∀l∈Xbk fs,Xdr l:=λl hl=>by
 obtain⟨f,_,rfl⟩:=YaN.1 hl;exact(XiX f).1
theorem XxP{e:Eng}(hc:Xdr e.2.1):∀l∈Xbk e.2.2++[e.2.1],Xdr l:=λl hl=>by
 rcases Yaf.1 hl with h | h
 . exact XiH _ l h
 . rw[YaP.1 h];exact hc
theorem Xv4{e:Eng}(hc:Xdr e.2.1)(ho:okF e.2.2=true):Xqf (Xbk e.2.2++[e.2.1]) e.1=(X0l e).1:=by
 rw[XtH (XxP hc)];unfold X0l;rw[Yah ho];simp only[X4x,YbH,Ybr,YcL]
theorem Xwd(fs:List Str):cL tot (Xbk fs)<=305*fs.length:=by
 induction fs with
 | nil=>simp[Xbk,cL]
 | cons f fs ih=>
   have h1:=(XiX f).2.1;show cL tot ((X0m f).1::Xbk fs)<=_;rw[X4C,Yad];omega
theorem Xgs(e:Eng):cL tot (Xbk e.2.2++[e.2.1])<=305*e.2.2.length+tot e.2.1:=by
 have:=Xwd e.2.2;rw[XdE,X4C,Xya];omega
theorem Xo1(e:Eng):(X0l e).2=okF e.2.2:=by
 unfold X0l;split
 . rename_i h;rw[h]
 . rename_i h;simp at h;simp[h]
structure ekI (e:Eng) (i fl:Int) (ca:List Ser) (fi:List Str):Prop where
 h0:((fl,(ca,fi)):Eng)=e
 h1:0<=i
 h2:i<=e.2.1.length
 h3:∀j,j<i.toNat->XoE e (e.2.1.getD j ([],[]))=false
def ekM(e:Eng)(i fl:Int)(ca:List Ser)(fi:List Str):Nat:=(e.2.1.length - i).toNat
theorem XxE{e:Eng}{i fl:Int}{ca:List Ser}{fi:List Str}(h:ekI e i fl ca fi)(hi:¬i<e.2.1.length):Xmu e.2.1 e=false:=by
 obtain⟨h0,h1,h2,h3⟩:=h;rw[Ybn];intro hh;obtain⟨x,hx,hd⟩:=Ydq.1 hh;obtain⟨j,hj,e2⟩:=YaM hx;have:=h3 j (by omega);rw[X0O hj,e2,hd]at this;cases this
theorem ek_no{e:Eng}{j:Nat}(hj:j<e.2.1.length)(hd:XoE e (e.2.1.getD j ([],[]))=true):Xmu e.2.1 e=true:=
 Ydq.2 ⟨_,X10 hj,hd⟩
def Xa0:Con:=cQ T9q [.agg 3] .bool [(false,1)] (λa=>(Xgx a)) λa=>(X3D a)
def X2M.F(a0:X5Y):Prop:=True/\∀r1,rU r1 (fIn a0.1 0 1099511627776)->X00 (!r1.1) (rE false (X3D a0)) (X3C a0.2.1/\∀r2,rU r2 (X0Q a0.2.1)->X00 (!r2.1) (rE false (X3D a0)) (Xqa a0.2.1/\∀r3,rU r3 (XfC a0.2.1)->dC (r3.1>40) (rE false (X3D a0)) (dC (ln a0.2.2>4) (rE false (X3D a0)) (eQ [(1,.box 2 0)]/\ekI a0 0 a0.1 a0.2.1 a0.2.2/\∀(y4:Int×X5Y),ekI a0 y4.1 y4.2.1 y4.2.2.1 y4.2.2.2->dC (y4.1<ln y4.2.2.1) (iB y4.1 y4.2.2.1 (0<=(0:Int)/\0<ln (gA y4.2.2.1 y4.1 ([],[])).2/\dC ((gA (gA y4.2.2.1 y4.1 ([],[])).2 0 (0,0)).1<y4.2.1) (rE false (X3D a0)) (eQ [(1,.box 2 0)]/\ekI a0 (wI (y4.1+1)) y4.2.1 y4.2.2.1 y4.2.2.2/\ekM a0 (wI (y4.1+1)) y4.2.1 y4.2.2.1 y4.2.2.2<ekM a0 y4.1 y4.2.1 y4.2.2.1 y4.2.2.2))) (Xtk y4.2/\∀r5,rU r5 (Xiq y4.2)->X00 r5.1.2 (Xrv r5.1.1 y4.2.1/\∀r6,rU r6 (Xqf r5.1.1 y4.2.1)->X3C r6.1/\∀r7,rU r7 (X0Q r6.1)->rE r7.1 (X3D a0)) (rE false (X3D a0)))))))
def X2M.L(a0:X5Y):Nat->Option X0f:=XLK [(58,⟨⟨[1],[3],[2],[]⟩,(.pair (.int .i64) T9q),λst y=>ekI a0 y.1 y.2.1 y.2.2.1 y.2.2.2,λst y=>ekM a0 y.1 y.2.1 y.2.2.1 y.2.2.2⟩)]
theorem X2M.p(a0:X5Y)(h:(Xgx a0)):X2M.F a0:=by
 delta X2M.F ln wI dC eQ gA iB rE rU tN;simp only[Bs,B0,B1,Yaa,X01,Yay,Xqa];obtain⟨hk,hf⟩:=h;have no:Xdm a0=false->false=X3D a0:=λh=>by unfold X3D X3T;rw[Yae (by rw[h];decide)]
 refine⟨λh1=>no (by unfold Xdm Xb3;rw[h1];rfl),λh1=>⟨hk,λh2=>no (by unfold Xdm;rw[h2];simp),λh2=>?_⟩⟩;obtain⟨s1,s2,s3,s4⟩:=X3i h2;refine⟨by omega,λh3=>no ?_,λh3=>⟨λh4=>no ?_,λh4=>?_⟩⟩
 . have:decide (XfC a0.2.1<=40)=false:=Yav (by omega);unfold Xdm;rw[this];simp
 . have:decide (a0.2.2.length<=4)=false:=Yav (by omega);unfold Xdm;rw[this];simp
 refine⟨⟨rfl,by omega,by omega,λj hj=>absurd hj (by simp)⟩,?_⟩;rintro⟨i,fl,ca,fi⟩ hI;simp only at hI ⊢;have q1:=hI.h1;have q2:=hI.h2;have q3:=hI.h3;have hen:=XxE hI;obtain rfl:=hI.h0;simp only at*;refine⟨λhi=>?_,λhi=>?_⟩
 . have hm:=X10 (d:=(([]:List UInt8),([]:List Pt))) (by omega:i.toNat<ca.length);have hp:0<(ca.getD i.toNat ([],[])).2.length:=Ybj.2 (s4 _ hm).2.1;rw[w64 (x:=i+1) (by omega) (by omega)];refine⟨q1,hi,by omega,by omega,λh5=>no ?_,λh5=>⟨⟨rfl,by omega,by simp only;omega,λj hj=>?_⟩,by unfold ekM;simp only;omega⟩⟩
   . have hd:XoE (fl,ca,fi) (ca.getD i.toNat ([],[]))=true:=by unfold XoE;exact Yaz h5
     have:=ek_no (e:=(fl,ca,fi)) (j:=i.toNat) (by simp only;omega) hd;unfold Xdm;simp only;rw[this];simp
   . by_cases e:j=i.toNat
     . rw[e];unfold XoE;exact Yav h5
     . exact q3 j (by omega)
 . have h5:=hen hi;have hh:Xdm (fl,ca,fi)=true:=by
    unfold Xdm Xb3;simp only;rw[h1,h2,h5,Yaz (by omega:XfC ca<=40),Yaz (by omega:fi.length<=4)];rfl
   have ho:=Xo1 (fl,ca,fi);have ht:=Xgs (fl,ca,fi);simp only at ho ht;refine⟨⟨hf,by simp only;omega⟩,λh6=>?_,λh6=>?_⟩
   . have h7:okF fi=true:=by
      unfold Xiq at h6;simp only at h6;split at h6
      . assumption
      . cases h6
     have e1:(Xiq (fl,ca,fi)).1=Xbk fi++[ca]:=by unfold Xiq;simp only;rw[Yah h7]
     have e2:=Xv4 (e:=(fl,ca,fi)) s1 h7;simp only at e2;rw[e1,e2];refine⟨by unfold Xrv;omega,Xlv (Xnv (e:=(fl,ca,fi)) λx hx=>(s4 x hx).1),?_⟩;unfold X3D X3T;rw[Yah hh,Yah (by rw[ho];exact h7)]
   . have h7:okF fi=false:=by
      unfold Xiq at h6;simp only at h6;split at h6
      . cases h6
      . simpa using ‹¬okF fi=true›
     unfold X3D X3T;rw[Yah hh,Yae (by rw[ho,h7];decide)]
def X2M.e:GE:=mE Xa0 func42 [4] [X26.e,X1J.e,X2e.e,X12.e,X1I.e] [] (λi x=>X2M.L x) (λi x=>X2M.F x) λi x h _ _=>X2M.p x h
abbrev Ans:=XkG
abbrev X7a:=U6q
abbrev Bkt:=Int×Int
abbrev Stt:=U2q
def Xa5(a:Ans):Bool:=fIn a.1 0 4&&(fIn a.2.1 0 100000&&(Xb3 a.2.2.1&&decide (a.2.2.2.length<=900)))
def XdL(n mark:Int):Bool:=decide (IntKind.wrap .i64 (IntKind.wrap .i64 (n+1)*100)<=mark)
def ss1(x:X7a):Bool:=fIn x.1 1 4&&(fIn x.2.1 1 1000000&&Xa5 x.2.2)
def Xd5:X7a:=(0,(0,(0,(0,(0,[])))))
def XqL(l:List X7a)(i:Nat):Bool:=ss1 (l.getD i Xd5)&&(decide (i=0)||decide ((l.getD (i - 1) Xd5).1<(l.getD i Xd5).1))
def X4q(l:List X7a):Bool:=XhU (XqL l) l.length
def sxI(l:List X7a)(i:Int):Prop:=0<=i/\i<=l.length/\∀j,j<i.toNat->XqL l j=true
def sxM(l:List X7a)(i:Int):Nat:=(l.length - i).toNat
def bk1(mark:Int)(b:Bkt):Bool:=fIn b.1 0 10995116277&&(!XdL b.1 mark&&fIn b.2 0 1)
def XtO(l:List Bkt)(mark:Int)(i:Nat):Bool:=bk1 mark (l.getD i (0,0))&&(decide (i=0)||decide ((l.getD (i - 1) (0,0)).1<(l.getD i (0,0)).1))
def X6F(l:List Bkt)(mark:Int):Bool:=decide (l.length<=12)&&XhU (XtO l mark) l.length
def bkI(l:List Bkt)(mark i:Int):Prop:=0<=i/\i<=l.length/\∀j,j<i.toNat->XtO l mark j=true
def bkM(l:List Bkt)(mark i:Int):Nat:=(l.length - i).toNat
def Xeo(e:Eng):Bool:=decide (e.1=0)&&(decide (e.2.1.length=0)&&decide (e.2.2.length=0))
def X2U(s:Stt):Bool:=X4q s.2.2.2.2.2&&(if s.1=1 then fIn s.2.1 0 100000&&(Xb3 s.2.2.1&&(X6F s.2.2.2.1 s.2.2.1&&Xeo s.2.2.2.2.1)) else if s.1=2 then decide (s.2.1=0)&&(decide (s.2.2.1=0)&&(decide (s.2.2.2.1.length=0)&&X3D s.2.2.2.2.1)) else false)
def pSt(s:Stt):Prop:=Xgx s.2.2.2.2.1/\s.2.2.2.2.1.2.1.length<=1000000000/\s.2.2.2.2.1.2.2.length<=1000000000
theorem Xm4{l:List X7a}(h:X4q l=true):∀j,j<l.length->XqL l j=true:=λj hj=>by
 simp only[X4q,XhU,Ya7,YbV]at h;exact h j hj
theorem XlK{l:List X7a}(h:X4q l=true):l.length<=4:=by
 have key:∀j,j<l.length->(j:Int)+1<=(l.getD j Xd5).1/\(l.getD j Xd5).1<=4:=by
  intro j
  induction j with
  | zero=>
    intro hj;have:=Xm4 h 0 hj;simp only[XqL,ss1,fIn,Yac,Yaj]at this;omega
  | succ j ih=>
    intro hj;have h1:=ih (by omega);have:=Xm4 h (j+1) hj;simp only[XqL,ss1,fIn,Yac,Ya5,Yaj,Yct]at this;omega
 by_cases hc:l.length<=4
 . exact hc
 . have:=key 4 (by omega);omega
theorem Xsi{l:List Bkt}{mark i:Int}(h:bkI l mark i)(hi:¬i<l.length):decide ((l.length:Int)<=12)=X6F l mark:=by
 obtain⟨h1,h2,h3⟩:=h;unfold X6F;rw[XcR λj hj=>h3 j (by omega),Ybu];exact Ydt.2 (by omega)
theorem Xvs{l:List X7a}{i:Int}(h:sxI l i)(hi:¬i<l.length):true=X4q l:=by
 obtain⟨h1,h2,h3⟩:=h;exact(XcR λj hj=>h3 j (by omega)).symm
structure SsK (l:List X7a) (i:Int) (x y:X7a):Prop where
 n1:fIn x.1 1 4=false->X4q l=false
 n2:fIn x.2.1 1 1000000=false->X4q l=false
 n3:Xa5 x.2.2=false->X4q l=false
 n4:0<i->y.1>=x.1->X4q l=false
 ok:fIn x.1 1 4=true->fIn x.2.1 1 1000000=true->Xa5 x.2.2=true->(¬0<i\/¬y.1>=x.1)->sxI l (i+1)
theorem XvC{l:List X7a}{i:Int}(h:sxI l i)(hi:i<l.length):SsK l i (l.getD i.toNat Xd5) (l.getD (i.toNat - 1) Xd5):=by
 obtain⟨h1,h2,h3⟩:=h;have no:XqL l i.toNat=false->X4q l=false:=λhp=>XnV (p:=XqL l) (n:=l.length) (by omega) hp;refine⟨λh=>no (by unfold XqL ss1;simp only[h,Ybk,YbP]),λh=>no (by unfold XqL ss1;simp only[h,Ybk,YbP]),λh=>no (by unfold XqL ss1;simp only[h,Ybk,YbP]),λh h'=>no ?_,λc1 c2 c3 c4=>⟨by omega,by omega,Xci h1 h3 ?_⟩⟩
 . unfold XqL;rw[Yav (by omega:¬i.toNat=0),Yav (by omega:¬(l.getD (i.toNat - 1) Xd5).1<(l.getD i.toNat Xd5).1)];simp
 . unfold XqL ss1;rw[c1,c2,c3];simp only[Ybu,YaQ,Ya5,Yaj];omega
structure BkK (l:List Bkt) (mark i:Int) (x y:Bkt):Prop where
 n1:fIn x.1 0 10995116277=false->X6F l mark=false
 n2:XdL x.1 mark=true->X6F l mark=false
 n3:fIn x.2 0 1=false->X6F l mark=false
 n4:0<i->y.1>=x.1->X6F l mark=false
 ok:fIn x.1 0 10995116277=true->XdL x.1 mark=false->fIn x.2 0 1=true->(¬0<i\/¬y.1>=x.1)->bkI l mark (i+1)
theorem XvZ{l:List Bkt}{mark i:Int}(h:bkI l mark i)(hi:i<l.length):BkK l mark i (l.getD i.toNat (0,0)) (l.getD (i.toNat - 1) (0,0)):=by
 obtain⟨h1,h2,h3⟩:=h;have no:XtO l mark i.toNat=false->X6F l mark=false:=λhp=>by
  unfold X6F;rw[XnV (p:=XtO l mark) (n:=l.length) (by omega) hp,YbP]
 refine⟨λh=>no (by unfold XtO bk1;simp only[h,Ydi,Ybk,YbP]),λh=>no (by unfold XtO bk1;simp only[h,Ydi,Ybk,YbP]),λh=>no (by unfold XtO bk1;simp only[h,Ydi,Ybk,YbP]),λh h'=>no ?_,λc1 c2 c3 c4=>⟨by omega,by omega,Xci h1 h3 ?_⟩⟩
 . unfold XtO;rw[Yav (by omega:¬i.toNat=0),Yav (by omega:¬(l.getD (i.toNat - 1) (0,0)).1<(l.getD i.toNat (0,0)).1)];simp
 . unfold XtO bk1;rw[c1,c2,c3];simp only[Ybu,YaQ,Bool.not_false,Ya5,Yaj];omega
theorem Xl5:X7j 1099511627776=10995116277:=by decide
def stI(a:Stt)(i k h m:Int)(b:List Bkt)(f:Int)(c:List Ser)(g:List Str)(s:List X7a):Prop:=a=(k,(h,(m,(b,((f,(c,g)),s)))))/\sxI s i
def stM(a:Stt)(i k h m:Int)(b:List Bkt)(f:Int)(c:List Ser)(g:List Str)(s:List X7a):Nat:=sxM s i
def suI(a:Stt)(i k h m:Int)(b:List Bkt)(f:Int)(c:List Ser)(g:List Str)(s:List X7a):Prop:=a=(k,(h,(m,(b,((f,(c,g)),s)))))/\bkI b m i
def suM(a:Stt)(i k h m:Int)(b:List Bkt)(f:Int)(c:List Ser)(g:List Str)(s:List X7a):Nat:=bkM b m i
def X9g:Con:=cQ (.int .i64) [.one] (.int .i64) [(false,1)] (λ_=>True) λa=>(X7j a)
def X3M.F(a0:Int):Prop:=True/\∀r1,Eq r1 (fIn a0 0 1099511627776,(),())->X00 (!r1.1) (Eq (-1,(),()) (X7j a0,(),())) ((100:Int)≠0/\Eq (wI (Int.tdiv a0 (100:Int)),(),()) (X7j a0,(),()))
theorem X3M.p(a0:Int)(h:True):X3M.F a0:=by
 unfold X3M.F X7j;simp only[YbN,Ybw,Ybm,X01,Yaa,YaS,Ybo];refine⟨λh1=>by simp[h1],λh1=>⟨by omega,?_⟩⟩;have h2:=h1;simp only[fIn,Yac,Yaj]at h2;rw[Yah h1,Yba h2.1];exact Yau _ (by omega)
def X3M.e:GE:=mE X9g func90 [3] [X0X.e] [] noL (λi x=>X3M.F x) λi x h _ _=>X3M.p x h
def X9X:Con:=cQ Xiy [.agg 4] .bool [(false,1)] (λ_=>True) λa=>(Xa5 a)
def X45.F(a0:XkG):Prop:=True/\∀r1,Eq r1 (fIn a0.1 0 4,(),())->X00 r1.1 (True/\∀r2,Eq r2 (fIn a0.2.1 0 100000,(),())->X00 r2.1 (True/\∀r3,Eq r3 (fIn a0.2.2.1 0 1099511627776,(),())->X00 r3.1 (Eq (decide (ln a0.2.2.2<=(900:Int)),(),()) (Xa5 a0,(),())) (Eq (false,(),()) (Xa5 a0,(),()))) (Eq (false,(),()) (Xa5 a0,(),()))) (Eq (false,(),()) (Xa5 a0,(),()))
theorem X45.p(a0:XkG)(h:True):X45.F a0:=by
 delta X45.F ln;simp only[Bs,B0,B1,Yaa,X01];unfold Xa5 Xb3;refine⟨λh1=>⟨λh2=>⟨λh3=>?_,λh3=>?_⟩,λh2=>?_⟩,λh1=>?_⟩
 . try unfold Xb3 at h3
   rw[h1,h2,h3,YaQ,YaQ,YaQ];exact Ydt.2 (by omega)
 . try unfold Xb3 at h3
   rw[h3];simp
 . rw[h2];simp
 . rw[h1];simp
def X45.e:GE:=mE X9X func38 [4] [X26.e] [] noL (λi x=>X45.F x) λi x h _ _=>X45.p x h
def X9L:Con:=cQ Xiy [.agg 4] .bool [(false,1)] (λ_=>True) λa=>(Xa5 a)
def X3U.F(a0:XkG):Prop:=True/\∀r1,Eq r1 (fIn a0.1 0 4,(),())->X00 r1.1 (True/\∀r2,Eq r2 (fIn a0.2.1 0 100000,(),())->X00 r2.1 (True/\∀r3,Eq r3 (Xb3 a0.2.2.1,(),())->X00 r3.1 (Eq (decide (ln a0.2.2.2<=(900:Int)),(),()) (Xa5 a0,(),())) (Eq (false,(),()) (Xa5 a0,(),()))) (Eq (false,(),()) (Xa5 a0,(),()))) (Eq (false,(),()) (Xa5 a0,(),()))
theorem X3U.p(a0:XkG)(h:True):X3U.F a0:=by
 delta X3U.F ln;simp only[Bs,B0,B1,Yaa,X01];unfold Xa5 Xb3;refine⟨λh1=>⟨λh2=>⟨λh3=>?_,λh3=>?_⟩,λh2=>?_⟩,λh1=>?_⟩
 . try unfold Xb3 at h3
   rw[h1,h2,h3,YaQ,YaQ,YaQ];exact Ydt.2 (by omega)
 . try unfold Xb3 at h3
   rw[h3];simp
 . rw[h2];simp
 . rw[h1];simp
def X3U.e:GE:=mE X9L func89 [4] [X0X.e,X4o.e] [] noL (λi x=>X3U.F x) λi x h _ _=>X3U.p x h
def Xaw:Con:=cQ T0q [.one,.one] .bool [(false,1)] (λ_=>True) λa=>(XdL a.1 a.2)
def X2Y.F(a0:Int)(a1:Int):Prop:=Eq (decide (wI (wI (a0+(1:Int))*(100:Int))<=a1),(),()) (XdL a0 a1,(),())
theorem X2Y.p(a0:Int)(a1:Int)(h:True):X2Y.F a0 a1:=by
 delta X2Y.F wI;simp only[Bs,B0,B1,Yaa,X01,XdL]
def X2Y.e:GE:=mE Xaw func41 [4] [] [] noL (λi x=>X2Y.F x.1 x.2) λi x h _ _=>X2Y.p x.1 x.2 h
def Xeb:Con:=cQ T0q [.one,.one] .bool [(false,1)] (λ_=>True) λa=>(XdL a.1 a.2)
def X5M.F(a0:Int)(a1:Int):Prop:=Eq (decide (wI (wI (a0+(1:Int))*(100:Int))<=a1),(),()) (XdL a0 a1,(),())
theorem X5M.p(a0:Int)(a1:Int)(h:True):X5M.F a0 a1:=by
 delta X5M.F wI;simp only[Bs,B0,B1,Yaa,X01,XdL]
def X5M.e:GE:=mE Xeb func91 [4] [] [] noL (λi x=>X5M.F x.1 x.2) λi x h _ _=>X5M.p x.1 x.2 h
def X9k:Con:=cQ (.int .i64) [.one] .bool [(false,1)] (λ_=>True) λa=>((λa=>fIn a 1 4) a)
def X3e.F(a0:Int):Prop:=True/\∀r1,Eq r1 (fIn a0 1 4,(),())->Eq (r1.1,(),()) ((λa=>fIn a 1 4) a0,(),())
theorem X3e.p(a0:Int)(h:True):X3e.F a0:=by
 unfold X3e.F;simp only[Bs,B0,B1,Yaa,X01]
def X3e.e:GE:=mE X9k func56 [4] [X0X.e] [] noL (λi x=>X3e.F x) λi x h _ _=>X3e.p x h
def X9I:Con:=cQ (.int .i64) [.one] .bool [(false,1)] (λ_=>True) λa=>((λa=>fIn a 1 1000000) a)
def X3h.F(a0:Int):Prop:=True/\∀r1,Eq r1 (fIn a0 1 1000000,(),())->Eq (r1.1,(),()) ((λa=>fIn a 1 1000000) a0,(),())
theorem X3h.p(a0:Int)(h:True):X3h.F a0:=by
 unfold X3h.F;simp only[Bs,B0,B1,Yaa,X01]
def X3h.e:GE:=mE X9I func57 [4] [X0X.e] [] noL (λi x=>X3h.F x) λi x h _ _=>X3h.p x h
def X7p:Con:=cQ (.list T1q) [.one] .bool [(false,1)] (λ_=>True) λa=>(X4q a)
def X1N.F(a0:(List U6q)):Prop:=eQ [(0,vL T1q a0),(5,vL T1q a0),(6,vI (ln a0))]/\sxI a0 0/\∀(y1:Int),sxI a0 y1->dC (y1<ln a0) (iB y1 a0 (True/\∀r2,rU r2 ((λa=>fIn a 1 4) (gA a0 y1 (0,0,0,0,0,[])).1)->X00 (!r2.1) (rE false (X4q a0)) (True/\∀r3,rU r3 ((λa=>fIn a 1 1000000) (gA a0 y1 (0,0,0,0,0,[])).2.1)->X00 (!r3.1) (rE false (X4q a0)) (True/\∀r4,rU r4 (Xa5 ((gA a0 y1 (0,0,0,0,0,[])).2.2.1,(gA a0 y1 (0,0,0,0,0,[])).2.2.2.1,(gA a0 y1 (0,0,0,0,0,[])).2.2.2.2.1,(gA a0 y1 (0,0,0,0,0,[])).2.2.2.2.2))->X00 (!r4.1) (rE false (X4q a0)) (dC (y1>0) (iB (wI (y1 - 1)) a0 (dC ((gA a0 (wI (y1 - 1)) (0,0,0,0,0,[])).1>=(gA a0 y1 (0,0,0,0,0,[])).1) (rE false (X4q a0)) (eQ [(0,vL T1q a0),(5,vL T1q a0),(6,vI (ln a0))]/\sxI a0 (wI (y1+1))/\sxM a0 (wI (y1+1))<sxM a0 y1))) (eQ [(0,vL T1q a0),(5,vL T1q a0),(6,vI (ln a0))]/\sxI a0 (wI (y1+1))/\sxM a0 (wI (y1+1))<sxM a0 y1)))))) (rE true (X4q a0))
def X1N.L(a0:(List U6q)):Nat->Option X0f:=XLK [(26,⟨⟨[0,5,6],[7],[],[]⟩,(.int .i64),λst y=>sxI a0 y,λst y=>sxM a0 y⟩)]
theorem X1N.p(a0:(List U6q))(h:True)(hw:Wf X7p.A a0):X1N.F a0:=by
 delta X1N.F ln wI dC eQ gA iB rE rU vI vL tN;simp only[Bs,B0,B1,Yaa,X01,Yay];have hl:a0.length<=9223372036854775807:=hw.1;refine⟨⟨by omega,by omega,λj hj=>absurd hj (by simp)⟩,?_⟩;rintro i hI;have q1:=hI.1;have q2:=hI.2.1;refine⟨λhi=>?_,λhi=>Xvs hI hi⟩;have K:=XvC hI hi;have dn:sxM a0 (i+1)<sxM a0 i:=by unfold sxM;omega
 rw[w64 (x:=i+1) (by omega) (by omega),w64 (x:=i - 1) (by omega) (by omega),show(i - 1).toNat=i.toNat - 1 by omega];refine⟨q1,hi,λc=>(K.n1 c).symm,λc1=>⟨λc=>(K.n2 c).symm,λc2=>⟨λc=>(K.n3 c).symm,λc3=>⟨λc4=>⟨by omega,by omega,λc=>(K.n4 c4 c).symm,λc=>⟨K.ok c1 c2 c3 (.inr c),dn⟩⟩,λc=>⟨K.ok c1 c2 c3 (.inl c),dn⟩⟩⟩⟩⟩
def X1N.e:GE:=mE X7p func51 [4] [X3e.e,X3h.e,X3U.e] [] (λi x=>X1N.L x) (λi x=>X1N.F x) λi x h _ hw=>X1N.p x h hw
def X8e:Con:=cQ (.pair X7N (.int .i64)) [.one,.one] .bool [(false,1)] (λ_=>True) λa=>(X6F a.1 a.2)
def X2l.F(a0:U8q)(a1:Int):Prop:=eQ [(0,vL T0q a0),(1,vI a1),(7,vL T0q a0),(8,vI (ln a0))]/\bkI a0 a1 0/\∀(y1:Int),bkI a0 a1 y1->dC (y1<ln a0) (iB y1 a0 (True/\∀r2,rU r2 (X7j 1099511627776)->True/\∀r3,rU r3 (fIn (gA a0 y1 (0,0)).1 0 r2.1)->X00 (!r3.1) (rE false (X6F a0 a1)) (True/\∀r4,rU r4 (XdL (gA a0 y1 (0,0)).1 a1)->X00 r4.1 (rE false (X6F a0 a1)) (True/\∀r5,rU r5 (fIn (gA a0 y1 (0,0)).2 0 1)->X00 (!r5.1) (rE false (X6F a0 a1)) (dC (y1>0) (iB (wI (y1 - 1)) a0 (dC ((gA a0 (wI (y1 - 1)) (0,0)).1>=(gA a0 y1 (0,0)).1) (rE false (X6F a0 a1)) (eQ [(0,vL T0q a0),(1,vI a1),(7,vL T0q a0),(8,vI (ln a0))]/\bkI a0 a1 (wI (y1+1))/\bkM a0 a1 (wI (y1+1))<bkM a0 a1 y1))) (eQ [(0,vL T0q a0),(1,vI a1),(7,vL T0q a0),(8,vI (ln a0))]/\bkI a0 a1 (wI (y1+1))/\bkM a0 a1 (wI (y1+1))<bkM a0 a1 y1)))))) (rE (decide (ln a0<=12)) (X6F a0 a1))
def X2l.L(a0:U8q)(a1:Int):Nat->Option X0f:=XLK [(26,⟨⟨[0,1,7,8],[9],[],[]⟩,(.int .i64),λst y=>bkI a0 a1 y,λst y=>bkM a0 a1 y⟩)]
theorem X2l.p(a0:U8q)(a1:Int)(h:True)(hw:Wf X8e.A (a0,a1)):X2l.F a0 a1:=by
 delta X2l.F ln wI dC eQ gA iB rE rU vI vL tN;simp only[Bs,B0,B1,Yaa,X01,Yay,Xl5];have hl:a0.length<=9223372036854775807:=hw.1.1;refine⟨⟨by omega,by omega,λj hj=>absurd hj (by simp)⟩,?_⟩;rintro i hI;have q1:=hI.1;have q2:=hI.2.1;refine⟨λhi=>?_,λhi=>Xsi hI hi⟩;have K:=XvZ hI hi;have dn:bkM a0 a1 (i+1)<bkM a0 a1 i:=by unfold bkM;omega
 rw[w64 (x:=i+1) (by omega) (by omega),w64 (x:=i - 1) (by omega) (by omega),show(i - 1).toNat=i.toNat - 1 by omega];refine⟨q1,hi,λc=>(K.n1 c).symm,λc1=>⟨λc=>(K.n2 c).symm,λc2=>⟨λc=>(K.n3 c).symm,λc3=>⟨λc4=>⟨by omega,by omega,λc=>(K.n4 c4 c).symm,λc=>⟨K.ok c1 c2 c3 (.inr c),dn⟩⟩,λc=>⟨K.ok c1 c2 c3 (.inl c),dn⟩⟩⟩⟩⟩
def X2l.e:GE:=mE X8e func54 [4] [X0X.e,X3M.e,X5M.e] [] (λi x=>X2l.L x.1 x.2) (λi x=>X2l.F x.1 x.2) λi x h _ hw=>X2l.p x.1 x.2 h hw
def X5I:Con:=cQ T9q [.agg 3] .bool [(false,1)] (λ_=>True) λa=>(Xeo a)
def X1u.F(a0:X5Y):Prop:=X00 (a0.1==(0:Int)) (X00 (ln a0.2.1==(0:Int)) (Eq (ln a0.2.2==(0:Int),(),()) (Xeo a0,(),())) (Eq (false,(),()) (Xeo a0,(),()))) (Eq (false,(),()) (Xeo a0,(),()))
theorem X1u.p(a0:X5Y)(h:True):X1u.F a0:=by
 delta X1u.F ln;simp only[Bs,B0,B1,Yaa,X01];unfold Xeo;refine⟨λh1=>⟨λh2=>?_,λh2=>?_⟩,λh1=>?_⟩
 . rw[Yaz h1,Yaz (by omega:a0.2.1.length=0),YaQ,YaQ,Ybq];simp
 . rw[Yav (by omega:¬a0.2.1.length=0)];simp
 . rw[Yav h1];simp
def X1u.e:GE:=mE X5I func39 [4] [] [] noL (λi x=>X1u.F x) λi x h _ _=>X1u.p x h
def XaV:Con:=cQ T4q [.agg 8] .bool [(false,1)] (λa=>(pSt a)) λa=>(X2U a)
def X4w.F(a0:U2q):Prop:=True/\∀r1,Eq r1 (X4q a0.2.2.2.2.2,(),())->X00 (!r1.1) (Eq (false,(),()) (X2U a0,(),())) (X00 (a0.1==(1:Int)) (True/\∀r2,Eq r2 (fIn a0.2.1 0 100000,(),())->X00 r2.1 (True/\∀r3,Eq r3 (Xb3 a0.2.2.1,(),())->X00 r3.1 (True/\∀r4,Eq r4 (X6F a0.2.2.2.1 a0.2.2.1,(),())->X00 r4.1 (X00 (a0.2.2.2.2.1.1==(0:Int)) (Eq (wI (ln a0.2.2.2.2.1.2.1+ln a0.2.2.2.2.1.2.2)==(0:Int),(),()) (X2U a0,(),())) (Eq (false,(),()) (X2U a0,(),()))) (Eq (false,(),()) (X2U a0,(),()))) (Eq (false,(),()) (X2U a0,(),()))) (Eq (false,(),()) (X2U a0,(),()))) (X00 (a0.1==(2:Int)) (X00 (a0.2.1==(0:Int)) (X00 (a0.2.2.1==(0:Int)) (X00 (ln a0.2.2.2.1==(0:Int)) (Xgx (a0.2.2.2.2.1.1,a0.2.2.2.2.1.2.1,a0.2.2.2.2.1.2.2)/\∀r5,Eq r5 (X3D (a0.2.2.2.2.1.1,a0.2.2.2.2.1.2.1,a0.2.2.2.2.1.2.2),(),())->Eq (r5.1,(),()) (X2U a0,(),())) (Eq (false,(),()) (X2U a0,(),()))) (Eq (false,(),()) (X2U a0,(),()))) (Eq (false,(),()) (X2U a0,(),()))) (Eq (false,(),()) (X2U a0,(),()))))
theorem X4w.p(a0:U2q)(h:(pSt a0)):X4w.F a0:=by
 delta X4w.F ln wI;simp only[Bs,B0,B1,Yaa,X01,Yay];obtain⟨hp,hl1,hl2⟩:=h;have no:∀b,X4q a0.2.2.2.2.2=true->a0.1=1->(fIn a0.2.1 0 100000&&(Xb3 a0.2.2.1&&(X6F a0.2.2.2.1 a0.2.2.1&&Xeo a0.2.2.2.2.1)))=b->b=X2U a0:=λb h h1 h2=>by unfold X2U;rw[h,Yah h1,h2,YaQ]
 have no2:∀b,X4q a0.2.2.2.2.2=true->a0.1=2->(decide (a0.2.1=0)&&(decide (a0.2.2.1=0)&&(decide (a0.2.2.2.1.length=0)&&X3D a0.2.2.2.2.1)))=b->b=X2U a0:=λb h h1 h2=>by unfold X2U;rw[h,Yae (by omega),Yah h1,h2,YaQ]
 have no3:¬a0.1=1->¬a0.1=2->false=X2U a0:=λh1 h2=>by unfold X2U;rw[Yae h1,Yae h2,YbP]
 have no0:X4q a0.2.2.2.2.2=false->false=X2U a0:=λh=>by unfold X2U;rw[h,Ybk]
 rw[w64 (x:=(a0.2.2.2.2.1.2.1.length:Int)+a0.2.2.2.2.1.2.2.length) (by omega) (by omega)];refine⟨no0,λh0=>⟨λh1=>⟨λh2=>⟨λh3=>⟨λh4=>⟨λh5=>no _ h0 h1 ?_,λh5=>no _ h0 h1 ?_⟩,λh4=>no _ h0 h1 (by simp[h4])⟩,λh3=>no _ h0 h1 (by simp[h3])⟩,λh2=>no _ h0 h1 (by simp[h2])⟩,λh1=>⟨λh1b=>⟨λh2=>⟨λh3=>⟨λh4=>⟨hp,no2 _ h0 h1b ?_⟩,λh4=>no2 _ h0 h1b ?_⟩,λh3=>no2 _ h0 h1b (by simp[h3])⟩,λh2=>no2 _ h0 h1b (by simp[h2])⟩,λh1b=>no3 h1 h1b⟩⟩⟩
 . rw[h2,h3,h4];unfold Xeo;rw[Yaz h5];simp only[YaQ];rw[Ybq];simp only[YbW,Yac,Yaj];omega
 . rw[h2,h3,h4];unfold Xeo;rw[Yav h5];rfl
 . rw[Yaz h2,Yaz h3,Yaz (by omega:a0.2.2.2.1.length=0)];simp
 . rw[Yav (by omega:¬a0.2.2.2.1.length=0)];simp
def X4w.e:GE:=mE XaV func23 [4] [X1N.e,X0X.e,X4o.e,X2l.e,X2N.e] [] noL (λi x=>X4w.F x) λi x h _ _=>X4w.p x h
def XaK:Con:=cQ T4q [.agg 8] .bool [(false,1)] (λa=>(pSt a)) λa=>(X2U a)
def X3o.F(a0:U2q):Prop:=dC (ln a0.2.2.2.2.2>4) (rE false (X2U a0)) (eQ [(1,.box 2 0)]/\stI a0 0 a0.1 a0.2.1 a0.2.2.1 a0.2.2.2.1 a0.2.2.2.2.1.1 a0.2.2.2.2.1.2.1 a0.2.2.2.2.1.2.2 a0.2.2.2.2.2/\∀(y1:Int×Int×Int×Int×U8q×Int×List U3q×List U7q×List U6q),stI a0 y1.1 y1.2.1 y1.2.2.1 y1.2.2.2.1 y1.2.2.2.2.1 y1.2.2.2.2.2.1 y1.2.2.2.2.2.2.1 y1.2.2.2.2.2.2.2.1 y1.2.2.2.2.2.2.2.2->dC (y1.1<ln y1.2.2.2.2.2.2.2.2) (iB y1.1 y1.2.2.2.2.2.2.2.2 (True/\∀r2,rU r2 (fIn (gA y1.2.2.2.2.2.2.2.2 y1.1 (0,0,0,0,0,[])).1 1 4)->X00 (!r2.1) (rE false (X2U a0)) (dC (y1.1>0) (iB (wI (y1.1 - 1)) y1.2.2.2.2.2.2.2.2 (dC ((gA y1.2.2.2.2.2.2.2.2 (wI (y1.1 - 1)) (0,0,0,0,0,[])).1>=(gA y1.2.2.2.2.2.2.2.2 y1.1 (0,0,0,0,0,[])).1) (rE false (X2U a0)) (True/\∀r3,rU r3 (fIn (gA y1.2.2.2.2.2.2.2.2 y1.1 (0,0,0,0,0,[])).2.1 1 1000000)->X00 (!r3.1) (rE false (X2U a0)) (True/\∀r4,rU r4 (Xa5 ((gA y1.2.2.2.2.2.2.2.2 y1.1 (0,0,0,0,0,[])).2.2.1,(gA y1.2.2.2.2.2.2.2.2 y1.1 (0,0,0,0,0,[])).2.2.2.1,(gA y1.2.2.2.2.2.2.2.2 y1.1 (0,0,0,0,0,[])).2.2.2.2.1,(gA y1.2.2.2.2.2.2.2.2 y1.1 (0,0,0,0,0,[])).2.2.2.2.2))->X00 (!r4.1) (rE false (X2U a0)) (eQ [(1,.box 2 0)]/\stI a0 (wI (y1.1+1)) y1.2.1 y1.2.2.1 y1.2.2.2.1 y1.2.2.2.2.1 y1.2.2.2.2.2.1 y1.2.2.2.2.2.2.1 y1.2.2.2.2.2.2.2.1 y1.2.2.2.2.2.2.2.2/\stM a0 (wI (y1.1+1)) y1.2.1 y1.2.2.1 y1.2.2.2.1 y1.2.2.2.2.1 y1.2.2.2.2.2.1 y1.2.2.2.2.2.2.1 y1.2.2.2.2.2.2.2.1 y1.2.2.2.2.2.2.2.2<stM a0 y1.1 y1.2.1 y1.2.2.1 y1.2.2.2.1 y1.2.2.2.2.1 y1.2.2.2.2.2.1 y1.2.2.2.2.2.2.1 y1.2.2.2.2.2.2.2.1 y1.2.2.2.2.2.2.2.2))))) (True/\∀r5,rU r5 (fIn (gA y1.2.2.2.2.2.2.2.2 y1.1 (0,0,0,0,0,[])).2.1 1 1000000)->X00 (!r5.1) (rE false (X2U a0)) (True/\∀r6,rU r6 (Xa5 ((gA y1.2.2.2.2.2.2.2.2 y1.1 (0,0,0,0,0,[])).2.2.1,(gA y1.2.2.2.2.2.2.2.2 y1.1 (0,0,0,0,0,[])).2.2.2.1,(gA y1.2.2.2.2.2.2.2.2 y1.1 (0,0,0,0,0,[])).2.2.2.2.1,(gA y1.2.2.2.2.2.2.2.2 y1.1 (0,0,0,0,0,[])).2.2.2.2.2))->X00 (!r6.1) (rE false (X2U a0)) (eQ [(1,.box 2 0)]/\stI a0 (wI (y1.1+1)) y1.2.1 y1.2.2.1 y1.2.2.2.1 y1.2.2.2.2.1 y1.2.2.2.2.2.1 y1.2.2.2.2.2.2.1 y1.2.2.2.2.2.2.2.1 y1.2.2.2.2.2.2.2.2/\stM a0 (wI (y1.1+1)) y1.2.1 y1.2.2.1 y1.2.2.2.1 y1.2.2.2.2.1 y1.2.2.2.2.2.1 y1.2.2.2.2.2.2.1 y1.2.2.2.2.2.2.2.1 y1.2.2.2.2.2.2.2.2<stM a0 y1.1 y1.2.1 y1.2.2.1 y1.2.2.2.1 y1.2.2.2.2.1 y1.2.2.2.2.2.1 y1.2.2.2.2.2.2.1 y1.2.2.2.2.2.2.2.1 y1.2.2.2.2.2.2.2.2)))))) (X00 (y1.2.1==1) (True/\∀r7,rU r7 (fIn y1.2.2.1 0 100000)->X00 (!r7.1) (rE false (X2U a0)) (True/\∀r8,rU r8 (fIn y1.2.2.2.1 0 1099511627776)->X00 (!r8.1) (rE false (X2U a0)) (dC (ln y1.2.2.2.2.1>12) (rE false (X2U a0)) (True/\∀r9,rU r9 (Xeo (y1.2.2.2.2.2.1,y1.2.2.2.2.2.2.1,y1.2.2.2.2.2.2.2.1))->X00 (!r9.1) (rE false (X2U a0)) (eQ [(1,.box 2 0)]/\suI a0 0 y1.2.1 y1.2.2.1 y1.2.2.2.1 y1.2.2.2.2.1 y1.2.2.2.2.2.1 y1.2.2.2.2.2.2.1 y1.2.2.2.2.2.2.2.1 y1.2.2.2.2.2.2.2.2/\∀(y10:Int×Int×Int×Int×U8q×Int×List U3q×List U7q×List U6q),suI a0 y10.1 y10.2.1 y10.2.2.1 y10.2.2.2.1 y10.2.2.2.2.1 y10.2.2.2.2.2.1 y10.2.2.2.2.2.2.1 y10.2.2.2.2.2.2.2.1 y10.2.2.2.2.2.2.2.2->dC (y10.1<ln y10.2.2.2.2.1) (iB y10.1 y10.2.2.2.2.1 (True/\∀r11,rU r11 (X7j 1099511627776)->True/\∀r12,rU r12 (fIn (gA y10.2.2.2.2.1 y10.1 (0,0)).1 0 r11.1)->X00 (!r12.1) (rE false (X2U a0)) (dC (y10.1>0) (iB (wI (y10.1 - 1)) y10.2.2.2.2.1 (dC ((gA y10.2.2.2.2.1 (wI (y10.1 - 1)) (0,0)).1>=(gA y10.2.2.2.2.1 y10.1 (0,0)).1) (rE false (X2U a0)) (True/\∀r13,rU r13 (XdL (gA y10.2.2.2.2.1 y10.1 (0,0)).1 y10.2.2.2.1)->X00 r13.1 (rE false (X2U a0)) (True/\∀r14,rU r14 (fIn (gA y10.2.2.2.2.1 y10.1 (0,0)).2 0 1)->X00 (!r14.1) (rE false (X2U a0)) (eQ [(1,.box 2 0)]/\suI a0 (wI (y10.1+1)) y10.2.1 y10.2.2.1 y10.2.2.2.1 y10.2.2.2.2.1 y10.2.2.2.2.2.1 y10.2.2.2.2.2.2.1 y10.2.2.2.2.2.2.2.1 y10.2.2.2.2.2.2.2.2/\suM a0 (wI (y10.1+1)) y10.2.1 y10.2.2.1 y10.2.2.2.1 y10.2.2.2.2.1 y10.2.2.2.2.2.1 y10.2.2.2.2.2.2.1 y10.2.2.2.2.2.2.2.1 y10.2.2.2.2.2.2.2.2<suM a0 y10.1 y10.2.1 y10.2.2.1 y10.2.2.2.1 y10.2.2.2.2.1 y10.2.2.2.2.2.1 y10.2.2.2.2.2.2.1 y10.2.2.2.2.2.2.2.1 y10.2.2.2.2.2.2.2.2))))) (True/\∀r15,rU r15 (XdL (gA y10.2.2.2.2.1 y10.1 (0,0)).1 y10.2.2.2.1)->X00 r15.1 (rE false (X2U a0)) (True/\∀r16,rU r16 (fIn (gA y10.2.2.2.2.1 y10.1 (0,0)).2 0 1)->X00 (!r16.1) (rE false (X2U a0)) (eQ [(1,.box 2 0)]/\suI a0 (wI (y10.1+1)) y10.2.1 y10.2.2.1 y10.2.2.2.1 y10.2.2.2.2.1 y10.2.2.2.2.2.1 y10.2.2.2.2.2.2.1 y10.2.2.2.2.2.2.2.1 y10.2.2.2.2.2.2.2.2/\suM a0 (wI (y10.1+1)) y10.2.1 y10.2.2.1 y10.2.2.2.1 y10.2.2.2.2.1 y10.2.2.2.2.2.1 y10.2.2.2.2.2.2.1 y10.2.2.2.2.2.2.2.1 y10.2.2.2.2.2.2.2.2<suM a0 y10.1 y10.2.1 y10.2.2.1 y10.2.2.2.1 y10.2.2.2.2.1 y10.2.2.2.2.2.1 y10.2.2.2.2.2.2.1 y10.2.2.2.2.2.2.2.1 y10.2.2.2.2.2.2.2.2)))))) (rE true (X2U a0))))))) (X00 (y1.2.1==2) (X00 (y1.2.2.1==0) (X00 (y1.2.2.2.1==0) (X00 (ln y1.2.2.2.2.1==0) (Xgx (y1.2.2.2.2.2.1,y1.2.2.2.2.2.2.1,y1.2.2.2.2.2.2.2.1)/\∀r17,rU r17 (X3D (y1.2.2.2.2.2.1,y1.2.2.2.2.2.2.1,y1.2.2.2.2.2.2.2.1))->rE r17.1 (X2U a0)) (rE false (X2U a0))) (rE false (X2U a0))) (rE false (X2U a0))) (rE false (X2U a0)))))
def X3o.L(a0:U2q):Nat->Option X0f:=XLK [(58,⟨⟨[1],[3],[2],[]⟩,XyI,λst y=>stI a0 y.1 y.2.1 y.2.2.1 y.2.2.2.1 y.2.2.2.2.1 y.2.2.2.2.2.1 y.2.2.2.2.2.2.1 y.2.2.2.2.2.2.2.1 y.2.2.2.2.2.2.2.2,λst y=>stM a0 y.1 y.2.1 y.2.2.1 y.2.2.2.1 y.2.2.2.2.1 y.2.2.2.2.2.1 y.2.2.2.2.2.2.1 y.2.2.2.2.2.2.2.1 y.2.2.2.2.2.2.2.2⟩),(7850,⟨⟨[1],[5],[2],[]⟩,XyI,λst y=>suI a0 y.1 y.2.1 y.2.2.1 y.2.2.2.1 y.2.2.2.2.1 y.2.2.2.2.2.1 y.2.2.2.2.2.2.1 y.2.2.2.2.2.2.2.1 y.2.2.2.2.2.2.2.2,λst y=>suM a0 y.1 y.2.1 y.2.2.1 y.2.2.2.1 y.2.2.2.2.1 y.2.2.2.2.2.1 y.2.2.2.2.2.2.1 y.2.2.2.2.2.2.2.1 y.2.2.2.2.2.2.2.2⟩)]
theorem X3o.p(a0:U2q)(h:(pSt a0))(hw:Wf XaK.A a0):X3o.F a0:=by
 delta X3o.F ln wI dC eQ gA iB rE rU tN;simp only[Bs,B0,B1,Yaa,X01,Yay,Xl5];obtain⟨hp,hl1,hl2⟩:=h;have no:∀b,X4q a0.2.2.2.2.2=true->a0.1=1->(fIn a0.2.1 0 100000&&(Xb3 a0.2.2.1&&(X6F a0.2.2.2.1 a0.2.2.1&&Xeo a0.2.2.2.2.1)))=b->b=X2U a0:=λb h h1 h2=>by unfold X2U;rw[h,Yah h1,h2,YaQ]
 have no2:∀b,X4q a0.2.2.2.2.2=true->a0.1=2->(decide (a0.2.1=0)&&(decide (a0.2.2.1=0)&&(decide (a0.2.2.2.1.length=0)&&X3D a0.2.2.2.2.1)))=b->b=X2U a0:=λb h h1 h2=>by unfold X2U;rw[h,Yae (by omega),Yah h1,h2,YaQ]
 have no3:¬a0.1=1->¬a0.1=2->false=X2U a0:=λh1 h2=>by unfold X2U;rw[Yae h1,Yae h2,YbP]
 have no0:X4q a0.2.2.2.2.2=false->false=X2U a0:=λh=>by unfold X2U;rw[h,Ybk]
 have hw1:a0.2.2.2.2.2.length<=9223372036854775807:=hw.2.2.2.2.2.1;have hw2:a0.2.2.2.1.length<=9223372036854775807:=hw.2.2.2.1.1;refine⟨λh0=>no0 ?_,λh0=>⟨⟨rfl,by omega,by omega,λj hj=>absurd hj (by simp)⟩,?_⟩⟩
 . rw[Ybn];intro hs;have:=XlK hs;omega
 rintro⟨i,k,hh,m,b,f,c,g,s⟩ ⟨ea,hI⟩;simp only at ea hI ⊢;subst ea;simp only at*;have q1:=hI.1;have q2:=hI.2.1;refine⟨λhi=>?_,λhi=>?_⟩
 . have K:=XvC hI hi;have st:∀{P:Prop},P->sxM s (i+1)<sxM s i/\P:=λh=>⟨by unfold sxM;omega,h⟩
   have dn:sxM s (i+1)<sxM s i:=by unfold sxM;omega
   rw[w64 (x:=i+1) (by omega) (by omega),w64 (x:=i - 1) (by omega) (by omega),show(i - 1).toNat=i.toNat - 1 by omega];refine⟨q1,hi,λc=>no0 (K.n1 c),λc1=>⟨λc4=>⟨by omega,by omega,λc=>no0 (K.n4 c4 c),λc5=>⟨λc=>no0 (K.n2 c),λc2=>⟨λc=>no0 (K.n3 c),λc3=>⟨⟨rfl,K.ok c1 c2 c3 (.inr c5)⟩,dn⟩⟩⟩⟩,λc4=>⟨λc=>no0 (K.n2 c),λc2=>⟨λc=>no0 (K.n3 c),λc3=>⟨⟨rfl,K.ok c1 c2 c3 (.inl c4)⟩,dn⟩⟩⟩⟩⟩
 have hs:X4q s=true:=(Xvs hI hi).symm;refine⟨λh1=>⟨λh2=>no _ hs h1 (by simp[h2]),λh2=>⟨λh3=>no _ hs h1 (by unfold Xb3;simp[h3]),λh3=>⟨λh4=>no _ hs h1 ?_,λh4=>⟨λh5=>no _ hs h1 (by simp[h5]),λh5=>⟨⟨rfl,by omega,by omega,λj hj=>absurd hj (by simp)⟩,?_⟩⟩⟩⟩⟩,λh1=>⟨λh1b=>⟨λh2=>⟨λh3=>⟨λh4=>⟨hp,no2 _ hs h1b ?_⟩,λh4=>no2 _ hs h1b ?_⟩,λh3=>no2 _ hs h1b (by simp[h3])⟩,λh2=>no2 _ hs h1b (by simp[h2])⟩,λh1b=>no3 h1 h1b⟩⟩
 . unfold X6F;rw[Yav (by omega:¬b.length<=12)];simp
 . rintro⟨i',k',hh',m',b',f',c',g',s'⟩ ⟨ea,hJ⟩;simp only at ea hJ ⊢;obtain⟨rfl,rfl,rfl,rfl,⟨rfl,rfl,rfl⟩,rfl⟩:k=k'/\hh=hh'/\m=m'/\b=b'/\(f=f'/\c=c'/\g=g')/\s=s':=by
    simp only[Yaa]at ea;exact⟨ea.1,ea.2.1,ea.2.2.1,ea.2.2.2.1,⟨ea.2.2.2.2.1.1,ea.2.2.2.2.1.2.1,ea.2.2.2.2.1.2.2⟩,ea.2.2.2.2.2⟩
   have r1:=hJ.1;have r2:=hJ.2.1;refine⟨λhi'=>?_,λhi'=>?_⟩
   . have K:=XvZ hJ hi';have bad:X6F b m=false->false=X2U (k,hh,m,b,(f,c,g),s):=λh=>no _ hs h1 (by simp[h]);have dn:bkM b m (i'+1)<bkM b m i':=by unfold bkM;omega
     rw[w64 (x:=i'+1) (by omega) (by omega),w64 (x:=i' - 1) (by omega) (by omega),show(i' - 1).toNat=i'.toNat - 1 by omega];refine⟨r1,hi',λc=>bad (K.n1 c),λc1=>⟨λc4=>⟨by omega,by omega,λc=>bad (K.n4 c4 c),λc5=>⟨λc=>bad (K.n2 c),λc2=>⟨λc=>bad (K.n3 c),λc3=>⟨⟨rfl,K.ok c1 c2 c3 (.inr c5)⟩,dn⟩⟩⟩⟩,λc4=>⟨λc=>bad (K.n2 c),λc2=>⟨λc=>bad (K.n3 c),λc3=>⟨⟨rfl,K.ok c1 c2 c3 (.inl c4)⟩,dn⟩⟩⟩⟩⟩
   . have hb:X6F b m=true:=by rw[<-Xsi hJ hi'];exact Yaz (by omega)
     exact no _ hs h1 (by rw[h2,hb,h5];unfold Xb3;rw[h3];rfl)
 . rw[Yaz h2,Yaz h3,Yaz (by omega:b.length=0)];simp
 . rw[Yav (by omega:¬b.length=0)];simp
def X3o.e:GE:=mE XaK func17 [4] [X26.e,X45.e,X1u.e,X3g.e,X2Y.e,X2M.e] [] (λi x=>X3o.L x) (λi x=>X3o.F x) λi x h _ hw=>X3o.p x h hw
theorem XpN{α:Type}(n:α->Nat)(l:List α):l.length<=nL n l:=Nat.le_add_right ..
theorem XyM{s:Stt}(h:WfD T4q s)(hn:XcZ s<=1048576):pSt s:=by
 unfold XcZ at hn;refine⟨⟨λx hx=>(h.2.2.2.2.1.2.1.2 x hx).1,λf hf=>h.2.2.2.2.1.2.2.2 f hf⟩,?_,?_⟩
 . have he:X8n s.2.2.2.2.1<=1048576:=by omega
   have:s.2.2.2.2.1.2.1.length<=X8n s.2.2.2.2.1:=YaW (XpN X3d s.2.2.2.2.1.2.1) (Nat.le_add_right _ _);omega
 . have he:X8n s.2.2.2.2.1<=1048576:=by omega
   have:s.2.2.2.2.1.2.2.length<=X8n s.2.2.2.2.1:=YaW (XpN _ s.2.2.2.2.1.2.2) (Nat.le_add_left _ (nL X3d s.2.2.2.2.1.2.1));omega
def Xf8(e:Eng)(k:Str)(a b:Int):List Pt:=if X3D e=true then X25 (X50 (X0l e).1 k) a b else []
theorem Xde{e:Eng}(h:Xdm e=true):(0<=e.1/\e.1<=1099511627776)/\X0Q e.2.1=true/\XfC e.2.1<=40/\e.2.2.length<=4/\Xmu e.2.1 e=false:=by
 unfold Xdm Xb3 fIn at h;simp only[Yac,Yaj,YaS]at h;exact⟨h.1,h.2.1,h.2.2.1,h.2.2.2.1,h.2.2.2.2⟩
theorem X8G{e:Eng}(h:X3D e=true):Xdm e=true/\okF e.2.2=true/\X3T e=((X0l e).1,true)/\X0Q (X0l e).1=true:=by
 have h0:=h;unfold X3D X3T at h;split at h
 . rename_i h1;split at h
   . rename_i h2;refine⟨h1,by rw[<-Xo1];exact h2,?_,h⟩;unfold X3T;rw[Yah h1,Yah h2,show X0Q (X0l e).1=true from h]
   . cases h
 . cases h
theorem XjF(e:Eng):(X3T e).2=X3D e:=rfl
theorem XgD{e:Eng}(h:okF e.2.2=true):Xiq e=(Xbk e.2.2++[e.2.1],true):=by unfold Xiq;rw[Yah h]
theorem Xs3{e:Eng}(hc:Xdr e.2.1):Xdr (X0l e).1:=by
 unfold X0l;split
 . exact Xpj (X7M (XdW _ [] Xgv (XiH _)) hc.2) _
 . exact Xgv
theorem XtL{e:Eng}(hc:Xdr e.2.1)(ho:okF e.2.2=true)(k:Str):X50 (X0l e).1 k=Xby (Xbk e.2.2++[e.2.1]) e.1 k:=by
 have hR:Xdr (X4x (Xbk e.2.2)):=XdW _ [] Xgv (XiH _);unfold X0l;rw[Yah ho];rw[(X4U (X7M hR hc.2).1 _ k).1,X7Q hR.1 (λx hx=>(hc.2 x hx).1) hc.1];unfold Xby;rw[Xu8]
 congr 2
 rw[show X4x (Xbk e.2.2)=(Xbk e.2.2).foldl X4R [] from rfl,Xhr _ [] Xgv (XiH _)];rfl
theorem Xy6{l:List Ser}(h:Xht l){k:Str}(hk:X99 l k=true):(l.getD (pos Op.bytesLess Prod.fst k l) ([],[])).2=X50 l k:=by
 obtain⟨p1,p2⟩:=Xhj h hk;have hm:=X10 (d:=(([]:Str),([]:List Pt))) p1;have:=((XeI h).1 hm).2;rw[p2]at this;exact this.symm
theorem Xwq{l:List Ser}(h:X0Q l=true):tot l<=305:=(X3i h).2.1
def Xsd(e:Eng)(k:Str)(a b:Int):Prop:=Xgx e
def Xcy:Con:=cW (.pair T9q (.pair .str T0q)) [.agg 3,.one,.one,.one] X7N [(false,1)] [(0,112)] (λa=>(Xsd a.1 a.2.1 a.2.2.1 a.2.2.2)) λa=>(Xf8 a.1 a.2.1 a.2.2.1 a.2.2.2)
def X5U.F(a0:X5Y)(a1:U7q)(a2:Int)(a3:Int):Prop:=Xgx (a0.1,a0.2.1,a0.2.2)/\∀r1,Eq r1 (X3T (a0.1,a0.2.1,a0.2.2),(),())->X00 (!r1.1.2) (Eq (([]:U8q),(),()) (Xf8 a0 a1 a2 a3,(),())) (pSf r1.1.1 a1/\∀r2,Eq r2 (fSf r1.1.1 a1,(),())->X00 (!r2.1.2) (Eq (([]:U8q),(),()) (Xf8 a0 a1 a2 a3,(),())) (0<=r2.1.1/\r2.1.1<ln r1.1.1/\X8L (List.getD r1.1.1 (tN r2.1.1) ([],[])).2 a2 a3/\∀r3,Eq r3 (X25 (List.getD r1.1.1 (tN r2.1.1) ([],[])).2 a2 a3,(),())->Eq (r3.1,(),()) (Xf8 a0 a1 a2 a3,(),())))
theorem X5U.p(a0:X5Y)(a1:U7q)(a2:Int)(a3:Int)(h:(Xsd a0 a1 a2 a3)):X5U.F a0 a1 a2 a3:=by
 delta X5U.F ln tN;simp only[Bs,B0,B1,Yaa,X01,Yay,pSf,Xxx];have hp:Xgx a0:=h;refine⟨hp,λh1=>?_,λh1=>?_⟩
 . unfold Xf8;rw[Yae (by rw[<-XjF,h1];decide)]
 have h1:X3D a0=true:=h1;obtain⟨g1,g2,g3,g4⟩:=X8G h1;obtain⟨s1,s2,s3,s4⟩:=X3i g4;rw[g3];simp only;refine⟨⟨s1.1,by omega⟩,λh2=>?_,λh2=>?_⟩
 . have h3:X99 (X0l a0).1 a1=false:=h2;unfold Xf8;rw[Yah h1,Xfk h3,Xhs]
 . have h3:X99 (X0l a0).1 a1=true:=h2;obtain⟨p1,p2⟩:=Xhj s1.1 h3;have e1:(fSf (X0l a0).1 a1).1=((pos Op.bytesLess Prod.fst a1 (X0l a0).1:Nat):Int):=rfl;have e2:=Xy6 s1.1 h3;have e3:=Xoq (X0l a0).1 a1;rw[e1,YaG,e2];refine⟨by omega,by omega,by unfold X8L;omega,?_⟩;unfold Xf8;rw[Yah h1]
def X5U.e:GE:=mE Xcy func143 [113] [X1Q.e,X2I.e,X4Y.e] [] noL (λi x=>X5U.F x.1 x.2.1 x.2.2.1 x.2.2.2) λi x h _ _=>X5U.p x.1 x.2.1 x.2.2.1 x.2.2.2 h
theorem XwH{n:Nat}(h:¬fSz n 1048576<0):fSz n 1048576=1048576 - (n:Int):=Xf0 (by have:=Xsp h;omega)
theorem Xwt{n:Nat}{l:Int}(h:¬fSz n l<0):(n:Int)<=l:=by
 by_cases hc:l<(n:Int)
 . rw[Xen hc]at h;exact absurd (by decide) h
 . omega
theorem Xw5{α:Type}(n:α->Nat)(x:α)(l:List α):nL n (x::l)=1+n x+nL n l:=by
 unfold nL XqI;rw[Yat,Yat,Yas,List.sum_cons,Yad];omega
theorem XsP:∀l:List (Int×Int),cL X1C l=2*l.length
 | []=>by simp[cL]
 | x::l=>by rw[X4C,XsP l,show X1C x=2 from rfl,Yad];omega
theorem Xsc:∀l:List Ser,0<=cL X0w l/\cL X0w l<=2*tot l
 | []=>by simp[cL,tot]
 | x::l=>by
   have h1:=Xsc l;have h2:=XsP x.2;have h3:tot (x::l)=cS x+tot l:=X4C ..;have h4:X0w x=1+cL X1C x.2:=rfl;have h5:cS x=(x.2.length:Int)+1:=rfl;rw[X4C];omega
theorem XvD:∀l:List Ser,tot l<=nL X3d l
 | []=>by simp[nL,tot,cL,XqI]
 | x::l=>by
   have h1:=XvD l;have h2:X3d x=x.1.length+x.2.length:=rfl;have h3:tot (x::l)=cS x+tot l:=X4C ..;have h5:cS x=(x.2.length:Int)+1:=rfl;rw[Xw5];omega
theorem XvR:∀l:List Str,cL XdX l=l.length
 | []=>by simp[cL]
 | x::l=>by rw[X4C,XvR l,show XdX x=1 from rfl,Yad];omega
def XxB(l:List Str):List Str:=l
def Xyr(l:List Str):Prop:=l.length<=1099511627776
def fIdS(l:List Ser):List Ser:=l
def pIdS(l:List Ser):Prop:=tot l<=100000000
structure cqI (l:List Ser) (i:Int) (out:List Ser):Prop where
 h1:0<=i
 h2:i<=l.length
 h3:out=l.take i.toNat
 h4:(out.length:Int)=i
def cqM(l:List Ser)(i:Int)(out:List Ser):Nat:=(l.length - i).toNat
theorem Xt6{l:List Ser}{i:Int}{out o':List Ser}(h:cqI l i out)(hi:i<l.length)(ho:o'=out++[l.getD i.toNat ([],[])]):cqI l (i+1) o':=by
 obtain⟨h1,h2,h3,h4⟩:=h;subst ho;refine⟨by omega,by omega,?_,by simp;omega⟩;rw[tn1 h1,X0M ([],[]) (by omega),h3]
theorem Xvu{l:List Ser}{i:Int}{out:List Ser}(h:cqI l i out)(hi:¬i<l.length):out=l:=by
 obtain⟨h1,h2,h3,h4⟩:=h;rw[h3,show i.toNat=l.length by omega,Yat]
def XoN(e:Eng):Eng:=e
def Xr3(e:Eng):Prop:=tot e.2.1<=100000000/\e.2.2.length<=100000000
theorem XpK{e:Eng}(h:X3D e=true):Xr3 e:=by
 obtain⟨g1,g2,g3,g4⟩:=X8G h;obtain⟨k1,k2,k3,k4,k5⟩:=Xde g1;obtain⟨s1,s2,s3,s4⟩:=X3i k2;exact⟨by omega,by omega⟩
def Xbf(e:Eng)(t:Int):Eng:=if e.1<t/\t<=1099511627776 then(t,X15 e.2.1 t,e.2.2) else e
def XoP(e:Eng)(t:Int):Prop:=tot e.2.1<=100000000
def Xc6(e:Eng)(t:Int):Eng:=if X3D e=true then Xbf e t else(0,[],[])
def XsO(e:Eng)(t:Int):Prop:=Xgx e
theorem Xsq(e:Eng)(t:Int):tot (Xc6 e t).2.1<=2000000/\(Xc6 e t).2.2.length<=2000000:=by
 unfold Xc6;split
 . rename_i h;obtain⟨g1,g2,g3,g4⟩:=X8G h;obtain⟨k1,k2,k3,k4,k5⟩:=Xde g1;obtain⟨s1,s2,s3,s4⟩:=X3i k2;have:=XkJ e.2.1 t;unfold Xbf;split
   . exact⟨by show tot (X15 e.2.1 t)<=_;omega,by show e.2.2.length<=_;omega⟩
   . exact⟨by omega,by omega⟩
 . simp[tot,cL]
def X3w:Con:=cW XfH [.one] XfH [(false,1)] [(0,9)] (λa=>(Xyr a)) λa=>(XxB a)
def X0z.F(a0:(List U7q)):Prop:=∀(b1:Bool),(b1=true->a0=[])->X00 b1 (Eq (([]:List U7q),(),()) (XxB a0,(),())) (List.length ([]:List U7q)+List.length a0<=9223372036854775807/\(List.length ([]:List U7q)+List.length a0)*16<=140737488355328/\Eq (([]:List U7q)++a0,(),()) (XxB a0,(),()))
theorem X0z.p(a0:(List U7q))(h:(Xyr a0))(hw:Wf X3w.A a0):X0z.F a0:=by
 unfold X0z.F;have hp:a0.length<=1099511627776:=h;simp only[Bs,B0,B1,Yaa,X01,XxB,Xyr]
 repeat' (with_reducible (first | (refine And.intro ?_ ?_) | intro _))
 all_goals (try simp (disch:=omega) only[w64,wu8,tn0,tn1,tm1,tm2,Yab,Yad,Yai]at*)
 all_goals (try simp (disch:=omega) only[w64,wu8,tn0,tn1,tm1,tm2,Yab,Yad,Yai]at*)
 all_goals (try omega)
 all_goals (try grind[])
 all_goals (try simp_all)
def X0z.e:GE:=mE X3w func134 [24] [] [] noL (λi x=>X0z.F x) λi x h _ hw=>X0z.p x h hw
def X7B:Con:=cW X5C [.one] X5C [(false,1)] [(0,115)] (λa=>(pIdS a)) λa=>(fIdS a)
def X1W.F(a0:(List U3q)):Prop:=eQ [(7,vL T5q a0),(8,vI (ln a0))]/\cqI a0 0 ([]:List U3q)/\∀(y1:Int×List U3q),cqI a0 y1.1 y1.2->dC (y1.1<ln a0) (iB y1.1 a0 (Xk1 (gA a0 y1.1 ([],[])).2/\∀r2,rU r2 (Xrm (gA a0 y1.1 ([],[])).2)->lE y1.2 ([((gA a0 y1.1 ([],[])).1,r2.1)]:List U3q)/\(List.length y1.2+List.length ([((gA a0 y1.1 ([],[])).1,r2.1)]:List U3q))*40<=140737488355328/\eQ [(7,vL T5q a0),(8,vI (ln a0))]/\cqI a0 (wI (y1.1+1)) (y1.2++[((gA a0 y1.1 ([],[])).1,r2.1)])/\cqM a0 (wI (y1.1+1)) (y1.2++[((gA a0 y1.1 ([],[])).1,r2.1)])<cqM a0 y1.1 y1.2)) (rE y1.2 (fIdS a0))
def X1W.L(a0:(List U3q)):Nat->Option X0f:=XLK [(58,⟨⟨[7,8],[3,9],[],[kC 3 0 1000387 115]⟩,(.pair (.int .i64) X5C),λst y=>cqI a0 y.1 y.2,λst y=>cqM a0 y.1 y.2⟩)]
theorem X1W.p(a0:(List U3q))(h:(pIdS a0)):X1W.F a0:=by
 delta X1W.F ln wI dC eQ gA iB lE rE rU vI vL tN;simp only[Bs,B0,B1,Yaa,X01,Xrm,Xk1,Yay];have hn:tot a0<=100000000:=h;have k1:=Xbc a0;refine⟨⟨by omega,by omega,rfl,rfl⟩,?_⟩;rintro⟨i,out⟩ hI;simp only at hI ⊢;have q1:=hI.h1;have q2:=hI.h2;have q4:=hI.h4;refine⟨λhi=>?_,λhi=>Xvu hI hi⟩;have dn:∀o,cqM a0 (i+1) o<cqM a0 i out:=λo=>by unfold cqM;omega
 rw[w64 (x:=i+1) (by omega) (by omega)];have k2:=Xg0 (X10 (d:=(([]:List UInt8),([]:List Pt))) (by omega:i.toNat<a0.length));exact⟨q1,hi,by omega,by omega,by omega,Xt6 hI hi rfl,dn _⟩
def X1W.e:GE:=mE X7B func133 [35] [X0g.e] [] (λi x=>X1W.L x) (λi x=>X1W.F x) λi x h _ _=>X1W.p x h
def X7D:Con:=cW T9q [.agg 3] T9q [(true,3)] [(1,115),(2,9)] (λa=>(Xr3 a)) λa=>(XoN a)
def X1r.F(a0:X5Y):Prop:=pIdS a0.2.1/\∀r1,Eq r1 (fIdS a0.2.1,(),())->Xyr a0.2.2/\∀r2,Eq r2 (XxB a0.2.2,(),())->Eq ((a0.1,r1.1,r2.1),(),()) (XoN a0,(),())
theorem X1r.p(a0:X5Y)(h:(Xr3 a0)):X1r.F a0:=by
 unfold X1r.F;simp only[Bs,B0,B1,Yaa,X01,XxB,Xyr,fIdS,pIdS,XoN];obtain⟨h1,h2⟩:=h;exact⟨h1,by omega⟩
def X1r.e:GE:=mE X7D func94 [37] [X1W.e,X0z.e] [] noL (λi x=>X1r.F x) λi x h _ _=>X1r.p x h
structure lcI (a:Eng) (i f:Int) (c:List Ser) (g:List Str) (z0:Int) (z2:List Str) (o0:Int) (z1 o1:List Ser) (o2:List Str):Prop where
 ec:c=a.2.1
 e0:o0=a.1
 e2:o2=a.2.2
 I:cqI a.2.1 i o1
def lcM(a:Eng)(i f:Int)(c:List Ser)(g:List Str)(z0:Int)(z2:List Str)(o0:Int)(z1 o1:List Ser)(o2:List Str):Nat:=cqM a.2.1 i o1
def XaS:Con:=cW T9q [.agg 3] T9q [(true,3)] [(1,115),(2,9)] (λa=>(Xr3 a)) λa=>(XoN a)
def X3u.F(a0:X5Y):Prop:=lE ([]:List U7q) a0.2.2/\(List.length ([]:List U7q)+List.length a0.2.2)*16<=140737488355328/\eQ [(1,.box 2 0),(2,.box 3 0),(3,.box 4 0)]/\lcI a0 0 a0.1 a0.2.1 a0.2.2 0 ([]:List U7q) a0.1 ([]:List U3q) ([]:List U3q) (([]:List U7q)++a0.2.2)/\∀(y1:Int×Int×List U3q×List U7q×Int×List U7q×Int×List U3q×List U3q×List U7q),lcI a0 y1.1 y1.2.1 y1.2.2.1 y1.2.2.2.1 y1.2.2.2.2.1 y1.2.2.2.2.2.1 y1.2.2.2.2.2.2.1 y1.2.2.2.2.2.2.2.1 y1.2.2.2.2.2.2.2.2.1 y1.2.2.2.2.2.2.2.2.2->dC (y1.1<ln y1.2.2.1) (iB y1.1 y1.2.2.1 (iB y1.1 y1.2.2.1 (lE ([]:List (Int×Int)) (gA y1.2.2.1 y1.1 ([],[])).2/\(List.length ([]:List (Int×Int))+List.length (gA y1.2.2.1 y1.1 ([],[])).2)*16<=140737488355328/\lE y1.2.2.2.2.2.2.2.2.1 ([((gA y1.2.2.1 y1.1 ([],[])).1,([]:List (Int×Int))++(gA y1.2.2.1 y1.1 ([],[])).2)]:List U3q)/\(List.length y1.2.2.2.2.2.2.2.2.1+List.length ([((gA y1.2.2.1 y1.1 ([],[])).1,([]:List (Int×Int))++(gA y1.2.2.1 y1.1 ([],[])).2)]:List U3q))*40<=140737488355328/\eQ [(1,.box 2 0),(2,.box 3 0),(3,.box 4 0)]/\lcI a0 (wI (y1.1+1)) y1.2.1 y1.2.2.1 y1.2.2.2.1 y1.2.2.2.2.1 y1.2.2.2.2.2.1 y1.2.2.2.2.2.2.1 y1.2.2.2.2.2.2.2.1 (y1.2.2.2.2.2.2.2.2.1++[((gA y1.2.2.1 y1.1 ([],[])).1,([]:List (Int×Int))++(gA y1.2.2.1 y1.1 ([],[])).2)]) y1.2.2.2.2.2.2.2.2.2/\lcM a0 (wI (y1.1+1)) y1.2.1 y1.2.2.1 y1.2.2.2.1 y1.2.2.2.2.1 y1.2.2.2.2.2.1 y1.2.2.2.2.2.2.1 y1.2.2.2.2.2.2.2.1 (y1.2.2.2.2.2.2.2.2.1++[((gA y1.2.2.1 y1.1 ([],[])).1,([]:List (Int×Int))++(gA y1.2.2.1 y1.1 ([],[])).2)]) y1.2.2.2.2.2.2.2.2.2<lcM a0 y1.1 y1.2.1 y1.2.2.1 y1.2.2.2.1 y1.2.2.2.2.1 y1.2.2.2.2.2.1 y1.2.2.2.2.2.2.1 y1.2.2.2.2.2.2.2.1 y1.2.2.2.2.2.2.2.2.1 y1.2.2.2.2.2.2.2.2.2))) (rE (y1.2.2.2.2.2.2.1,y1.2.2.2.2.2.2.2.2) (XoN a0))
def X3u.L(a0:X5Y):Nat->Option X0f:=XLK [(58,⟨⟨[1,2,3],[4],[2,3,4],[kA 3 1 13800389 115,kA 4 1 13800517 115,kA 4 2 13800519 9]⟩,(.pair (.int .i64) (.pair (.int .i64) (.pair X5C (.pair XfH (.pair (.int .i64) (.pair XfH (.pair (.int .i64) (.pair X5C (.pair X5C XfH))))))))),λst y=>lcI a0 y.1 y.2.1 y.2.2.1 y.2.2.2.1 y.2.2.2.2.1 y.2.2.2.2.2.1 y.2.2.2.2.2.2.1 y.2.2.2.2.2.2.2.1 y.2.2.2.2.2.2.2.2.1 y.2.2.2.2.2.2.2.2.2,λst y=>lcM a0 y.1 y.2.1 y.2.2.1 y.2.2.2.1 y.2.2.2.2.1 y.2.2.2.2.2.1 y.2.2.2.2.2.2.1 y.2.2.2.2.2.2.2.1 y.2.2.2.2.2.2.2.2.1 y.2.2.2.2.2.2.2.2.2⟩)]
theorem X3u.p(a0:X5Y)(h:(Xr3 a0)):X3u.F a0:=by
 delta X3u.F ln wI dC eQ gA iB lE rE tN;simp only[Bs,B0,B1,Yaa,X01,Yay];obtain⟨hn,hl⟩:=h;have k1:=Xbc a0.2.1;simp only[YaV];refine⟨by omega,by omega,⟨rfl,rfl,rfl,by omega,by omega,rfl,rfl⟩,?_⟩;rintro⟨i,f,c,g,z0,z2,o0,z1,o1,o2⟩ ⟨ec,e0,e2,hI⟩;simp only at ec e0 e2 hI ⊢;subst ec e0 e2;have q1:=hI.h1;have q2:=hI.h2;have q4:=hI.h4;refine⟨λhi=>?_,λhi=>?_⟩
 . have k2:=Xg0 (X10 (d:=(([]:List UInt8),([]:List Pt))) (by omega:i.toNat<a0.2.1.length));rw[w64 (x:=i+1) (by omega) (by omega)];exact⟨q1,hi,q1,hi,by omega,by omega,by omega,by omega,⟨rfl,rfl,rfl,Xt6 hI hi rfl⟩,by unfold lcM cqM;omega⟩
 . rw[Xvu hI hi];rfl
def X3u.e:GE:=mE XaS func46 [37] [] [] (λi x=>X3u.L x) (λi x=>X3u.F x) λi x h _ _=>X3u.p x h
structure lrI (a:Eng) (t i f z0:Int) (z2:List Str) (out c:List Ser) (g:List Str) (z1:List Ser):Prop where
 ec:c=a.2.1
 eg:g=a.2.2
 I:raI a.2.1 t i out
def lrM(a:Eng)(t i f z0:Int)(z2:List Str)(out c:List Ser)(g:List Str)(z1:List Ser):Nat:=raM a.2.1 t i out
def X9s:Con:={A:=(.pair T9q (.int .i64)),shA:=[.agg 3,.one],ownA:=[(1,115),(2,9)],R:=T9q,shR:=[(true,3)],fresh:=[(1,115),(2,9)],pre:=λ_ a=>(XoP a.1 a.2),f:=some λ_ a=>((Xbf a.1 a.2),((),()))}
def X2z.F(a0:X5Y)(a1:Int):Prop:=dC (a1<=a0.1) (rE a0 (Xbf a0 a1)) (dC (a1>1099511627776) (rE a0 (Xbf a0 a1)) (eQ [(1,vI a1),(2,.box 3 0),(4,.box 5 0)]/\lrI a0 a1 0 a0.1 0 ([]:List U7q) ([]:List U3q) a0.2.1 a0.2.2 ([]:List U3q)/\∀(y1:Int×Int×Int×List U7q×List U3q×List U3q×List U7q×List U3q),lrI a0 a1 y1.1 y1.2.1 y1.2.2.1 y1.2.2.2.1 y1.2.2.2.2.1 y1.2.2.2.2.2.1 y1.2.2.2.2.2.2.1 y1.2.2.2.2.2.2.2->dC (y1.1<ln y1.2.2.2.2.2.1) (iB y1.1 y1.2.2.2.2.2.1 (X8L (gA y1.2.2.2.2.2.1 y1.1 ([],[])).2 a1 1099511627777/\∀r2,rU r2 (X25 (gA y1.2.2.2.2.2.1 y1.1 ([],[])).2 a1 1099511627777)->dC (ln r2.1>0) (iB y1.1 y1.2.2.2.2.2.1 (lE y1.2.2.2.2.1 ([((gA y1.2.2.2.2.2.1 y1.1 ([],[])).1,r2.1)]:List U3q)/\(List.length y1.2.2.2.2.1+List.length ([((gA y1.2.2.2.2.2.1 y1.1 ([],[])).1,r2.1)]:List U3q))*40<=140737488355328/\eQ [(1,vI a1),(2,.box 3 0),(4,.box 5 0)]/\lrI a0 a1 (wI (y1.1+1)) y1.2.1 y1.2.2.1 y1.2.2.2.1 (y1.2.2.2.2.1++[((gA y1.2.2.2.2.2.1 y1.1 ([],[])).1,r2.1)]) y1.2.2.2.2.2.1 y1.2.2.2.2.2.2.1 y1.2.2.2.2.2.2.2/\lrM a0 a1 (wI (y1.1+1)) y1.2.1 y1.2.2.1 y1.2.2.2.1 (y1.2.2.2.2.1++[((gA y1.2.2.2.2.2.1 y1.1 ([],[])).1,r2.1)]) y1.2.2.2.2.2.1 y1.2.2.2.2.2.2.1 y1.2.2.2.2.2.2.2<lrM a0 a1 y1.1 y1.2.1 y1.2.2.1 y1.2.2.2.1 y1.2.2.2.2.1 y1.2.2.2.2.2.1 y1.2.2.2.2.2.2.1 y1.2.2.2.2.2.2.2)) (eQ [(1,vI a1),(2,.box 3 0),(4,.box 5 0)]/\lrI a0 a1 (wI (y1.1+1)) y1.2.1 y1.2.2.1 y1.2.2.2.1 y1.2.2.2.2.1 y1.2.2.2.2.2.1 y1.2.2.2.2.2.2.1 y1.2.2.2.2.2.2.2/\lrM a0 a1 (wI (y1.1+1)) y1.2.1 y1.2.2.1 y1.2.2.2.1 y1.2.2.2.2.1 y1.2.2.2.2.2.1 y1.2.2.2.2.2.2.1 y1.2.2.2.2.2.2.2<lrM a0 a1 y1.1 y1.2.1 y1.2.2.1 y1.2.2.2.1 y1.2.2.2.2.1 y1.2.2.2.2.2.1 y1.2.2.2.2.2.2.1 y1.2.2.2.2.2.2.2))) (rE (a1,y1.2.2.2.2.1,y1.2.2.2.2.2.2.1) (Xbf a0 a1))))
def X2z.L(a0:X5Y)(a1:Int):Nat->Option X0f:=XLK [(122,⟨⟨[1,2,4],[5,6],[3,5],[kC 5 0 1000643 115,kA 3 1 13800389 115,kA 3 2 13800391 9,kA 5 1 13800645 115]⟩,(.pair (.int .i64) (.pair (.int .i64) (.pair (.int .i64) (.pair XfH (.pair X5C (.pair X5C (.pair XfH X5C))))))),λst y=>lrI a0 a1 y.1 y.2.1 y.2.2.1 y.2.2.2.1 y.2.2.2.2.1 y.2.2.2.2.2.1 y.2.2.2.2.2.2.1 y.2.2.2.2.2.2.2,λst y=>lrM a0 a1 y.1 y.2.1 y.2.2.1 y.2.2.2.1 y.2.2.2.2.1 y.2.2.2.2.2.1 y.2.2.2.2.2.2.1 y.2.2.2.2.2.2.2⟩)]
theorem X2z.p(a0:X5Y)(a1:Int)(h:(XoP a0 a1)):X2z.F a0 a1:=by
 delta X2z.F ln wI dC eQ gA iB lE rE rU vI tN;simp only[Bs,B0,B1,Yaa,X01,X8L,Yay];have hn:tot a0.2.1<=100000000:=h;have k1:=Xbc a0.2.1;refine⟨λh1=>?_,λh1=>⟨λh2=>?_,λh2=>⟨⟨rfl,rfl,by omega,by omega,by simp[X15],by simp⟩,?_⟩⟩⟩
 . unfold Xbf;rw[Yae (by omega)]
 . unfold Xbf;rw[Yae (by omega)]
 rintro⟨i,f,z0,z2,out,c,g,z1⟩ ⟨ec,eg,hI⟩;simp only at ec eg hI ⊢;subst ec eg;have q1:=hI.h1;have q2:=hI.h2;have q4:=hI.h4;refine⟨λhi=>?_,λhi=>?_⟩
 . have dn:∀o,raM a0.2.1 a1 (i+1) o<raM a0.2.1 a1 i out:=λo=>by unfold raM;omega
   rw[w64 (x:=i+1) (by omega) (by omega)];have k2:=Xg0 (X10 (d:=(([]:List UInt8),([]:List Pt))) (by omega:i.toNat<a0.2.1.length));refine⟨q1,hi,by omega,λh6=>⟨q1,hi,by omega,by omega,⟨rfl,rfl,Xvg hI hi (by omega)⟩,dn _⟩,λh6=>⟨⟨rfl,rfl,XxC hI hi (by omega)⟩,dn _⟩⟩
 . unfold Xbf;rw[Yah (by omega),Xw0 hI hi]
def X2z.e:GE:=mE X9s func85 [37] [X2w.e] [] (λi x=>X2z.L x.1 x.2) (λi x=>X2z.F x.1 x.2) λi x h _ _=>X2z.p x.1 x.2 h
def XcE:Con:=cW (.pair T9q (.int .i64)) [.agg 3,.one] T9q [(true,3)] [(1,115),(2,9)] (λa=>(XsO a.1 a.2)) λa=>(Xc6 a.1 a.2)
def X5T.F(a0:X5Y)(a1:Int):Prop:=Xgx (a0.1,a0.2.1,a0.2.2)/\∀r1,Eq r1 (X3D (a0.1,a0.2.1,a0.2.2),(),())->X00 (!r1.1) (Eq ((0,([]:List U3q),([]:List U7q)),(),()) (Xc6 a0 a1,(),())) (Xr3 (a0.1,a0.2.1,a0.2.2)/\∀r2,Eq r2 (XoN (a0.1,a0.2.1,a0.2.2),(),())->X00 (decide (a1>r2.1.1)) (X00 (decide (a1<=(1099511627776:Int))) (Xjl r2.1.2.1 a1/\∀r3,Eq r3 (X15 r2.1.2.1 a1,(),())->Eq ((a1,r3.1,r2.1.2.2),(),()) (Xc6 a0 a1,(),())) (Eq ((r2.1.1,r2.1.2.1,r2.1.2.2),(),()) (Xc6 a0 a1,(),()))) (Eq ((r2.1.1,r2.1.2.1,r2.1.2.2),(),()) (Xc6 a0 a1,(),())))
theorem X5T.p(a0:X5Y)(a1:Int)(h:(XsO a0 a1)):X5T.F a0 a1:=by
 unfold X5T.F;simp only[Bs,B0,B1,Yaa,X01,Yay,Xr3,XoN];have hp:Xgx a0:=h;refine⟨hp,λh1=>?_,λh1=>?_⟩
 . unfold Xc6;rw[Yae (by rw[h1];decide)]
 obtain⟨i1,i2⟩:=XpK h1;have e1:Xc6 a0 a1=Xbf a0 a1:=by unfold Xc6;rw[Yah h1]
 rw[e1];unfold Xbf;refine⟨⟨i1,i2⟩,λh2=>⟨λh3=>⟨i1,?_⟩,λh3=>?_⟩,λh2=>?_⟩
 . rw[Yah (by omega)]
 . rw[Yae (by omega)]
 . rw[Yae (by omega)]
def X5T.e:GE:=mE XcE func144 [37] [X2N.e,X1r.e,X3S.e] [] noL (λi x=>X5T.F x.1 x.2) λi x h _ _=>X5T.p x.1 x.2 h
def XmB(l:List Ser):List Str:=if l=[] then [] else [X0y l]
def Xio(e:Eng):Eng:=if e.2.1=[] then e else(e.1,[],e.2.2++[X0y e.2.1])
def Xex(e:Eng):Eng:=(e.1,e.2.1,XmB (X0l e).1)
def fFl(e:Eng):Eng:=if 4<(Xio e).2.2.length then Xex (Xio e) else Xio e
def eng0:Eng:=(0,[],[])
def Xdw(e:Eng):Eng:=if X3D e=true then fFl e else eng0
structure Xfg (n:Nat) (e:Eng):Prop where
 fl:0<=e.1/\e.1<=1099511627776
 ca:X0Q e.2.1=true
 le:e.2.2.length<=n
 ok:okF e.2.2=true
 pl:X0Q (X0l e).1=true
 st:∀f∈e.2.2,Xoe f
theorem XeG{e:Eng}(h:X3D e=true)(hp:Xgx e):Xfg 4 e:=by
 obtain⟨g1,g2,g3,g4⟩:=X8G h;obtain⟨k1,k2,k3,k4,k5⟩:=Xde g1;exact⟨k1,k2,k4,g2,g4,hp.2⟩
theorem Xfg.R{n:Nat}{e:Eng}(h:Xfg n e):Xdr e.2.1:=(X3i h.ca).1
theorem Xfg.E{n:Nat}{e:Eng}(h:Xfg n e)(hn:n<=5):Xhn e:=by
 have:=X3i h.ca;have:=h.le;exact⟨h.st,h.R,by omega,by omega⟩
theorem Xhe{l:List Ser}(h:X0Q l=true)(hn:l≠[]):X0m (X0y l)=(l,true):=(XjN ⟨⟨h,hn⟩,rfl⟩).symm
theorem XgV{l:List Ser}(h:X0Q l=true):X3C l:=Xlv λx hx=>((X3i h).2.2.2 x hx).1
theorem Xl8:∀(l:List Ser) (n:Nat),(∀x∈l,x.1.length<=8)->(ixF l n).length<=100*l.length
 | [],n,_=>by simp[ixF]
 | x::l,n,h=>by
   have h1:=Xl8 l (n+(X04 x.2).length) λy hy=>h y (by simp[hy]);have h2:=h x (by simp);have v1:=X0x x.1.length;have v2:=X0x n;have v3:=X0x (X04 x.2).length;have v4:=X0x (x.2.getD 0 (0,0)).1;have v5:=X0x (x.2.getD (x.2.length - 1) (0,0)).1;rw[ixF,Yab,Yad];simp only[X7L,Yab];omega
theorem XoH{l:List Ser}(h:X0Q l=true):(X0y l).length<=20000:=by
 by_cases hn:l=[]
 . subst hn;simp[X0y]
 . have L:=RF.lay (s:=X0y l) (l:=l) ⟨⟨h,hn⟩,rfl⟩;have h1:=L.len;have h2:=XeJ l;have h3:=Xfi l;have h4:=L.five;have h5:=Xl8 l 4 λx hx=>((X3i h).2.2.2 x hx).1;omega
theorem XpM{l:List Ser}(h:X0Q l=true):Xoe (X0y l):=YaW (XoH h) (by decide)
theorem Xqg{l:List Ser}(h:X0Q l=true):X0y l=[]↔l=[]:=by
 constructor
 . intro e;by_cases hn:l=[]
   . exact hn
   . have L:=RF.lay (s:=X0y l) (l:=l) ⟨⟨h,hn⟩,rfl⟩;have h1:=L.len;rw[e]at h1;simp at h1
 . rintro rfl;simp[X0y]
theorem Xuw(a:List Str)(f:Str):Xbk (a++[f])=Xbk a++[(X0m f).1]:=by simp[Xbk]
theorem Xof(a:List (List Ser))(l:List Ser):X4x (a++[l])=X4R (X4x a) l:=by simp[X4x,YbH]
theorem Xxm(a:List Str)(f:Str):okF (a++[f])=(okF a&&(X0m f).2):=by simp[okF,List.all_append]
theorem Xps(l:List Ser):X4R l []=l:=rfl
theorem Xj4:∀{t l:List Ser},Xht l->(∀x∈t,Xk7 x.2)->∀k,X99 (X4R l t) k=(X99 l k||X99 t k)
 | [],_,_,_,k=>by simp[X4R,X99]
 | s::t,l,h,ht,k=>by
   obtain⟨a1,a2,_⟩:=Xji h (ht s (by simp));rw[XhA,Xj4 a1 (λx hx=>ht x (by simp[hx])),a2,X9w,Bool.or_assoc]
theorem XtZ{l:List Ser}(h:Xdr l):X4R [] l=l:=
 Xme (X7M Xgv h.2).1 h.1 (λk=>by rw[Xj4 Xgv.1 (λx hx=>(h.2 x hx).1)];rfl)
  (λk=>by rw[X7Q Xgv.1 (λx hx=>(h.2 x hx).1) h.1,XmH,XmU (XlW h.2 k).1])
theorem Xja(l:List Pt)(a b:Int):X25 (X25 l a b) a b=X25 l a b:=by
 unfold X25;rw[List.filter_filter];simp
theorem Xm0{l:List Ser}(h:Xdr l)(f:Int):X15 (X15 l f) f=X15 l f:=
 Xme (X5O (X5O h.1 f) f) (X5O h.1 f)
  (λk=>by rw[(X4U (X5O h.1 f) f k).2,(X4U h.1 f k).1,Xja,(X4U h.1 f k).2])
  (λk=>by rw[(X4U (X5O h.1 f) f k).1,(X4U h.1 f k).1,Xja])
theorem XbZ{e:Eng}(h:okF e.2.2=true):X0l e=(X15 (X4R (X4x (Xbk e.2.2)) e.2.1) e.1,true):=by unfold X0l;rw[Yah h]
theorem Xm3{e:Eng}(h:Xfg 4 e):Xfg 5 (Xio e)/\(Xio e).2.1=[]/\X0l (Xio e)=X0l e:=by
 unfold Xio;split
 . rename_i hn;exact⟨⟨h.fl,h.ca,Nat.le_succ_of_le h.le,h.ok,h.pl,h.st⟩,hn,rfl⟩
 . rename_i hn;have hr:=Xhe h.ca hn;have ho:okF (e.2.2++[X0y e.2.1])=true:=by rw[Xxm,h.ok,hr];rfl
   have hp:X0l (e.1,[],e.2.2++[X0y e.2.1])=X0l e:=by
    rw[XbZ (e:=(e.1,[],e.2.2++[X0y e.2.1])) ho,XbZ h.ok];simp only;rw[Xuw,hr,Xof,Xps]
   refine⟨⟨h.fl,rfl,?_,ho,?_,λf hf=>?_⟩,rfl,hp⟩
   . have:=h.le;simp only[Yab,Yad,Yai];omega
   . rw[hp];exact h.pl
   . rcases Yaf.1 hf with hf | hf
     . exact h.st f hf
     . rw[YaP.1 hf];exact XpM h.ca
theorem Xv5{e:Eng}(h:Xfg 5 e)(hc:e.2.1=[]):Xfg 4 (Xex e)/\(Xex e).2.1=[]/\X0l (Xex e)=X0l e:=by
 have hR:=Xs3 h.R;have hok:okF (XmB (X0l e).1)=true:=by
  unfold XmB;split
  . rfl
  . rename_i hn;have:=Xhe h.pl hn;simp[okF,this]
 have hp:X0l (Xex e)=X0l e:=by
  rw[XbZ (e:=Xex e) hok];have e0:=XbZ h.ok;have e1:X4x (Xbk (XmB (X0l e).1))=(X0l e).1:=by
   unfold XmB;split
   . rename_i hn;rw[hn];rfl
   . rename_i hn;have:=Xhe h.pl hn;show X4x [(X0m (X0y (X0l e).1)).1]=_;rw[this];show X4R [] _=_;exact XtZ hR
  show(X15 (X4R (X4x (Xbk (XmB (X0l e).1))) e.2.1) e.1,true)=_;rw[e1,hc,Xps];have e2:X15 (X0l e).1 e.1=(X0l e).1:=by
   rw[e0];exact Xm0 (X7M (XdW _ [] Xgv (XiH _)) h.R.2) _
  rw[e2,e0]
 refine⟨⟨h.fl,h.ca,?_,hok,by rw[hp];exact h.pl,λf hf=>?_⟩,hc,hp⟩
 . show(XmB (X0l e).1).length<=4;unfold XmB;split<;>simp
 . have hf':f∈XmB (X0l e).1:=hf;unfold XmB at hf';split at hf'
   . cases hf'
   . rw[YaP.1 hf'];exact XpM h.pl
theorem XoO{e:Eng}(h:Xfg 4 e):Xfg 4 (fFl e)/\(fFl e).2.1=[]/\X0l (fFl e)=X0l e:=by
 obtain⟨a,b,c⟩:=Xm3 h;unfold fFl;split
 . obtain⟨d,e',f⟩:=Xv5 a b;exact⟨d,e',f.trans c⟩
 . rename_i hn;exact⟨⟨a.fl,a.ca,by omega,a.ok,a.pl,a.st⟩,b,c⟩
theorem Xfg.mono{n k:Nat}{e:Eng}(h:Xfg n e)(hk:n<=k):Xfg k e:=⟨h.fl,h.ca,YaW h.le hk,h.ok,h.pl,h.st⟩
theorem Xsn{n:Nat}{e:Eng}(h:Xfg n e)(hn:n<=5):Xtk e/\Xiq e=(Xbk e.2.2++[e.2.1],true)/\Xrv (Xbk e.2.2++[e.2.1]) e.1/\Xqf (Xbk e.2.2++[e.2.1]) e.1=(X0l e).1:=by
 have ht:=Xgs e;have hs:=X3i h.ca;have hl:=h.le;refine⟨⟨h.st,by omega⟩,XgD h.ok,?_,Xv4 h.R h.ok⟩;unfold Xrv;omega
theorem Xw7{e:Eng}(h:Xfg 4 e):Xr3 e:=by
 have:=X3i h.ca;have:=h.le;exact⟨by omega,by omega⟩
theorem XrC{e:Eng}(hp:Xgx e):tot (Xdw e).2.1<=2000000/\(Xdw e).2.2.length<=2000000:=by
 unfold Xdw;split
 . rename_i h;obtain⟨g1,g2,g3⟩:=XoO (XeG h hp);have:=g1.le;rw[g2];exact⟨by simp[tot,cL],by omega⟩
 . simp[eng0,tot,cL]
def XaC:Con:=cW X5C [.one] XfH [(false,1)] [(0,9)] (λa=>(X3C a)) λa=>(XmB a)
def X4M.F(a0:(List U3q)):Prop:=X00 (ln a0==(0:Int)) (Eq (([]:List U7q),(),()) (XmB a0,(),())) (X3C a0/\∀r1,Eq r1 (X0y a0,(),())->Eq ([r1.1],(),()) (XmB a0,(),()))
theorem X4M.p(a0:(List U3q))(h:(X3C a0)):X4M.F a0:=by
 delta X4M.F ln;simp only[Bs,B0,B1,Yaa,X01,Yay];have hp:X3C a0:=h;refine⟨λh1=>?_,λh1=>⟨hp,?_⟩⟩
 . have:a0=[]:=YaL.1 (by omega);rw[this];rfl
 . unfold XmB;rw[Yae (λe=>h1 (by rw[e];rfl))]
def X4M.e:GE:=mE XaC func211 [24] [X2f.e] [] noL (λi x=>X4M.F x) λi x h _ _=>X4M.p x h
def pFl(e:Eng):Prop:=Xfg 4 e
def pOne(e:Eng):Prop:=Xfg 5 e
def XaW:Con:=cW T9q [.agg 3] T9q [(true,3)] [(1,115),(2,9)] (λa=>(pFl a)) λa=>(fFl a)
def X4a.F(a0:X5Y):Prop:=Xr3 (a0.1,a0.2.1,a0.2.2)/\∀r1,Eq r1 (XoN (a0.1,a0.2.1,a0.2.2),(),())->X00 (decide (ln r1.1.2.1>(0:Int))) (X3C r1.1.2.1/\∀r2,Eq r2 (X0y r1.1.2.1,(),())->List.length r1.1.2.2+List.length [r2.1]<=9223372036854775807/\(List.length r1.1.2.2+List.length [r2.1])*16<=140737488355328/\X00 (decide (ln (r1.1.2.2++[r2.1])>(4:Int))) (Xhn (r1.1.1,([]:List U3q),r1.1.2.2++[r2.1])/\∀r3,Eq r3 (X0l (r1.1.1,([]:List U3q),r1.1.2.2++[r2.1]),(),())->X3C r3.1.1/\∀r4,Eq r4 (XmB r3.1.1,(),())->Eq ((r1.1.1,([]:List U3q),r4.1),(),()) (fFl a0,(),())) (Eq ((r1.1.1,([]:List U3q),r1.1.2.2++[r2.1]),(),()) (fFl a0,(),()))) (X00 (decide (ln r1.1.2.2>(4:Int))) (Xhn (r1.1.1,r1.1.2.1,r1.1.2.2)/\∀r5,Eq r5 (X0l (r1.1.1,r1.1.2.1,r1.1.2.2),(),())->X3C r5.1.1/\∀r6,Eq r6 (XmB r5.1.1,(),())->Eq ((r1.1.1,r1.1.2.1,r6.1),(),()) (fFl a0,(),())) (Eq ((r1.1.1,r1.1.2.1,r1.1.2.2),(),()) (fFl a0,(),())))
theorem X4a.p(a0:X5Y)(h:(pFl a0)):X4a.F a0:=by
 delta X4a.F ln;simp only[Bs,B0,B1,Yaa,X01,Yay,XoN];have G:Xfg 4 a0:=h;obtain⟨f1,f2,f3⟩:=Xm3 G;have P:=f1.E (by omega);have S5:=XgV f1.pl;have hle:=G.le;have yes:4<(Xio a0).2.2.length->Xex (Xio a0)=fFl a0:=λh=>by unfold fFl;rw[Yah h]
 have no:¬4<(Xio a0).2.2.length->Xio a0=fFl a0:=λh=>by unfold fFl;rw[Yae h]
 have e1:a0.2.1≠[]->Xio a0=(a0.1,[],a0.2.2++[X0y a0.2.1]):=λh=>by unfold Xio;rw[Yae h]
 have e2:a0.2.1=[]->Xio a0=a0:=λh=>by unfold Xio;rw[Yah h]
 refine⟨Xw7 G,λh1=>?_,λh1=>?_⟩
 . have hne:a0.2.1≠[]:=λe=>by rw[e]at h1;simp at h1
   rw[e1 hne]at f1 P S5 yes no;simp only[Yab,Yad,Yai]at yes no;refine⟨XgV G.ca,by omega,by omega,λh2=>?_,λh2=>no (by omega)⟩;exact⟨P,S5,yes (by omega)⟩
 . have he:a0.2.1=[]:=YaL.1 (by omega);rw[e2 he]at yes no;refine⟨λh2=>?_,λh2=>no (by omega)⟩;exfalso;omega
def X4a.e:GE:=mE XaW func184 [37] [X1r.e,X4X.e,X2f.e,X4M.e] [] noL (λi x=>X4a.F x) λi x h _ _=>X4a.p x h
def Xbo:Con:=cW T9q [.agg 3] T9q [(true,3)] [(2,9)] (λa=>(pOne a)) λa=>(Xex a)
def X5e.F(a0:X5Y):Prop:=Xtk (a0.1,a0.2.1,a0.2.2)/\∀r1,Eq r1 (Xiq (a0.1,a0.2.1,a0.2.2),(),())->Xrv r1.1.1 a0.1/\∀r2,Eq r2 (Xqf r1.1.1 a0.1,(),())->X3C r2.1/\∀r3,Eq r3 (X0y r2.1,(),())->X00 (!r3.1==[]) (List.length ([]:List U7q)+List.length [r3.1]<=9223372036854775807/\(List.length ([]:List U7q)+List.length [r3.1])*16<=140737488355328/\Eq ((a0.1,a0.2.1,([]:List U7q)++[r3.1]),(),()) (Xex a0,(),())) (Eq ((a0.1,a0.2.1,([]:List U7q)),(),()) (Xex a0,(),()))
theorem X5e.p(a0:X5Y)(h:(pOne a0)):X5e.F a0:=by
 unfold X5e.F;simp only[Bs,B0,B1,Yaa,X01,Yay];have G:Xfg 5 a0:=h;obtain⟨l1,l2,l3,l4⟩:=Xsn G (by omega);rw[l2];simp only;rw[l4];refine⟨l1,l3,XgV G.pl,λh1=>?_,λh1=>?_⟩
 . have X:(a0.1,a0.2.1,[X0y (X0l a0).1])=Xex a0:=by
    unfold Xex XmB;rw[Yae (λe=>h1 ((Xqg G.pl).2 e))]
   first | exact X | exact⟨by omega,by omega,X⟩
 . unfold Xex XmB;rw[Yah ((Xqg G.pl).1 h1)]
def X5e.e:GE:=mE Xbo func126 [37] [X12.e,X1I.e,X2b.e] [] noL (λi x=>X5e.F x) λi x h _ _=>X5e.p x h
def X9x:Con:={A:=T9q,shA:=[.agg 3],ownA:=[(2,9)],R:=T9q,shR:=[(true,3)],fresh:=[(2,9)],pre:=λ_ a=>(pFl a),f:=some λ_ a=>((fFl a),((),()))}
def X2Q.F(a0:X5Y):Prop:=X00 (decide (ln a0.2.1>(0:Int))) (X3C a0.2.1/\∀r1,Eq r1 (X0y a0.2.1,(),())->List.length a0.2.2+List.length [r1.1]<=9223372036854775807/\(List.length a0.2.2+List.length [r1.1])*16<=140737488355328/\X00 (decide (ln (a0.2.2++[r1.1])>(4:Int))) (pOne (a0.1,([]:List U3q),a0.2.2++[r1.1])/\∀r2,Eq r2 (Xex (a0.1,([]:List U3q),a0.2.2++[r1.1]),(),())->Eq ((r2.1.1,r2.1.2.1,r2.1.2.2),(),()) (fFl a0,(),())) (Eq ((a0.1,([]:List U3q),a0.2.2++[r1.1]),(),()) (fFl a0,(),()))) (X00 (decide (ln a0.2.2>(4:Int))) (pOne (a0.1,a0.2.1,a0.2.2)/\∀r3,Eq r3 (Xex (a0.1,a0.2.1,a0.2.2),(),())->Eq ((r3.1.1,r3.1.2.1,r3.1.2.2),(),()) (fFl a0,(),())) (Eq ((a0.1,a0.2.1,a0.2.2),(),()) (fFl a0,(),())))
theorem X2Q.p(a0:X5Y)(h:(pFl a0)):X2Q.F a0:=by
 delta X2Q.F ln;simp only[Bs,B0,B1,Yaa,X01,Yay];have G:Xfg 4 a0:=h;obtain⟨f1,f2,f3⟩:=Xm3 G;have P:=f1.E (by omega);have S5:=XgV f1.pl;have hle:=G.le;have yes:4<(Xio a0).2.2.length->Xex (Xio a0)=fFl a0:=λh=>by unfold fFl;rw[Yah h]
 have no:¬4<(Xio a0).2.2.length->Xio a0=fFl a0:=λh=>by unfold fFl;rw[Yae h]
 have e1:a0.2.1≠[]->Xio a0=(a0.1,[],a0.2.2++[X0y a0.2.1]):=λh=>by unfold Xio;rw[Yae h]
 have e2:a0.2.1=[]->Xio a0=a0:=λh=>by unfold Xio;rw[Yah h]
 refine⟨λh1=>?_,λh1=>?_⟩
 . have hne:a0.2.1≠[]:=λe=>by rw[e]at h1;simp at h1
   rw[e1 hne]at f1 P S5 yes no;simp only[Yab,Yad,Yai]at yes no;refine⟨XgV G.ca,by omega,by omega,λh2=>?_,λh2=>no (by omega)⟩;exact⟨f1,yes (by omega)⟩
 . have he:a0.2.1=[]:=YaL.1 (by omega);rw[e2 he]at yes no;refine⟨λh2=>?_,λh2=>no (by omega)⟩;exfalso;omega
def X2Q.e:GE:=mE X9x func86 [37] [X2b.e,X5e.e] [] noL (λi x=>X2Q.F x) λi x h _ _=>X2Q.p x h
def XcA:Con:=cW T9q [.agg 3] T9q [(true,3)] [(1,115),(2,9)] (λa=>(Xgx a)) λa=>(Xdw a)
def X5Q.F(a0:X5Y):Prop:=Xgx (a0.1,a0.2.1,a0.2.2)/\∀r1,Eq r1 (X3D (a0.1,a0.2.1,a0.2.2),(),())->X00 (!r1.1) (Eq ((0,([]:List U3q),([]:List U7q)),(),()) (Xdw a0,(),())) (pFl (a0.1,a0.2.1,a0.2.2)/\∀r2,Eq r2 (fFl (a0.1,a0.2.1,a0.2.2),(),())->Eq ((r2.1.1,r2.1.2.1,r2.1.2.2),(),()) (Xdw a0,(),()))
theorem X5Q.p(a0:X5Y)(h:(Xgx a0)):X5Q.F a0:=by
 unfold X5Q.F;simp only[Bs,B0,B1,Yaa,X01,Yay];have hp:Xgx a0:=h;refine⟨hp,λh1=>?_,λh1=>?_⟩
 . unfold Xdw;rw[Yae (by rw[h1];decide)];rfl
 have G:=XeG h1 hp;obtain⟨g1,g2,g3⟩:=XoO G;have X:Xdw a0=fFl a0:=by unfold Xdw;rw[Yah h1]
 rw[X];exact⟨G,rfl⟩
def X5Q.e:GE:=mE XcA func145 [37] [X2N.e,X4a.e] [] noL (λi x=>X5Q.F x) λi x h _ _=>X5Q.p x h
theorem Xmc{α K:Type}{lt:K->K->Bool}(o:Xxt lt){key:α->K}:∀{w v:List α},Asc lt key v->Asc lt key w->(∀x∈v,x∈w)->v.length<=w.length
 | [],v,_,_,h=>by
   cases v with
   | nil=>simp
   | cons a v=>have:=h a (by simp);cases this
 | b::w,[],_,_,_=>by simp
 | b::w,a::v,hv,hw,h=>by
   obtain⟨v1,v2⟩:=YaT.1 hv;obtain⟨w1,w2⟩:=YaT.1 hw;have key_ne:∀x∈v,lt (key a) (key x)=true:=v1;rcases Yak.1 (h a (by simp)) with e | ha
   . subst e;have:=Xmc o v2 w2 λx hx=>by
      rcases Yak.1 (h x (by simp[hx])) with e | h2
      . have:=v1 x hx;rw[e,o.irr]at this;cases this
      . exact h2
     simp;omega
   . have:=Xmc o hv w2 λx hx=>by
      rcases Yak.1 (h x hx) with e | h2
      . subst e;rcases Yak.1 hx with e2 | h3
        . subst e2;exact ha
        . have p1:=v1 x h3;have p2:=w1 a ha;have:=o.tr _ _ _ p1 p2;rw[o.irr]at this;cases this
      . exact h2
     simp at this ⊢;omega
theorem Xnr{A C q:List Pt}{f:Int}(hA:Xk7 A)(hC:Xk7 C)(hq:Xk7 q)(h:∀y∈q,f<=y.1/\y.1<1099511627777):
 X4r (X25 (X4r A C) f 1099511627777) q=X25 (X4r A (X4r C q)) f 1099511627777:=by
 have hCq:=X8W (b:=q) hC;refine Xj1 Xnb (X8W (XhD (X8W hA) _ _)) (XhD (X8W hA) _ _) λx=>?_;rw[X48 hq,Xfz,Xfz,X48 hC,X48 hCq,X48 hq];constructor
 . rintro (h1 | ⟨⟨h1 | ⟨h1,h2⟩,h3⟩,h4⟩)
   . exact⟨.inl (.inl h1),h x h1⟩
   . exact⟨.inl (.inr ⟨h1,h4⟩),h3⟩
   . refine⟨.inr ⟨h1,λy hy=>?_⟩,h3⟩;rcases(X48 hq).1 hy with hy | ⟨hy,_⟩
     . exact h4 y hy
     . exact h2 y hy
 . rintro⟨(h1 | ⟨h1,h2⟩) | ⟨h1,h2⟩,h3⟩
   . exact .inl h1
   . exact .inr ⟨⟨.inl h1,h3⟩,h2⟩
   . refine .inr ⟨⟨.inr ⟨h1,λy hy e=>?_⟩,h3⟩,λy hy=>h2 y ((X48 hq).2 (.inl hy))⟩;by_cases hz:∀z∈q,z.1≠y.1
     . exact h2 y ((X48 hq).2 (.inr ⟨hy,hz⟩)) e
     . simp only[ne_eq,Classical.not_forall,Classical.not_not]at hz;obtain⟨z,hz1,hz2⟩:=hz;exact h2 z ((X48 hq).2 (.inl hz1)) (hz2.trans e)
theorem XsR(k j:Str)(p:List Pt):X50 [(k,p)] j=if k=j then p else []:=by rw[X3p];rfl
def eX(e:Eng)(k:Str)(p:List Pt):Eng:=(e.1,X4R e.2.1 [(k,p)],e.2.2)
theorem XrT{e:Eng}{k:Str}{p:List Pt}(hc:Xdr e.2.1)(ho:okF e.2.2=true)(hp:XfB p)(hn:p≠[])(hf:∀y∈p,e.1<=y.1):
 X4R (X0l e).1 [(k,p)]=(X0l (eX e k p)).1:=by
 have hX:Xdr (X4x (Xbk e.2.2)):=XdW _ [] Xgv (XiH _);have hS:∀x∈[((k,p):Ser)],XfB x.2:=λx hx=>by rw[YaP.1 hx];exact hp
 have hSA:∀x∈[((k,p):Ser)],Xk7 x.2:=λx hx=>(hS x hx).1;have a1:Xht [((k,p):Ser)]:=YcO _ _;have hc2:Xdr (X4R e.2.1 [(k,p)]):=X7M hc hS;have hX1:=X7M hX hc.2;have hX2:=X7M hX hc2.2;rw[XbZ ho,XbZ (e:=eX e k p) ho];show X4R (X15 (X4R (X4x (Xbk e.2.2)) e.2.1) e.1) [(k,p)]=X15 (X4R (X4x (Xbk e.2.2)) (X4R e.2.1 [(k,p)])) e.1;have hpts:∀j,X50 (X4R (X15 (X4R (X4x (Xbk e.2.2)) e.2.1) e.1) [(k,p)]) j=X25 (X50 (X4R (X4x (Xbk e.2.2)) (X4R e.2.1 [(k,p)])) j) e.1 1099511627777:=λj=>by
  rw[X7Q (X5O hX1.1 _) hSA a1,(X4U hX1.1 _ j).1,X7Q hX.1 (λx hx=>(hc.2 x hx).1) hc.1,X7Q hX.1 (λx hx=>(hc2.2 x hx).1) hc2.1,X7Q hc.1 hSA a1];refine Xnr (XlW hX.2 j).1 (XlW hc.2 j).1 (XlW hS j).1 λy hy=>?_;rw[XsR]at hy;split at hy
  . have:=hp.2 y hy;have:=hf y hy;omega
  . cases hy
 refine Xme (X7M (Xpj hX1 _) hS).1 (X5O hX2.1 _) (λj=>?_) (λj=>by rw[hpts,(X4U hX2.1 _ j).1]);rw[(X4U hX2.1 _ j).2,<-hpts,Xj4 (X5O hX1.1 _) hSA,X7Q (X5O hX1.1 _) hSA a1,(X4U hX1.1 _ j).2,<-(X4U hX1.1 _ j).1,XsR];by_cases hj:k=j
 . subst hj;have:X99 [((k,p):Ser)] k=true:=by simp[X99]
   rw[this,Ycv,Yah rfl];have h1:∃y,y∈p:=YcE p hn;obtain⟨y,hy⟩:=h1;have h2:=(X48 (a:=X50 (X15 (X4R (X4x (Xbk e.2.2)) e.2.1) e.1) k) hp.1).2 (.inl hy);cases hm:X4r (X50 (X15 (X4R (X4x (Xbk e.2.2)) e.2.1) e.1) k) p with
   | nil=>rw[hm]at h2;cases h2
   | cons=>rfl
 . have:X99 [((k,p):Ser)] j=false:=by simp[X99,hj]
   rw[this,Ydj,Yae hj,Xgg]
theorem Xx2{l:List Pt}(h:XfB l)(h2:∀x∈l,-1099511627776<=x.2/\x.2<=1099511627776)(h3:l.length<=60):X0N l=true:=by
 unfold X0N;rw[Yac,Yaj];refine⟨h3,XcR λj hj=>?_⟩;have m:=X10 (d:=((0,0):Pt)) hj;have r:=h.2 _ m;have s:=h2 _ m;unfold Xig fIn;simp only[Yac,Ya5,Yaj];refine⟨r,s,?_⟩;by_cases e:j=0
 . exact .inl e
 . right;have:=X6g (0,0) h.1 (i:=j - 1) (j:=j) (by omega) hj;simpa [ltI] using this
theorem XsQ{l:List Pt}(h:X0N l=true):∀x∈l,-1099511627776<=x.2/\x.2<=1099511627776:=λx hx=>by
 unfold X0N at h;simp only[Yac,Yaj,XhU,Ya7,YbV]at h;obtain⟨i,hi,e⟩:=YaM hx;have:=h.2 i hi;unfold Xig fIn at this;simp only[Yac,Yaj]at this;rw[X0O hi,e]at this;exact this.2.1
theorem Xru{l:List Ser}(h:X0Q l=true):∀x∈l,X6U x.1=true:=λx hx=>by
 simp only[X0Q,Yac,Yaj,XhU,Ya7,YbV]at h;obtain⟨i,hi,e⟩:=YaM hx;have:=h.2 i hi;simp only[XnN,Yac]at this;rw[X0O hi,e]at this;exact this.1
theorem XtV{l:List Ser}(h:Xht l)(h5:l.length<=5)(hx:∀x∈l,X6U x.1=true/\x.2≠[]/\X0N x.2=true):X0Q l=true:=by
 unfold X0Q;rw[Yac,Yaj];refine⟨h5,XcR λj hj=>?_⟩;have m:=hx _ (X10 (d:=(([],[]):Ser)) hj);unfold XnN;simp only[Yac,Ya5,Yaj];refine⟨m.1,?_,λe=>m.2.1 (YaL.1 e),m.2.2⟩;by_cases e:j=0
 . exact .inl e
 . right;exact X6g ([],[]) h (i:=j - 1) (j:=j) (by omega) hj
theorem XuZ{e:Eng}(hc:Xdr e.2.1)(ho:okF e.2.2=true)(hne:∀x∈e.2.1,x.2≠[])(hf:∀x∈e.2.1,∀y∈x.2,e.1<=y.1)(hp:X0Q (X0l e).1=true):X0Q e.2.1=true:=by
 have hX:Xdr (X4x (Xbk e.2.2)):=XdW _ [] Xgv (XiH _);have hR:=Xs3 hc;have hin:∀x∈e.2.1,∀y∈x.2,y∈X50 (X0l e).1 x.1:=λx hx y hy=>by
  have hX1:=X7M hX hc.2;rw[XbZ ho];simp only;rw[(X4U hX1.1 _ _).1,X7Q hX.1 (λx hx=>(hc.2 x hx).1) hc.1,Xfz,((XeI hc.1).1 hx).2,X48 (hc.2 x hx).1];have h1:=(hc.2 x hx).2 y hy;have h2:=hf x hx y hy;exact⟨.inl hy,h2,by omega⟩
 have hm:∀x∈e.2.1,(x.1,X50 (X0l e).1 x.1)∈(X0l e).1:=λx hx=>by
  obtain⟨y,hy⟩:=YcE _ (hne x hx);obtain⟨z,hz,e1,_⟩:=XrD (hin x hx y hy);have:=((XeI hR.1).1 hz).2;rw[<-e1,this];exact hz
 obtain⟨s1,s2,s3,s4⟩:=X3i hp;refine XtV hc.1 ?_ λx hx=>⟨Xru hp (x.1,X50 (X0l e).1 x.1) (hm x hx),hne x hx,?_⟩
 . have h1:Asc Op.bytesLess id (e.2.1.map Prod.fst):=Ydn.2 hc.1;have h2:Asc Op.bytesLess id ((X0l e).1.map Prod.fst):=Ydn.2 hR.1;have:=Xmc X71 h1 h2 λk hk=>by
    obtain⟨x,hx,rfl⟩:=YaN.1 hk;exact YaN.2 ⟨_,hm x hx,rfl⟩
   simp only[YcG]at this;omega
 . have hq:=(s4 _ (hm x hx)).2.2;have hr:=hc.2 x hx;refine Xx2 hr (λy hy=>XsQ hq y (hin x hx y hy)) ?_;have h1:=Xmc Xnb hr.1 (hR.2 _ (hm x hx)).1 (hin x hx);have h2:=(Xee hq).2;simp only at h1 h2;omega
theorem XxX{e:Eng}(hc:Xdr e.2.1)(h:Xmu e.2.1 e=false):∀x∈e.2.1,∀y∈x.2,e.1<=y.1:=λx hx y hy=>by
 have h1:=List.any_eq_false.1 h x hx;unfold XoE at h1;simp only[Yaj,Int.not_lt]at h1;obtain⟨i,hi,e1⟩:=YaM hy;by_cases h0:i=0
 . subst h0;rw[X0O hi,e1]at h1;exact h1
 . have:=X6g (0,0) (hc.2 x hx).1 (i:=0) (j:=i) (by omega) hi;rw[X0O hi,e1]at this;simp only[ltI,Yaj]at this;omega
theorem Xiw{e:Eng}{k:Str}{p:List Pt}(h:X3D e=true)(hq:Xgx e)(hp:X0N p=true)(hn:p≠[])(hf:¬(p.getD 0 (0,0)).1<e.1):
 X4R (X0l e).1 [(k,p)]=(X0l (eX e k p)).1/\(X0Q (X0l (eX e k p)).1=true->Xfg 4 (eX e k p)):=by
 have G:=XeG h hq;obtain⟨g1,g2,g3,g4⟩:=X8G h;obtain⟨k1,k2,k3,k4,k5⟩:=Xde g1;have hpR:=(Xee hp).1;have hpl:∀y∈p,e.1<=y.1:=λy hy=>by
  obtain⟨i,hi,e1⟩:=YaM hy;by_cases h0:i=0
  . subst h0;rw[X0O hi,e1]at hf;omega
  . have:=X6g (0,0) hpR.1 (i:=0) (j:=i) (by omega) hi;rw[X0O hi,e1]at this;simp only[ltI,Yaj]at this;omega
 refine⟨XrT G.R g2 hpR hn hpl,λhs=>?_⟩;have hS:∀x∈[((k,p):Ser)],XfB x.2:=λx hx=>by rw[YaP.1 hx];exact hpR
 have hc2:Xdr (eX e k p).2.1:=X7M G.R hS;have hlow:=XxX G.R k5;have hmem:∀x∈(eX e k p).2.1,x.2≠[]/\∀y∈x.2,e.1<=y.1:=λx hx=>by
  have hx':x∈Xjb e.2.1 (k,p):=hx;rcases Xmd hx' with h1 | rfl | ⟨z,hz,rfl⟩
  . exact⟨((X3i G.ca).2.2.2 x h1).2.1,hlow x h1⟩
  . exact⟨hn,hpl⟩
  . refine⟨λe2=>?_,λy hy=>?_⟩
    . obtain⟨y,hy⟩:=YcE p hn;have:=(X48 (a:=z.2) hpR.1).2 (.inl hy);simp only at e2;rw[e2]at this;cases this
    . rcases(X48 hpR.1).1 hy with h1 | ⟨h1,_⟩
      . exact hpl y h1
      . exact hlow z hz y h1
 exact⟨k1,XuZ hc2 g2 (λx hx=>(hmem x hx).1) (λx hx=>(hmem x hx).2) hs,k4,g2,hs,hq.2⟩
def XfW(k:Str)(p:List Pt):Bool->List Ser->List Ser
 | put,[]=>if put then [] else [(k,p)]
 | put,x::l=>(if put=false/\Op.bytesLess k x.1=true then [(k,p)] else [])++((if x.1=k then(x.1,X4r x.2 p) else x)::XfW k p (put||(Op.bytesLess k x.1||decide (x.1=k))) l)
def XdT(l:List Ser)(k:Str)(p:List Pt):List Ser:=XfW k p false l
theorem Xp0{k:Str}{p:List Pt}:∀{l:List Ser},(∀x∈l,x.1≠k)->XfW k p true l=l
 | [],_=>rfl
 | x::l,h=>by
   have h1:=h x (by simp);simp only[XfW,Yae h1,Ydp,Xp0 (l:=l) λy hy=>h y (by simp[hy])];simp
theorem XlU{k:Str}{p:List Pt}:∀{l:List Ser},Xht l->XdT l k p=Xjb l (k,p)
 | [],_=>by simp[XdT,XfW,Xjb,X99,pos]
 | x::l,h=>by
   obtain⟨h1,h2⟩:=YaT.1 h;have ih:=XlU (k:=k) (p:=p) h2;have ha:Xht (x::l):=h;by_cases hx:Op.bytesLess k x.1=true
   . have hne:∀y∈x::l,y.1≠k:=λy hy e=>by
      rcases Yak.1 hy with rfl | hy
      . rw[e,X71.irr]at hx;cases hx
      . have:=X71.tr _ _ _ hx (h1 y hy);rw[e,X71.irr]at this;cases this
     have hk:X99 (x::l) k=false:=by
      rw[Ybn];intro hh;obtain⟨z,hz,e⟩:=X7X.1 hh;exact hne z hz e
     have hxk:Op.bytesLess x.1 k=false:=by
      rw[Ybn];intro hh;have:=X71.tr _ _ _ hh hx;rw[X71.irr]at this;cases this
     have e1:pos Op.bytesLess Prod.fst k (x::l)=0:=by simp[pos,YbF,hxk]
     have hid:XfW k p true l=l:=Xp0 λy hy=>hne y (Yan _ hy);unfold Xjb;simp only;rw[Yae (by rw[hk];decide),e1];simp only[XdT,XfW,hx,Ydp,Ycv,Yae (hne x (by simp)),hid];simp
   . have hx':Op.bytesLess k x.1=false:=by simpa using hx
     by_cases he:x.1=k
     . subst he;have hk:X99 (x::l) x.1=true:=by simp[X99]
       have e1:pos Op.bytesLess Prod.fst x.1 (x::l)=0:=by simp[pos,YbF,hx']
       have hne:∀y∈l,y.1≠x.1:=λy hy e=>by have:=h1 y hy;rw[e,X71.irr]at this;cases this
       unfold Xjb;simp only;rw[Yah hk,e1];simp only[XdT,XfW,hx',decide_true,Ycv,Xp0 hne];simp
     . have hxk:Op.bytesLess x.1 k=true:=by
        rcases X71.tri x.1 k with h3 | h3 | h3
        . exact h3
        . exact absurd h3 he
        . rw[hx']at h3;cases h3
       have e0:XdT (x::l) k p=x::XdT l k p:=by
        simp only[XdT,XfW,hx',Yae he,Yav he];simp
       have e1:pos Op.bytesLess Prod.fst k (x::l)=pos Op.bytesLess Prod.fst k l+1:=by simp[pos,YbF,hxk]
       have e2:X99 (x::l) k=X99 l k:=by rw[X9w];simp[he]
       rw[e0,ih];unfold Xjb;simp only;rw[e2,e1]
       split<;>simp
def Xag(e:Eng)(k:Str)(p:List Pt):Eng×Int:=
 if X3D e=true then
  if X6U k=true/\X0N p=true/\p≠[] then
   if (p.getD 0 (0,0)).1<e.1 then(e,2)
   else if X0Q (X0l (eX e k p)).1=true then(if 40<XfC (eX e k p).2.1 then fFl (eX e k p) else eX e k p,0)
   else(e,3)
  else(e,1)
 else(eng0,1)
def Xud(l:List Ser)(k:Str)(p:List Pt):Prop:=tot l<=100000000/\p.length<=100000000
structure itI (l:List Ser) (k:Str) (p:List Pt) (out:List Ser) (put:Bool) (i:Int):Prop where
 h1:0<=i
 h2:i<=l.length
 h3:out++XfW k p put (l.drop i.toNat)=XdT l k p
 h4:(out.length:Int)<=2*i
def itM(l:List Ser)(k:Str)(p:List Pt)(out:List Ser)(put:Bool)(i:Int):Nat:=(l.length - i).toNat
theorem XwF{l:List Ser}{k:Str}{p:List Pt}{out o':List Ser}{put put':Bool}{i:Int}(h:itI l k p out put i)(hi:i<l.length)(hl:(o'.length:Int)<=2*i+2)(he:∀r,o'++XfW k p put' r=out++XfW k p put (l.getD i.toNat ([],[])::r)):itI l k p o' put' (i+1):=by
 obtain⟨h1,h2,h3,h4⟩:=h;refine⟨by omega,by omega,?_,by omega⟩;rw[tn1 h1,he,<-X3J ([],[]) (by omega)];exact h3
theorem Xye{l:List Ser}{k:Str}{p:List Pt}{out:List Ser}{put:Bool}{i:Int}(h:itI l k p out put i)(hi:¬i<l.length):(put=false->out++[(k,p)]=XdT l k p)/\(put=true->out=XdT l k p):=by
 obtain⟨h1,h2,h3,h4⟩:=h;rw[show i.toNat=l.length by omega,YbO]at h3;refine⟨λe=>?_,λe=>?_⟩
 . subst e;simpa [XfW] using h3
 . subst e;simpa [XfW] using h3
theorem Xx6{e:Eng}{k:Str}{p:List Pt}(hp:Xgx e):tot (Xag e k p).1.2.1<=2000000/\(Xag e k p).1.2.2.length<=2000000:=by
 unfold Xag;split
 . rename_i h;have G:=XeG h hp;have g1:=X3i G.ca;have g2:=G.le;have same:tot e.2.1<=2000000/\e.2.2.length<=2000000:=⟨by omega,by omega⟩
   split
   . rename_i hq;split
     . exact same
     . rename_i hf;split
       . rename_i hs;have X:=(Xiw h hp hq.2.1 hq.2.2 hf).2 hs;have x1:=X3i X.ca;have x2:=X.le;split
         . obtain⟨a1,a2,a3⟩:=XoO X;have:=a1.le;simp only;rw[a2];exact⟨by simp[tot,cL],by omega⟩
         . exact show tot (eX e k p).2.1<=2000000/\(eX e k p).2.2.length<=2000000 from⟨by omega,by omega⟩
       . exact same
   . exact same
 . simp[eng0,tot,cL]
def Xax:Con:=cQ (.pair X5C T5q) [.one,.one,.one] X5C [(false,1)] (λa=>(Xud a.1 a.2.1 a.2.2)) λa=>(XdT a.1 a.2.1 a.2.2)
def X2Z.F(a0:(List U3q))(a1:U7q)(a2:U8q):Prop:=eQ [(0,vL T5q a0),(1,vS a1),(2,vL T0q a2)]/\itI a0 a1 a2 ([]:List U3q) false 0/\∀(y1:List U3q×Bool×Int),itI a0 a1 a2 y1.1 y1.2.1 y1.2.2->dC (y1.2.2<ln a0) (X00 (!y1.2.1) (iB y1.2.2 a0 (X00 (Op.bytesLess a1 (gA a0 y1.2.2 ([],[])).1) (lE ([]:List (Int×Int)) a2/\(List.length ([]:List (Int×Int))+List.length a2)*16<=140737488355328/\lE y1.1 [(a1,([]:List (Int×Int))++a2)]/\(List.length y1.1+List.length [(a1,([]:List (Int×Int))++a2)])*40<=140737488355328/\iB y1.2.2 a0 (X00 ((gA a0 y1.2.2 ([],[])).1==a1) (Xn1 (gA a0 y1.2.2 ([],[])).2 a2/\∀r2,rU r2 (XlO (gA a0 y1.2.2 ([],[])).2 a2)->lE (y1.1++[(a1,([]:List (Int×Int))++a2)]) ([((gA a0 y1.2.2 ([],[])).1,r2.1)]:List U3q)/\(List.length (y1.1++[(a1,([]:List (Int×Int))++a2)])+List.length ([((gA a0 y1.2.2 ([],[])).1,r2.1)]:List U3q))*40<=140737488355328/\eQ [(0,vL T5q a0),(1,vS a1),(2,vL T0q a2)]/\itI a0 a1 a2 (y1.1++[(a1,([]:List (Int×Int))++a2)]++[((gA a0 y1.2.2 ([],[])).1,r2.1)]) true (wI (y1.2.2+1))/\itM a0 a1 a2 (y1.1++[(a1,([]:List (Int×Int))++a2)]++[((gA a0 y1.2.2 ([],[])).1,r2.1)]) true (wI (y1.2.2+1))<itM a0 a1 a2 y1.1 y1.2.1 y1.2.2) (lE (y1.1++[(a1,([]:List (Int×Int))++a2)]) ([((gA a0 y1.2.2 ([],[])).1,(gA a0 y1.2.2 ([],[])).2)]:List U3q)/\(List.length (y1.1++[(a1,([]:List (Int×Int))++a2)])+List.length ([((gA a0 y1.2.2 ([],[])).1,(gA a0 y1.2.2 ([],[])).2)]:List U3q))*40<=140737488355328/\eQ [(0,vL T5q a0),(1,vS a1),(2,vL T0q a2)]/\itI a0 a1 a2 (y1.1++[(a1,([]:List (Int×Int))++a2)]++[((gA a0 y1.2.2 ([],[])).1,(gA a0 y1.2.2 ([],[])).2)]) true (wI (y1.2.2+1))/\itM a0 a1 a2 (y1.1++[(a1,([]:List (Int×Int))++a2)]++[((gA a0 y1.2.2 ([],[])).1,(gA a0 y1.2.2 ([],[])).2)]) true (wI (y1.2.2+1))<itM a0 a1 a2 y1.1 y1.2.1 y1.2.2))) (iB y1.2.2 a0 (X00 ((gA a0 y1.2.2 ([],[])).1==a1) (Xn1 (gA a0 y1.2.2 ([],[])).2 a2/\∀r3,rU r3 (XlO (gA a0 y1.2.2 ([],[])).2 a2)->lE y1.1 ([((gA a0 y1.2.2 ([],[])).1,r3.1)]:List U3q)/\(List.length y1.1+List.length ([((gA a0 y1.2.2 ([],[])).1,r3.1)]:List U3q))*40<=140737488355328/\eQ [(0,vL T5q a0),(1,vS a1),(2,vL T0q a2)]/\itI a0 a1 a2 (y1.1++[((gA a0 y1.2.2 ([],[])).1,r3.1)]) true (wI (y1.2.2+1))/\itM a0 a1 a2 (y1.1++[((gA a0 y1.2.2 ([],[])).1,r3.1)]) true (wI (y1.2.2+1))<itM a0 a1 a2 y1.1 y1.2.1 y1.2.2) (lE y1.1 ([((gA a0 y1.2.2 ([],[])).1,(gA a0 y1.2.2 ([],[])).2)]:List U3q)/\(List.length y1.1+List.length ([((gA a0 y1.2.2 ([],[])).1,(gA a0 y1.2.2 ([],[])).2)]:List U3q))*40<=140737488355328/\eQ [(0,vL T5q a0),(1,vS a1),(2,vL T0q a2)]/\itI a0 a1 a2 (y1.1++[((gA a0 y1.2.2 ([],[])).1,(gA a0 y1.2.2 ([],[])).2)]) y1.2.1 (wI (y1.2.2+1))/\itM a0 a1 a2 (y1.1++[((gA a0 y1.2.2 ([],[])).1,(gA a0 y1.2.2 ([],[])).2)]) y1.2.1 (wI (y1.2.2+1))<itM a0 a1 a2 y1.1 y1.2.1 y1.2.2))))) (iB y1.2.2 a0 (X00 ((gA a0 y1.2.2 ([],[])).1==a1) (Xn1 (gA a0 y1.2.2 ([],[])).2 a2/\∀r4,rU r4 (XlO (gA a0 y1.2.2 ([],[])).2 a2)->lE y1.1 ([((gA a0 y1.2.2 ([],[])).1,r4.1)]:List U3q)/\(List.length y1.1+List.length ([((gA a0 y1.2.2 ([],[])).1,r4.1)]:List U3q))*40<=140737488355328/\eQ [(0,vL T5q a0),(1,vS a1),(2,vL T0q a2)]/\itI a0 a1 a2 (y1.1++[((gA a0 y1.2.2 ([],[])).1,r4.1)]) true (wI (y1.2.2+1))/\itM a0 a1 a2 (y1.1++[((gA a0 y1.2.2 ([],[])).1,r4.1)]) true (wI (y1.2.2+1))<itM a0 a1 a2 y1.1 y1.2.1 y1.2.2) (lE y1.1 ([((gA a0 y1.2.2 ([],[])).1,(gA a0 y1.2.2 ([],[])).2)]:List U3q)/\(List.length y1.1+List.length ([((gA a0 y1.2.2 ([],[])).1,(gA a0 y1.2.2 ([],[])).2)]:List U3q))*40<=140737488355328/\eQ [(0,vL T5q a0),(1,vS a1),(2,vL T0q a2)]/\itI a0 a1 a2 (y1.1++[((gA a0 y1.2.2 ([],[])).1,(gA a0 y1.2.2 ([],[])).2)]) y1.2.1 (wI (y1.2.2+1))/\itM a0 a1 a2 (y1.1++[((gA a0 y1.2.2 ([],[])).1,(gA a0 y1.2.2 ([],[])).2)]) y1.2.1 (wI (y1.2.2+1))<itM a0 a1 a2 y1.1 y1.2.1 y1.2.2)))) (X00 (!y1.2.1) (lE ([]:List (Int×Int)) a2/\(List.length ([]:List (Int×Int))+List.length a2)*16<=140737488355328/\lE y1.1 [(a1,([]:List (Int×Int))++a2)]/\(List.length y1.1+List.length [(a1,([]:List (Int×Int))++a2)])*40<=140737488355328/\rE (y1.1++[(a1,([]:List (Int×Int))++a2)]) (XdT a0 a1 a2)) (rE y1.1 (XdT a0 a1 a2)))
def X2Z.L(a0:(List U3q))(a1:U7q)(a2:U8q):Nat->Option X0f:=XLK [(122,⟨⟨[0,1,2],[7,8,9],[],[kD 7 0 1000899 115]⟩,(.pair X5C (.pair .bool (.int .i64))),λst y=>itI a0 a1 a2 y.1 y.2.1 y.2.2,λst y=>itM a0 a1 a2 y.1 y.2.1 y.2.2⟩)]
theorem X2Z.p(a0:(List U3q))(a1:U7q)(a2:U8q)(h:(Xud a0 a1 a2)):X2Z.F a0 a1 a2:=by
 delta X2Z.F ln wI dC eQ gA iB lE rE rU vL vS tN;simp only[Bs,B0,B1,Yaa,X01,XlO,Xn1,Yay,YaV];obtain⟨hn,hl⟩:=h;have k1:=Xbc a0;refine⟨⟨by omega,by omega,rfl,by simp⟩,?_⟩;rintro⟨out,put,i⟩ hI;simp only at hI ⊢;have q1:=hI.h1;have q2:=hI.h2;have q4:=hI.h4;have hen:=Xye hI;have hm:i<(a0.length:Int)->((a0.getD i.toNat ([],[])).2.length:Int)+1<=tot a0:=λhi=>Xg0 (X10 (by omega));have st:∀{o' put'},i<(a0.length:Int)->_->_->itI a0 a1 a2 o' put' (i+1):=λhi=>XwF hI hi;have dn:∀o p,i<(a0.length:Int)->itM a0 a1 a2 o p (i+1)<itM a0 a1 a2 out put i:=λo p h=>by unfold itM;omega
 generalize hx:a0.getD i.toNat ([],[])=x at st hm ⊢
 repeat' (with_reducible (first | (refine And.intro ?_ ?_) | intro _))
 all_goals (try simp (disch:=omega) only[w64,Yab,Yad,Yai]at*)
 all_goals (try have hm2:=hm ‹_›)
 all_goals (first
  | omega
  | exact dn _ _ ‹_›
  | exact(hen ‹_›).1 ‹_›
  | exact(hen ‹_›).2 ‹_›
  | (refine st ‹_› (by simp only[Yab,Yad,Yai];omega) λr=>?_;simp only[XfW,Yam,Ybc,YaV];first | (simp[*];done) | (simp_all;done))
  | skip)
def X2Z.e:GE:=mE Xax func119 [35] [X2X.e] [] (λi x=>X2Z.L x.1 x.2.1 x.2.2) (λi x=>X2Z.F x.1 x.2.1 x.2.2) λi x h _ _=>X2Z.p x.1 x.2.1 x.2.2 h
def XkH(e:Eng):(List (List Ser)×Bool)×List Str:=(Xiq e,e.2.2)
def X7u:Con:={A:=T9q,shA:=[.agg 3],backA:=[(2,9)],B:=XfH,R:=(.pair (.list X5C) .bool),shR:=[(false,1),(false,1)],pre:=λ_ a=>(Xtk a),f:=some λ_ a=>((XkH a).1,((),(XkH a).2))}
def X1O.F(a0:X5Y):Prop:=eQ [(0,.val true [.int .i64 a0.1,.lst T5q a0.2.1 none,.own .str 6]),(1,.box 2 0)]/\lyI a0 ([]:List (List U3q)) 0 a0.1 a0.2.1 a0.2.2/\∀(y1:List (List U3q)×Int×X5Y),lyI a0 y1.1 y1.2.1 y1.2.2.1 y1.2.2.2.1 y1.2.2.2.2->dC (y1.2.1<ln y1.2.2.2.2) (iB y1.2.1 y1.2.2.2.2 (Xoe (gA y1.2.2.2.2 y1.2.1 [])/\∀r2,rU r2 (X0m (gA y1.2.2.2.2 y1.2.1 []))->X00 (!r2.1.2) (Eq ((y1.1,false),(),y1.2.2.2.2) ((XkH a0).1,(),(XkH a0).2)) (lE y1.1 [r2.1.1]/\(List.length y1.1+List.length [r2.1.1])*24<=140737488355328/\eQ [(0,.val true [.int .i64 a0.1,.lst T5q a0.2.1 none,.own .str 6]),(1,.box 2 0)]/\lyI a0 (y1.1++[r2.1.1]) (wI (y1.2.1+1)) y1.2.2.1 y1.2.2.2.1 y1.2.2.2.2/\lyM a0 (y1.1++[r2.1.1]) (wI (y1.2.1+1)) y1.2.2.1 y1.2.2.2.1 y1.2.2.2.2<lyM a0 y1.1 y1.2.1 y1.2.2.1 y1.2.2.2.1 y1.2.2.2.2))) (lE y1.1 [y1.2.2.2.1]/\(List.length y1.1+List.length [y1.2.2.2.1])*24<=140737488355328/\Eq ((y1.1++[y1.2.2.2.1],true),(),y1.2.2.2.2) ((XkH a0).1,(),(XkH a0).2))
def X1O.L(a0:X5Y):Nat->Option X0f:=XLK [(58,⟨⟨[0,1],[4,5],[2],[kD 4 0 1000515 35,kC 0 2 6 9]⟩,(.pair (.list X5C) (.pair (.int .i64) T9q)),λst y=>lyI a0 y.1 y.2.1 y.2.2.1 y.2.2.2.1 y.2.2.2.2,λst y=>lyM a0 y.1 y.2.1 y.2.2.1 y.2.2.2.1 y.2.2.2.2⟩)]
theorem X1O.p(a0:X5Y)(h:(Xtk a0)):X1O.F a0:=by
 delta X1O.F ln wI dC eQ gA iB lE rU tN;simp only[Bs,B0,B1,Yaa,X01,Yay,XkH];obtain⟨hf,hl⟩:=h;refine⟨⟨rfl,by omega,by omega,by simp[Xbk],λj hj=>absurd hj (by simp)⟩,?_⟩;rintro⟨out,i,fl,ca,fi⟩ hI;simp only at hI ⊢;have q1:=hI.h1;have q2:=hI.h2;have q3:=Ybh List.length hI.h3;rw[Xk2,Yal]at q3;have st:=Xt0 hI;have no:=Xy1 hI;have en:=XvT hI;obtain rfl:=hI.h0;simp only at hf hl q2 q3 st no en ⊢;refine⟨λhi=>?_,λhi=>⟨by omega,by omega,en hi,trivial⟩⟩;have hm:=X10 (d:=([]:List UInt8)) (by omega:i.toNat<fi.length);rw[w64 (x:=i+1) (by omega) (by omega)];exact⟨q1,hi,hf _ hm,λhr=>⟨no hi hr,trivial⟩,λhr=>⟨by omega,by omega,st hi hr,by unfold lyM;simp only;omega⟩⟩
def X1O.e:GE:=mE X7u func76 [116,4] [X3j.e] [] (λi x=>X1O.L x) (λi x=>X1O.F x) λi x h _ _=>X1O.p x h
def Xc9(e:Eng)(k:Str)(p:List Pt):Eng×Int:=Xag e k p
def XuL(e:Eng)(k:Str)(p:List Pt):Prop:=X3D e=true/\Xgx e/\Xgb k
def pPut(e:Eng)(k:Str)(p:List Pt):Prop:=Xgx e/\Xgb k
def XbA:Con:={A:=(.pair T9q T5q),shA:=[.agg 3,.one,.one],ownA:=[(2,9)],R:=(.pair T9q (.int .i64)),shR:=[(true,3),(false,1)],fresh:=[(2,9)],pre:=λ_ a=>(XuL a.1 a.2.1 a.2.2),f:=some λ_ a=>((Xc9 a.1 a.2.1 a.2.2),((),()))}
def X5h.F(a0:X5Y)(a1:U7q)(a2:U8q):Prop:=Xgb a1/\∀r1,Eq r1 (X6U a1,(),())->X00 (!r1.1) (Eq (((a0.1,a0.2.1,a0.2.2),1),(),()) (Xc9 a0 a1 a2,(),())) (True/\∀r2,Eq r2 (X0N a2,(),())->X00 (!r2.1) (Eq (((a0.1,a0.2.1,a0.2.2),1),(),()) (Xc9 a0 a1 a2,(),())) (X00 (ln a2==(0:Int)) (Eq (((a0.1,a0.2.1,a0.2.2),1),(),()) (Xc9 a0 a1 a2,(),())) (0<=(0:Int)/\(0:Int)<ln a2/\X00 (decide ((List.getD a2 (tN (0:Int)) (0,0)).1<a0.1)) (Eq (((a0.1,a0.2.1,a0.2.2),2),(),()) (Xc9 a0 a1 a2,(),())) (Xud a0.2.1 a1 a2/\∀r3,Eq r3 (XdT a0.2.1 a1 a2,(),())->Xtk (a0.1,r3.1,a0.2.2)/\∀r4,Eq r4 ((XkH (a0.1,r3.1,a0.2.2)).1,(),(XkH (a0.1,r3.1,a0.2.2)).2)->Xrv r4.1.1 a0.1/\∀r5,Eq r5 (Xqf r4.1.1 a0.1,(),())->X3C r5.1/\∀r6,Eq r6 (X0Q r5.1,(),())->X00 (!r6.1) (Eq (((a0.1,a0.2.1,r4.2.2),3),(),()) (Xc9 a0 a1 a2,(),())) (Xqa r3.1/\∀r7,Eq r7 (XfC r3.1,(),())->X00 (decide (r7.1>(40:Int))) (pFl (a0.1,r3.1,r4.2.2)/\∀r8,Eq r8 (fFl (a0.1,r3.1,r4.2.2),(),())->Eq (((r8.1.1,r8.1.2.1,r8.1.2.2),0),(),()) (Xc9 a0 a1 a2,(),())) (Eq (((a0.1,r3.1,r4.2.2),0),(),()) (Xc9 a0 a1 a2,(),())))))))
theorem X5h.p(a0:X5Y)(a1:U7q)(a2:U8q)(h:(XuL a0 a1 a2)):X5h.F a0 a1 a2:=by
 delta X5h.F ln tN;simp only[Bs,B0,B1,Yaa,X01,Yay,Xc9,XkH];obtain⟨h1,hp,hk⟩:=h;have G:=XeG h1 hp;have bad:¬(X6U a1=true/\X0N a2=true/\a2≠[])->(a0,(1:Int))=Xag a0 a1 a2:=λh=>by unfold Xag;rw[Yah h1,Yae h]
 have late:(X6U a1=true/\X0N a2=true/\a2≠[])->(a2.getD 0 (0,0)).1<a0.1->(a0,(2:Int))=Xag a0 a1 a2:=λh h'=>by unfold Xag;rw[Yah h1,Yah h,Yah h']
 have full:(X6U a1=true/\X0N a2=true/\a2≠[])->¬(a2.getD 0 (0,0)).1<a0.1->X0Q (X0l (eX a0 a1 a2)).1=false->(a0,(3:Int))=Xag a0 a1 a2:=λh h' h2=>by unfold Xag;rw[Yah h1,Yah h,Yae h',Yae (by rw[h2];decide)]
 have big:(X6U a1=true/\X0N a2=true/\a2≠[])->¬(a2.getD 0 (0,0)).1<a0.1->X0Q (X0l (eX a0 a1 a2)).1=true->40<XfC (eX a0 a1 a2).2.1->(fFl (eX a0 a1 a2),(0:Int))=Xag a0 a1 a2:=λh h' h2 h3=>by unfold Xag;rw[Yah h1,Yah h,Yae h',Yah h2,Yah h3]
 have fine:(X6U a1=true/\X0N a2=true/\a2≠[])->¬(a2.getD 0 (0,0)).1<a0.1->X0Q (X0l (eX a0 a1 a2)).1=true->¬40<XfC (eX a0 a1 a2).2.1->(eX a0 a1 a2,(0:Int))=Xag a0 a1 a2:=λh h' h2 h3=>by unfold Xag;rw[Yah h1,Yah h,Yae h',Yah h2,Yae h3]
 have ca:=X3i G.ca;have le:=G.le;refine⟨hk,λh2=>bad (by simp[h2]),λh2=>⟨λh3=>bad (by simp[h3]),λh3=>⟨λh4=>bad (λhh=>hh.2.2 (YaL.1 (by omega))),λh4=>?_⟩⟩⟩;have hn:a2≠[]:=λe=>h4 (by rw[e];rfl);have hn2:0<a2.length:=Ybj.2 hn;have hq:X6U a1=true/\X0N a2=true/\a2≠[]:=⟨h2,h3,hn⟩
 have hl:=Xee h3;have e0:(0:Int).toNat=0:=rfl;simp only[e0];refine⟨by omega,by omega,λh5=>late hq h5,λh5=>⟨⟨by omega,by omega⟩,?_⟩⟩;obtain⟨X1,X2⟩:=Xiw h1 hp h3 hn h5;have eX0:(a0.1,XdT a0.2.1 a1 a2,a0.2.2)=eX a0 a1 a2:=by rw[XlU G.R.1];rfl
 have eX1:XdT a0.2.1 a1 a2=(eX a0 a1 a2).2.1:=by rw[<-eX0]
 have hS:∀x∈[((a1,a2):Ser)],XfB x.2:=λx hx=>by rw[YaP.1 hx];exact hl.1
 have hc2:Xdr (eX a0 a1 a2).2.1:=X7M G.R hS;have ht2:tot (eX a0 a1 a2).2.1<=305+61:=by
  have t1:=Xdg G.R hS;have t2:tot [((a1,a2):Ser)]=(a2.length:Int)+1:=by simp[tot,cL,cS]
  have t3:tot (eX a0 a1 a2).2.1=tot (X4R a0.2.1 [(a1,a2)]):=rfl;omega
 have hy:Xiq (eX a0 a1 a2)=(Xbk a0.2.2++[(eX a0 a1 a2).2.1],true):=XgD (e:=eX a0 a1 a2) G.ok;have hpl:Xqf (Xbk a0.2.2++[(eX a0 a1 a2).2.1]) a0.1=(X0l (eX a0 a1 a2)).1:=Xv4 (e:=eX a0 a1 a2) hc2 G.ok;have htt:=Xgs (eX a0 a1 a2);have htt2:cL tot (Xbk (eX a0 a1 a2).2.2++[(eX a0 a1 a2).2.1])=cL tot (Xbk a0.2.2++[(eX a0 a1 a2).2.1]):=rfl;have hle2:(eX a0 a1 a2).2.2.length=a0.2.2.length:=rfl;have hkey:X3C (X0l (eX a0 a1 a2)).1:=by
  rw[<-X1];have hk8:a1.length<=8:=by
   have:=h2;unfold X6U fIn at this;simp only[Yac,Yaj]at this;omega
  refine Xlv (Xdi (λx hx=>((X3i G.pl).2.2.2 x hx).1) λx hx=>?_);rw[YaP.1 hx];exact hk8
 rw[eX0,hy];simp only;rw[hpl,eX1];refine⟨⟨G.st,by omega⟩,by unfold Xrv;omega,hkey,λh6=>full hq h5 h6,λh6=>⟨by unfold Xqa;omega,λh7=>⟨X2 h6,big hq h5 h6 h7⟩,λh7=>fine hq h5 h6 (by omega)⟩⟩
def X5h.e:GE:=mE XbA func81 [37,3] [X1J.e,X2e.e,X1O.e,X1I.e,X2Q.e,X49.e,X1H.e,X2Z.e] [] noL (λi x=>X5h.F x.1 x.2.1 x.2.2) λi x h _ _=>X5h.p x.1 x.2.1 x.2.2 h
def Xft:Con:=cW (.pair T9q T5q) [.agg 3,.one,.one] (.pair T9q (.int .i64)) [(true,3),(false,1)] [(1,115),(2,9)] (λa=>(pPut a.1 a.2.1 a.2.2)) λa=>(Xag a.1 a.2.1 a.2.2)
def X9O.F(a0:X5Y)(a1:U7q)(a2:U8q):Prop:=Xgx (a0.1,a0.2.1,a0.2.2)/\∀r1,Eq r1 (X3T (a0.1,a0.2.1,a0.2.2),(),())->X00 (!r1.1.2) (Eq (((0,([]:List U3q),([]:List U7q)),1),(),()) (Xag a0 a1 a2,(),())) (Xr3 (a0.1,a0.2.1,a0.2.2)/\∀r2,Eq r2 (XoN (a0.1,a0.2.1,a0.2.2),(),())->Xgb a1/\∀r3,Eq r3 (X6U a1,(),())->X00 (!r3.1) (Eq (((r2.1.1,r2.1.2.1,r2.1.2.2),1),(),()) (Xag a0 a1 a2,(),())) (True/\∀r4,Eq r4 (X0N a2,(),())->X00 (!r4.1) (Eq (((r2.1.1,r2.1.2.1,r2.1.2.2),1),(),()) (Xag a0 a1 a2,(),())) (X00 (ln a2==(0:Int)) (Eq (((r2.1.1,r2.1.2.1,r2.1.2.2),1),(),()) (Xag a0 a1 a2,(),())) (0<=(0:Int)/\(0:Int)<ln a2/\X00 (decide ((List.getD a2 (tN (0:Int)) (0,0)).1<r2.1.1)) (Eq (((r2.1.1,r2.1.2.1,r2.1.2.2),2),(),()) (Xag a0 a1 a2,(),())) (Xr9 r1.1.1 [(a1,a2)]/\∀r5,Eq r5 (X4R r1.1.1 [(a1,a2)],(),())->X3C r5.1/\∀r6,Eq r6 (X0Q r5.1,(),())->X00 (!r6.1) (Eq (((r2.1.1,r2.1.2.1,r2.1.2.2),3),(),()) (Xag a0 a1 a2,(),())) (Xr9 r2.1.2.1 [(a1,a2)]/\∀r7,Eq r7 (X4R r2.1.2.1 [(a1,a2)],(),())->Xqa r7.1/\∀r8,Eq r8 (XfC r7.1,(),())->X00 (decide (r8.1>(40:Int))) (pFl (r2.1.1,r7.1,r2.1.2.2)/\∀r9,Eq r9 (fFl (r2.1.1,r7.1,r2.1.2.2),(),())->Eq (((r9.1.1,r9.1.2.1,r9.1.2.2),0),(),()) (Xag a0 a1 a2,(),())) (Eq (((r2.1.1,r7.1,r2.1.2.2),0),(),()) (Xag a0 a1 a2,(),()))))))))
theorem X9O.p(a0:X5Y)(a1:U7q)(a2:U8q)(h:(pPut a0 a1 a2)):X9O.F a0 a1 a2:=by
 delta X9O.F ln tN;simp only[Bs,B0,B1,Yaa,X01,Yay,XoN];obtain⟨hp,hk⟩:=h;refine⟨hp,λh1=>?_,λh1=>?_⟩
 . unfold Xag;rw[Yae (by rw[<-XjF,h1];decide)];rfl
 have h1:X3D a0=true:=h1;have G:=XeG h1 hp;have bad:¬(X6U a1=true/\X0N a2=true/\a2≠[])->(a0,(1:Int))=Xag a0 a1 a2:=λh=>by unfold Xag;rw[Yah h1,Yae h]
 have late:(X6U a1=true/\X0N a2=true/\a2≠[])->(a2.getD 0 (0,0)).1<a0.1->(a0,(2:Int))=Xag a0 a1 a2:=λh h'=>by unfold Xag;rw[Yah h1,Yah h,Yah h']
 have full:(X6U a1=true/\X0N a2=true/\a2≠[])->¬(a2.getD 0 (0,0)).1<a0.1->X0Q (X0l (eX a0 a1 a2)).1=false->(a0,(3:Int))=Xag a0 a1 a2:=λh h' h2=>by unfold Xag;rw[Yah h1,Yah h,Yae h',Yae (by rw[h2];decide)]
 have big:(X6U a1=true/\X0N a2=true/\a2≠[])->¬(a2.getD 0 (0,0)).1<a0.1->X0Q (X0l (eX a0 a1 a2)).1=true->40<XfC (eX a0 a1 a2).2.1->(fFl (eX a0 a1 a2),(0:Int))=Xag a0 a1 a2:=λh h' h2 h3=>by unfold Xag;rw[Yah h1,Yah h,Yae h',Yah h2,Yah h3]
 have fine:(X6U a1=true/\X0N a2=true/\a2≠[])->¬(a2.getD 0 (0,0)).1<a0.1->X0Q (X0l (eX a0 a1 a2)).1=true->¬40<XfC (eX a0 a1 a2).2.1->(eX a0 a1 a2,(0:Int))=Xag a0 a1 a2:=λh h' h2 h3=>by unfold Xag;rw[Yah h1,Yah h,Yae h',Yah h2,Yae h3]
 have ca:=X3i G.ca;have le:=G.le;obtain⟨g1,g2,g3,g4⟩:=X8G h1;rw[g3];simp only;refine⟨XpK h1,hk,λh2=>bad (by simp[h2]),λh2=>⟨λh3=>bad (by simp[h3]),λh3=>⟨λh4=>bad (λhh=>hh.2.2 (YaL.1 (by omega))),λh4=>?_⟩⟩⟩;have hn:a2≠[]:=λe=>h4 (by rw[e];rfl);have hn2:0<a2.length:=Ybj.2 hn;have hq:X6U a1=true/\X0N a2=true/\a2≠[]:=⟨h2,h3,hn⟩
 have hl:=Xee h3;have e0:(0:Int).toNat=0:=rfl;simp only[e0];have pl:=X3i G.pl;have hS:∀x∈[((a1,a2):Ser)],XfB x.2:=λx hx=>by rw[YaP.1 hx];exact hl.1
 have t2:tot [((a1,a2):Ser)]=(a2.length:Int)+1:=by simp[tot,cL,cS]
 refine⟨by omega,by omega,λh5=>late hq h5,λh5=>⟨⟨pl.1,hS,by omega⟩,?_⟩⟩;obtain⟨X1,X2⟩:=Xiw h1 hp h3 hn h5;have hkey:X3C (X0l (eX a0 a1 a2)).1:=by
  rw[<-X1];have hk8:a1.length<=8:=by
   have:=h2;unfold X6U fIn at this;simp only[Yac,Yaj]at this;omega
  refine Xlv (Xdi (λx hx=>((X3i G.pl).2.2.2 x hx).1) λx hx=>?_);rw[YaP.1 hx];exact hk8
 have t1:=Xdg (t:=[(a1,a2)]) G.R hS;rw[X1];refine⟨hkey,λh6=>full hq h5 h6,λh6=>⟨⟨G.R,hS,by omega⟩,by unfold Xqa;omega,λh7=>⟨X2 h6,big hq h5 h6 h7⟩,λh7=>fine hq h5 h6 (show ¬40<XfC (X4R a0.2.1 [(a1,a2)]) by omega)⟩⟩
def X9O.e:GE:=mE Xft func178 [37,3] [X1Q.e,X1r.e,X2c.e,X47.e,X4j.e,X29.e,X5u.e,X4a.e] [] noL (λi x=>X9O.F x.1 x.2.1 x.2.2) λi x h _ _=>X9O.p x.1 x.2.1 x.2.2 h
abbrev Op:=Int×(List UInt8×(Int×(Int×List UInt8)))
def Xer(o:Op):Bool:=decide (o.2.2.1>=0)&&(decide (o.2.2.1<o.2.2.2.1)&&decide (o.2.2.2.1<=1099511627776))
def X0P(o:Op):Bool:=
 if o.1=1 then Xer o&&(decide (o.2.1=[])&&decide (o.2.2.2.2=[]))
 else if o.1=2\/o.1=6 then fIn o.2.2.1 0 1099511627776&&(decide (o.2.1=[])&&(decide (o.2.2.2.1=0)&&decide (o.2.2.2.2=[])))
 else if o.1=3 then fIn o.2.2.1 0 100000&&(decide (o.2.1=[])&&(decide (o.2.2.2.1=0)&&decide (o.2.2.2.2=[])))
 else if o.1=4 then X6U o.2.1&&((X0s o.2.2.2.2).2&&(decide (o.2.2.1=0)&&decide (o.2.2.2.1=0)))
 else if o.1=5 then X6U o.2.1&&(Xer o&&decide (o.2.2.2.2=[]))
 else if o.1=7 then decide (o.2.1=[])&&(decide (o.2.2.1=0)&&(decide (o.2.2.2.1=0)&&decide (o.2.2.2.2=[])))
 else false
def X9M(n:Int):Bool:=fIn n 1 4
def X9r(n:Int):Bool:=fIn n 1 1000000
def pOp(o:Op):Prop:=o.2.1.length<=maxLen
def Xbu:Con:=cQ XnR [.agg 5] .bool [(false,1)] (λ_=>True) λa=>(Xer a)
def X5d.F(a0:XbM):Prop:=X00 (decide (a0.2.2.1>=(0:Int))) (X00 (decide (a0.2.2.1<a0.2.2.2.1)) (Eq (decide (a0.2.2.2.1<=(1099511627776:Int)),(),()) (Xer a0,(),())) (Eq (false,(),()) (Xer a0,(),()))) (Eq (false,(),()) (Xer a0,(),()))
theorem X5d.p(a0:XbM)(h:True)(hw:Wf Xbu.A a0):X5d.F a0:=by
 unfold X5d.F;simp only[Bs,B0,B1,Yaa,X01]
 repeat' (with_reducible (first | (refine And.intro ?_ ?_) | intro _))
 all_goals (try simp (disch:=omega) only[w64,wu8,tn0,tn1,tm1,tm2,Yab,Yad,Yai]at*)
 all_goals (try simp (disch:=omega) only[w64,wu8,tn0,tn1,tm1,tm2,Yab,Yad,Yai]at*)
 all_goals (try omega)
 all_goals (try grind[Xer])
def X5d.e:GE:=mE Xbu func135 [4] [] [] noL (λi x=>X5d.F x) λi x h _ hw=>X5d.p x h hw
def Xe7:Con:=cQ XnR [.agg 5] .bool [(false,1)] (λa=>(pOp a)) λa=>(X0P a)
def X6v.F(a0:XbM):Prop:=X00 (decide (a0.2.2.1>=(0:Int))) (X00 (decide (a0.2.2.1<a0.2.2.2.1)) (X00 (a0.1==(1:Int)) (X00 (decide (a0.2.2.2.1<=(1099511627776:Int))) (Eq (a0.1==a0.1&&(([]:List UInt8)==a0.2.1&&(a0.2.2.1==a0.2.2.1&&(a0.2.2.2.1==a0.2.2.2.1&&(([]:List UInt8)==a0.2.2.2.2&&true)))),(),()) (X0P a0,(),())) (Eq (false,(),()) (X0P a0,(),()))) (X00 (a0.1==(2:Int)) (X00 (a0.1==(2:Int)) (True/\∀r1,Eq r1 (fIn a0.2.2.1 0 1099511627776,(),())->X00 r1.1 (Eq (a0.1==a0.1&&(([]:List UInt8)==a0.2.1&&(a0.2.2.1==a0.2.2.1&&((0:Int)==a0.2.2.2.1&&(([]:List UInt8)==a0.2.2.2.2&&true)))),(),()) (X0P a0,(),())) (Eq (false,(),()) (X0P a0,(),()))) (X00 (a0.1==(3:Int)) (True/\∀r2,Eq r2 (fIn a0.2.2.1 0 100000,(),())->X00 r2.1 (Eq (a0.1==a0.1&&(([]:List UInt8)==a0.2.1&&(a0.2.2.1==a0.2.2.1&&((0:Int)==a0.2.2.2.1&&(([]:List UInt8)==a0.2.2.2.2&&true)))),(),()) (X0P a0,(),())) (Eq (false,(),()) (X0P a0,(),()))) (X00 (a0.1==(4:Int)) (True/\∀r3,Eq r3 (X0s a0.2.2.2.2,(),())->Xgb a0.2.1/\∀r4,Eq r4 (X6U a0.2.1,(),())->X00 r4.1 (X00 r3.1.2 (Eq (a0.1==a0.1&&(a0.2.1==a0.2.1&&((0:Int)==a0.2.2.1&&((0:Int)==a0.2.2.2.1&&(a0.2.2.2.2==a0.2.2.2.2&&true)))),(),()) (X0P a0,(),())) (Eq (false,(),()) (X0P a0,(),()))) (Eq (false,(),()) (X0P a0,(),()))) (X00 (a0.1==(5:Int)) (Xgb a0.2.1/\∀r5,Eq r5 (X6U a0.2.1,(),())->X00 r5.1 (X00 (decide (a0.2.2.2.1<=(1099511627776:Int))) (Eq (a0.1==a0.1&&(a0.2.1==a0.2.1&&(a0.2.2.1==a0.2.2.1&&(a0.2.2.2.1==a0.2.2.2.1&&(([]:List UInt8)==a0.2.2.2.2&&true)))),(),()) (X0P a0,(),())) (Eq (false,(),()) (X0P a0,(),()))) (Eq (false,(),()) (X0P a0,(),()))) (X00 (a0.1==(7:Int)) (Eq (a0.1==a0.1&&(([]:List UInt8)==a0.2.1&&((0:Int)==a0.2.2.1&&((0:Int)==a0.2.2.2.1&&(([]:List UInt8)==a0.2.2.2.2&&true)))),(),()) (X0P a0,(),())) (Eq (false,(),()) (X0P a0,(),()))))))) (X00 (a0.1==(6:Int)) (True/\∀r6,Eq r6 (fIn a0.2.2.1 0 1099511627776,(),())->X00 r6.1 (Eq (a0.1==a0.1&&(([]:List UInt8)==a0.2.1&&(a0.2.2.1==a0.2.2.1&&((0:Int)==a0.2.2.2.1&&(([]:List UInt8)==a0.2.2.2.2&&true)))),(),()) (X0P a0,(),())) (Eq (false,(),()) (X0P a0,(),()))) (X00 (a0.1==(3:Int)) (True/\∀r7,Eq r7 (fIn a0.2.2.1 0 100000,(),())->X00 r7.1 (Eq (a0.1==a0.1&&(([]:List UInt8)==a0.2.1&&(a0.2.2.1==a0.2.2.1&&((0:Int)==a0.2.2.2.1&&(([]:List UInt8)==a0.2.2.2.2&&true)))),(),()) (X0P a0,(),())) (Eq (false,(),()) (X0P a0,(),()))) (X00 (a0.1==(4:Int)) (True/\∀r8,Eq r8 (X0s a0.2.2.2.2,(),())->Xgb a0.2.1/\∀r9,Eq r9 (X6U a0.2.1,(),())->X00 r9.1 (X00 r8.1.2 (Eq (a0.1==a0.1&&(a0.2.1==a0.2.1&&((0:Int)==a0.2.2.1&&((0:Int)==a0.2.2.2.1&&(a0.2.2.2.2==a0.2.2.2.2&&true)))),(),()) (X0P a0,(),())) (Eq (false,(),()) (X0P a0,(),()))) (Eq (false,(),()) (X0P a0,(),()))) (X00 (a0.1==(5:Int)) (Xgb a0.2.1/\∀r10,Eq r10 (X6U a0.2.1,(),())->X00 r10.1 (X00 (decide (a0.2.2.2.1<=(1099511627776:Int))) (Eq (a0.1==a0.1&&(a0.2.1==a0.2.1&&(a0.2.2.1==a0.2.2.1&&(a0.2.2.2.1==a0.2.2.2.1&&(([]:List UInt8)==a0.2.2.2.2&&true)))),(),()) (X0P a0,(),())) (Eq (false,(),()) (X0P a0,(),()))) (Eq (false,(),()) (X0P a0,(),()))) (X00 (a0.1==(7:Int)) (Eq (a0.1==a0.1&&(([]:List UInt8)==a0.2.1&&((0:Int)==a0.2.2.1&&((0:Int)==a0.2.2.2.1&&(([]:List UInt8)==a0.2.2.2.2&&true)))),(),()) (X0P a0,(),())) (Eq (false,(),()) (X0P a0,(),()))))))))) (X00 (a0.1==(1:Int)) (Eq (false,(),()) (X0P a0,(),())) (X00 (a0.1==(2:Int)) (X00 (a0.1==(2:Int)) (True/\∀r11,Eq r11 (fIn a0.2.2.1 0 1099511627776,(),())->X00 r11.1 (Eq (a0.1==a0.1&&(([]:List UInt8)==a0.2.1&&(a0.2.2.1==a0.2.2.1&&((0:Int)==a0.2.2.2.1&&(([]:List UInt8)==a0.2.2.2.2&&true)))),(),()) (X0P a0,(),())) (Eq (false,(),()) (X0P a0,(),()))) (X00 (a0.1==(3:Int)) (True/\∀r12,Eq r12 (fIn a0.2.2.1 0 100000,(),())->X00 r12.1 (Eq (a0.1==a0.1&&(([]:List UInt8)==a0.2.1&&(a0.2.2.1==a0.2.2.1&&((0:Int)==a0.2.2.2.1&&(([]:List UInt8)==a0.2.2.2.2&&true)))),(),()) (X0P a0,(),())) (Eq (false,(),()) (X0P a0,(),()))) (X00 (a0.1==(4:Int)) (True/\∀r13,Eq r13 (X0s a0.2.2.2.2,(),())->Xgb a0.2.1/\∀r14,Eq r14 (X6U a0.2.1,(),())->X00 r14.1 (X00 r13.1.2 (Eq (a0.1==a0.1&&(a0.2.1==a0.2.1&&((0:Int)==a0.2.2.1&&((0:Int)==a0.2.2.2.1&&(a0.2.2.2.2==a0.2.2.2.2&&true)))),(),()) (X0P a0,(),())) (Eq (false,(),()) (X0P a0,(),()))) (Eq (false,(),()) (X0P a0,(),()))) (X00 (a0.1==(5:Int)) (Xgb a0.2.1/\∀r15,Eq r15 (X6U a0.2.1,(),())->X00 r15.1 (Eq (false,(),()) (X0P a0,(),())) (Eq (false,(),()) (X0P a0,(),()))) (X00 (a0.1==(7:Int)) (Eq (a0.1==a0.1&&(([]:List UInt8)==a0.2.1&&((0:Int)==a0.2.2.1&&((0:Int)==a0.2.2.2.1&&(([]:List UInt8)==a0.2.2.2.2&&true)))),(),()) (X0P a0,(),())) (Eq (false,(),()) (X0P a0,(),()))))))) (X00 (a0.1==(6:Int)) (True/\∀r16,Eq r16 (fIn a0.2.2.1 0 1099511627776,(),())->X00 r16.1 (Eq (a0.1==a0.1&&(([]:List UInt8)==a0.2.1&&(a0.2.2.1==a0.2.2.1&&((0:Int)==a0.2.2.2.1&&(([]:List UInt8)==a0.2.2.2.2&&true)))),(),()) (X0P a0,(),())) (Eq (false,(),()) (X0P a0,(),()))) (X00 (a0.1==(3:Int)) (True/\∀r17,Eq r17 (fIn a0.2.2.1 0 100000,(),())->X00 r17.1 (Eq (a0.1==a0.1&&(([]:List UInt8)==a0.2.1&&(a0.2.2.1==a0.2.2.1&&((0:Int)==a0.2.2.2.1&&(([]:List UInt8)==a0.2.2.2.2&&true)))),(),()) (X0P a0,(),())) (Eq (false,(),()) (X0P a0,(),()))) (X00 (a0.1==(4:Int)) (True/\∀r18,Eq r18 (X0s a0.2.2.2.2,(),())->Xgb a0.2.1/\∀r19,Eq r19 (X6U a0.2.1,(),())->X00 r19.1 (X00 r18.1.2 (Eq (a0.1==a0.1&&(a0.2.1==a0.2.1&&((0:Int)==a0.2.2.1&&((0:Int)==a0.2.2.2.1&&(a0.2.2.2.2==a0.2.2.2.2&&true)))),(),()) (X0P a0,(),())) (Eq (false,(),()) (X0P a0,(),()))) (Eq (false,(),()) (X0P a0,(),()))) (X00 (a0.1==(5:Int)) (Xgb a0.2.1/\∀r20,Eq r20 (X6U a0.2.1,(),())->X00 r20.1 (Eq (false,(),()) (X0P a0,(),())) (Eq (false,(),()) (X0P a0,(),()))) (X00 (a0.1==(7:Int)) (Eq (a0.1==a0.1&&(([]:List UInt8)==a0.2.1&&((0:Int)==a0.2.2.1&&((0:Int)==a0.2.2.2.1&&(([]:List UInt8)==a0.2.2.2.2&&true)))),(),()) (X0P a0,(),())) (Eq (false,(),()) (X0P a0,(),())))))))))) (X00 (a0.1==(1:Int)) (Eq (false,(),()) (X0P a0,(),())) (X00 (a0.1==(2:Int)) (X00 (a0.1==(2:Int)) (True/\∀r21,Eq r21 (fIn a0.2.2.1 0 1099511627776,(),())->X00 r21.1 (Eq (a0.1==a0.1&&(([]:List UInt8)==a0.2.1&&(a0.2.2.1==a0.2.2.1&&((0:Int)==a0.2.2.2.1&&(([]:List UInt8)==a0.2.2.2.2&&true)))),(),()) (X0P a0,(),())) (Eq (false,(),()) (X0P a0,(),()))) (X00 (a0.1==(3:Int)) (True/\∀r22,Eq r22 (fIn a0.2.2.1 0 100000,(),())->X00 r22.1 (Eq (a0.1==a0.1&&(([]:List UInt8)==a0.2.1&&(a0.2.2.1==a0.2.2.1&&((0:Int)==a0.2.2.2.1&&(([]:List UInt8)==a0.2.2.2.2&&true)))),(),()) (X0P a0,(),())) (Eq (false,(),()) (X0P a0,(),()))) (X00 (a0.1==(4:Int)) (True/\∀r23,Eq r23 (X0s a0.2.2.2.2,(),())->Xgb a0.2.1/\∀r24,Eq r24 (X6U a0.2.1,(),())->X00 r24.1 (X00 r23.1.2 (Eq (a0.1==a0.1&&(a0.2.1==a0.2.1&&((0:Int)==a0.2.2.1&&((0:Int)==a0.2.2.2.1&&(a0.2.2.2.2==a0.2.2.2.2&&true)))),(),()) (X0P a0,(),())) (Eq (false,(),()) (X0P a0,(),()))) (Eq (false,(),()) (X0P a0,(),()))) (X00 (a0.1==(5:Int)) (Xgb a0.2.1/\∀r25,Eq r25 (X6U a0.2.1,(),())->X00 r25.1 (Eq (false,(),()) (X0P a0,(),())) (Eq (false,(),()) (X0P a0,(),()))) (X00 (a0.1==(7:Int)) (Eq (a0.1==a0.1&&(([]:List UInt8)==a0.2.1&&((0:Int)==a0.2.2.1&&((0:Int)==a0.2.2.2.1&&(([]:List UInt8)==a0.2.2.2.2&&true)))),(),()) (X0P a0,(),())) (Eq (false,(),()) (X0P a0,(),()))))))) (X00 (a0.1==(6:Int)) (True/\∀r26,Eq r26 (fIn a0.2.2.1 0 1099511627776,(),())->X00 r26.1 (Eq (a0.1==a0.1&&(([]:List UInt8)==a0.2.1&&(a0.2.2.1==a0.2.2.1&&((0:Int)==a0.2.2.2.1&&(([]:List UInt8)==a0.2.2.2.2&&true)))),(),()) (X0P a0,(),())) (Eq (false,(),()) (X0P a0,(),()))) (X00 (a0.1==(3:Int)) (True/\∀r27,Eq r27 (fIn a0.2.2.1 0 100000,(),())->X00 r27.1 (Eq (a0.1==a0.1&&(([]:List UInt8)==a0.2.1&&(a0.2.2.1==a0.2.2.1&&((0:Int)==a0.2.2.2.1&&(([]:List UInt8)==a0.2.2.2.2&&true)))),(),()) (X0P a0,(),())) (Eq (false,(),()) (X0P a0,(),()))) (X00 (a0.1==(4:Int)) (True/\∀r28,Eq r28 (X0s a0.2.2.2.2,(),())->Xgb a0.2.1/\∀r29,Eq r29 (X6U a0.2.1,(),())->X00 r29.1 (X00 r28.1.2 (Eq (a0.1==a0.1&&(a0.2.1==a0.2.1&&((0:Int)==a0.2.2.1&&((0:Int)==a0.2.2.2.1&&(a0.2.2.2.2==a0.2.2.2.2&&true)))),(),()) (X0P a0,(),())) (Eq (false,(),()) (X0P a0,(),()))) (Eq (false,(),()) (X0P a0,(),()))) (X00 (a0.1==(5:Int)) (Xgb a0.2.1/\∀r30,Eq r30 (X6U a0.2.1,(),())->X00 r30.1 (Eq (false,(),()) (X0P a0,(),())) (Eq (false,(),()) (X0P a0,(),()))) (X00 (a0.1==(7:Int)) (Eq (a0.1==a0.1&&(([]:List UInt8)==a0.2.1&&((0:Int)==a0.2.2.1&&((0:Int)==a0.2.2.2.1&&(([]:List UInt8)==a0.2.2.2.2&&true)))),(),()) (X0P a0,(),())) (Eq (false,(),()) (X0P a0,(),())))))))))
theorem X6v.p(a0:XbM)(h:(pOp a0))(hw:Wf Xe7.A a0):X6v.F a0:=by
 unfold X6v.F;simp only[Bs,B0,B1,Yaa,X01,Xgb,Yay];have hkl:a0.2.1.length<=maxLen:=h;obtain⟨k,key,f,t,d⟩:=a0;simp only[X0P,Xer,BEq.rfl,YaQ,Ybu]
 repeat' (with_reducible (first | (refine And.intro ?_ ?_) | intro _))
 all_goals (try simp (disch:=omega) only[w64,wu8,tn0,tn1,tm1,tm2,Yab,Yad,Yai]at*)
 all_goals (try simp (disch:=omega) only[w64,wu8,tn0,tn1,tm1,tm2,Yab,Yad,Yai]at*)
 all_goals (try omega)
 all_goals (try grind[])
def X6v.e:GE:=mE Xe7 func78 [4] [X26.e,X1g.e,X49.e] [] noL (λi x=>X6v.F x) λi x h _ hw=>X6v.p x h hw
def Xe6:Con:=cQ XnR [.agg 5] .bool [(false,1)] (λa=>(pOp a)) λa=>(X0P a)
def X78.F(a0:XbM):Prop:=X00 (a0.1==(1:Int)) (True/\∀r1,Eq r1 (Xer (a0.1,a0.2.1,a0.2.2.1,a0.2.2.2.1,a0.2.2.2.2),(),())->X00 r1.1 (Eq ((0:Int)==(0:Int)&&(a0.2.1==([]:List UInt8)&&((0:Int)==(0:Int)&&((0:Int)==(0:Int)&&(a0.2.2.2.2==([]:List UInt8)&&true)))),(),()) (X0P a0,(),())) (Eq (false,(),()) (X0P a0,(),()))) (X00 (a0.1==(2:Int)) (X00 (a0.1==(2:Int)) (True/\∀r2,Eq r2 (Xb3 a0.2.2.1,(),())->X00 r2.1 (Eq ((0:Int)==(0:Int)&&(a0.2.1==([]:List UInt8)&&((0:Int)==(0:Int)&&(a0.2.2.2.1==(0:Int)&&(a0.2.2.2.2==([]:List UInt8)&&true)))),(),()) (X0P a0,(),())) (Eq (false,(),()) (X0P a0,(),()))) (X00 (a0.1==(3:Int)) (True/\∀r3,Eq r3 (fIn a0.2.2.1 0 100000,(),())->X00 r3.1 (Eq ((0:Int)==(0:Int)&&(a0.2.1==([]:List UInt8)&&((0:Int)==(0:Int)&&(a0.2.2.2.1==(0:Int)&&(a0.2.2.2.2==([]:List UInt8)&&true)))),(),()) (X0P a0,(),())) (Eq (false,(),()) (X0P a0,(),()))) (X00 (a0.1==(4:Int)) (True/\∀r4,Eq r4 (X0s a0.2.2.2.2,(),())->X00 r4.1.2 (Xgb a0.2.1/\∀r5,Eq r5 (X6U a0.2.1,(),())->X00 r5.1 (Eq ((0:Int)==(0:Int)&&(([]:List UInt8)==([]:List UInt8)&&(a0.2.2.1==(0:Int)&&(a0.2.2.2.1==(0:Int)&&(([]:List UInt8)==([]:List UInt8)&&true)))),(),()) (X0P a0,(),())) (Eq (false,(),()) (X0P a0,(),()))) (Eq (false,(),()) (X0P a0,(),()))) (X00 (a0.1==(5:Int)) (Xgb a0.2.1/\∀r6,Eq r6 (X6U a0.2.1,(),())->X00 r6.1 (True/\∀r7,Eq r7 (Xer (a0.1,a0.2.1,a0.2.2.1,a0.2.2.2.1,a0.2.2.2.2),(),())->X00 r7.1 (Eq ((0:Int)==(0:Int)&&(([]:List UInt8)==([]:List UInt8)&&((0:Int)==(0:Int)&&((0:Int)==(0:Int)&&(a0.2.2.2.2==([]:List UInt8)&&true)))),(),()) (X0P a0,(),())) (Eq (false,(),()) (X0P a0,(),()))) (Eq (false,(),()) (X0P a0,(),()))) (X00 (a0.1==(7:Int)) (Eq ((0:Int)==(0:Int)&&(a0.2.1==([]:List UInt8)&&(a0.2.2.1==(0:Int)&&(a0.2.2.2.1==(0:Int)&&(a0.2.2.2.2==([]:List UInt8)&&true)))),(),()) (X0P a0,(),())) (Eq (false,(),()) (X0P a0,(),()))))))) (X00 (a0.1==(6:Int)) (True/\∀r8,Eq r8 (Xb3 a0.2.2.1,(),())->X00 r8.1 (Eq ((0:Int)==(0:Int)&&(a0.2.1==([]:List UInt8)&&((0:Int)==(0:Int)&&(a0.2.2.2.1==(0:Int)&&(a0.2.2.2.2==([]:List UInt8)&&true)))),(),()) (X0P a0,(),())) (Eq (false,(),()) (X0P a0,(),()))) (X00 (a0.1==(3:Int)) (True/\∀r9,Eq r9 (fIn a0.2.2.1 0 100000,(),())->X00 r9.1 (Eq ((0:Int)==(0:Int)&&(a0.2.1==([]:List UInt8)&&((0:Int)==(0:Int)&&(a0.2.2.2.1==(0:Int)&&(a0.2.2.2.2==([]:List UInt8)&&true)))),(),()) (X0P a0,(),())) (Eq (false,(),()) (X0P a0,(),()))) (X00 (a0.1==(4:Int)) (True/\∀r10,Eq r10 (X0s a0.2.2.2.2,(),())->X00 r10.1.2 (Xgb a0.2.1/\∀r11,Eq r11 (X6U a0.2.1,(),())->X00 r11.1 (Eq ((0:Int)==(0:Int)&&(([]:List UInt8)==([]:List UInt8)&&(a0.2.2.1==(0:Int)&&(a0.2.2.2.1==(0:Int)&&(([]:List UInt8)==([]:List UInt8)&&true)))),(),()) (X0P a0,(),())) (Eq (false,(),()) (X0P a0,(),()))) (Eq (false,(),()) (X0P a0,(),()))) (X00 (a0.1==(5:Int)) (Xgb a0.2.1/\∀r12,Eq r12 (X6U a0.2.1,(),())->X00 r12.1 (True/\∀r13,Eq r13 (Xer (a0.1,a0.2.1,a0.2.2.1,a0.2.2.2.1,a0.2.2.2.2),(),())->X00 r13.1 (Eq ((0:Int)==(0:Int)&&(([]:List UInt8)==([]:List UInt8)&&((0:Int)==(0:Int)&&((0:Int)==(0:Int)&&(a0.2.2.2.2==([]:List UInt8)&&true)))),(),()) (X0P a0,(),())) (Eq (false,(),()) (X0P a0,(),()))) (Eq (false,(),()) (X0P a0,(),()))) (X00 (a0.1==(7:Int)) (Eq ((0:Int)==(0:Int)&&(a0.2.1==([]:List UInt8)&&(a0.2.2.1==(0:Int)&&(a0.2.2.2.1==(0:Int)&&(a0.2.2.2.2==([]:List UInt8)&&true)))),(),()) (X0P a0,(),())) (Eq (false,(),()) (X0P a0,(),()))))))))
theorem X78.p(a0:XbM)(h:(pOp a0))(hw:Wf Xe6.A a0):X78.F a0:=by
 unfold X78.F;simp only[Bs,B0,B1,Yaa,X01,Xgb,Yay,Xb3];have hkl:a0.2.1.length<=maxLen:=h;obtain⟨k,key,f,t,d⟩:=a0;simp only[X0P,Xer,BEq.rfl,YaQ,Ybu]
 repeat' (with_reducible (first | (refine And.intro ?_ ?_) | intro _))
 all_goals (try simp (disch:=omega) only[w64,wu8,tn0,tn1,tm1,tm2,Yab,Yad,Yai]at*)
 all_goals (try simp (disch:=omega) only[w64,wu8,tn0,tn1,tm1,tm2,Yab,Yad,Yai]at*)
 all_goals (try omega)
 all_goals (try grind[])
def X78.e:GE:=mE Xe6 func96 [4] [X0X.e,X4o.e,X5d.e,X1B.e,X4j.e] [] noL (λi x=>X78.F x) λi x h _ hw=>X78.p x h hw
end Go.Proofs.YthpdkligbfbjeaaGreat.B
