/- Part 3 of the walk: contracts of functions, their formulas and proofs. -/
import Derived.Test.YtgmafgmjbaoomaaGreatXB
set_option maxRecDepth 100000
set_option linter.unusedVariables false
set_option linter.unusedSimpArgs false
namespace Go.Proofs.YtgmafgmjbaoomaaGreat.B
open Go Go.Proofs.YtgmafgmjbaoomaaGreat.Bv Go.Proofs.Tryz
def ixF:List Ser->Nat->List UInt8
 | [],_=>[]
 | x::r,n=>X7k x n++ixF r (n+(X04 x.2).length)
def txF(l:List Ser):List UInt8:=l.flatMap λx=>X04 x.2
theorem Xsz:∀(l:List Ser) (t x:List UInt8),l.foldl XqI (t,x)=(t++txF l,x++ixF l t.length)
 | [],t,x=>by simp[txF,ixF]
 | s::l,t,x=>by
   rw[Ybp,XqI,Xsz l]
   simp only[txF,ixF,YcL,Yam,Yab]
theorem XeX(a b:List Ser):txF (a++b)=txF a++txF b:=by simp[txF]
theorem Xp9(x:Ser)(b:List Ser):txF (x::b)=X04 x.2++txF b:=by simp[txF]
theorem XeE:∀l:List Ser,(txF l).length<=2014*l.length
 | []=>by simp[txF]
 | x::l=>by
   have h1:=XeE l
   have h2:=X74 x.2
   rw[Xp9,Yab,Yad];omega
def tF(l:List Ser):List UInt8:=[116,115,98,49]++txF l
theorem Xe1(l:List Ser):(tF l).length=4+(txF l).length:=by simp[tF];omega
def RF(s:List UInt8)(l:List Ser):Prop:=(X0M l=true/\l≠[])/\X0x l=s
instance (s:List UInt8) (l:List Ser):Decidable (RF s l):=by unfold RF;infer_instance
theorem XoC{n:Nat}(h:n<4294967296):X12 n 4=X3q (fx 4 n):=by
 unfold X12
 rw[Yah ⟨by decide,by omega,by rw[show(4:Int).toNat=4 from rfl];omega⟩];rfl
structure Lay (s:List UInt8) (l:List Ser):Prop where
 len:s.length=(tF l).length+(ixF l 4).length+8
 five:l.length<=5
 at4:X0C (s.drop ((tF l).length+(ixF l 4).length)) 4=(((tF l).length:Int),true)
 ix:(s.take ((tF l).length+(ixF l 4).length)).drop (tF l).length=ixF l 4
 tx:s.take (tF l).length=tF l
theorem RF.lay{s:List UInt8}{l:List Ser}(h:RF s l):Lay s l:=by
 obtain⟨h0,rfl⟩:=h
 have h5:=(XiD h0.1).1
 have ht:=XeE l
 have hl:=Xe1 l
 have e:Xvl l=(tF l,ixF l 4):=by
  have:=Xsz l [116,115,98,49] []
  rw[YaW]at this
  exact this
 have e2:X0x l=(tF l++ixF l 4)++(X12 (tF l).length 4++X12 (XjE (Xnk (Xvl l))) 4):=by
  unfold X0x
  rw[Yah h0]
  conv=>lhs;rw[e]
  rw[e]
  simp only[Xnk,Yam]
 have l1:(X12 (tF l).length 4).length=4:=by rw[XoC (by omega),Xcj,XcI]
 have l2:=XiJ (Xnk (Xvl l))
 have hlen:(X0x l).length=(tF l).length+(ixF l 4).length+8:=by
  rw[e2];simp only[Yab,l1,l2]
 have e3:(tF l).length+(ixF l 4).length=(tF l++ixF l 4).length:=by rw[Yab]
 refine⟨hlen,h5,?_,?_,?_⟩
 . rw[e2,e3,Ya1]
   unfold X0C
   rw[Yah ⟨by decide,by rw[Yab,l1,l2];decide⟩,show(4:Int).toNat=(X12 (tF l).length 4).length from l1.symm,Ybj,XoC (by omega),XvI 4 _ (by omega)]
 . rw[e2,e3,Ybj,Ya1]
 . rw[e2,Yam,Ybj]
theorem XiY{v:Int}(h:X63 v)(q:List UInt8):X6v (X20 v++q,true)=(v,(q,true)):=by
 have hp:=Xb1 h
 have e:=Xpe h q
 rw[Xvx (i:=(X20 v++q,true)) rfl (by rw[e];simp only;omega)]
 simp only
 rw[e]
 simp only[YaE,Ya1]
theorem Xr2{k:List UInt8}(h:k.length<=1000)(q:List UInt8):X5f (X20 k.length++(k++q),true)=(k,(q,true)):=by
 unfold X5f
 rw[XiY (by unfold X63;omega)]
 unfold XaN
 rw[Yah ⟨rfl,by simp only[Yab];omega⟩]
 simp only[YaE,Ybj,Ya1]
structure At (s:List UInt8) (x:Ser) (p:Nat) (bl:Nat):Prop where
 key:1<=x.1.length/\x.1.length<=8
 eb:bl=(X04 x.2).length
 blk:(s.take (p+bl)).drop p=X04 x.2
 fit:p+bl+8<=s.length
 small:p+bl<=12000
 read:X0r (X04 x.2)=(x.2,true)
 t0:X63 (x.2.getD 0 (0,0)).1
 t1:X63 (x.2.getD (x.2.length - 1) (0,0)).1
theorem Xqj{l:List Pt}(h:X0K l=true/\l≠[]):X0r (X04 l)=(l,true):=(Xjz ⟨h,by unfold X04;rw[Yah h];rfl⟩).symm
theorem Xxh{l:List Pt}(h:X0K l=true){i:Nat}(hi:i<l.length):0<=(l.getD i (0,0)).1/\(l.getD i (0,0)).1<=1099511627776:=by
 have:=(XoM.1 ((Xk5.1 h).2 i hi)).1
 have:=Xbb.1 this
 rw[Xn7]at this
 exact this.1
theorem RF.at{s:List UInt8}{a b:List Ser}{x:Ser}(h:RF s (a++x::b)):At s x (4+(txF a).length) (X04 x.2).length:=by
 have L:=h.lay
 have hs:=(XiD h.1.1).2 a.length (by simp)
 have ex:(a++x::b).getD a.length ([],[])=x:=by simp[Yap]
 rw[ex]at hs
 obtain⟨q1,q2,q3,q4⟩:=hs
 have q5:0<x.2.length:=by omega
 have q3:x.2≠[]:=Ybh.1 q5
 have htl:=Xe1 (a++x::b)
 have e1:tF (a++x::b)=([116,115,98,49]++txF a)++(X04 x.2++txF b):=by
  simp only[tF,XeX,Xp9,Yam]
 have e2:4+(txF a).length=([116,115,98,49]++txF a).length:=by simp;omega
 have e3:(tF (a++x::b)).length=4+(txF a).length+(X04 x.2).length+(txF b).length:=by
  rw[e1];simp only[Yab,Yad,Yai];omega
 have e4:s.take (4+(txF a).length+(X04 x.2).length)=([116,115,98,49]++txF a)++X04 x.2:=by
  have:s.take (4+(txF a).length+(X04 x.2).length)=(s.take (tF (a++x::b)).length).take (4+(txF a).length+(X04 x.2).length):=by
   rw[YbR];congr 1;omega
  rw[this,L.tx,e1,<-Yam,e2,<-Yab,Ybj]
 have p0:=Xxh q4 (i:=0) (by omega)
 have p1:=Xxh q4 (i:=x.2.length - 1) (by omega)
 have h5:=L.five
 have tb:=XeE (a++x::b)
 have el:=L.len
 refine⟨⟨q2,q1⟩,rfl,?_,by omega,by omega,Xqj ⟨q4,q3⟩,by unfold X63;omega,by unfold X63;omega⟩
 rw[e4,e2,Ya1]
theorem XhS(x:Ser)(p:Nat)(r:List UInt8):X7k x p++r=X20 x.1.length++(x.1++(X20 p++(X20 (X04 x.2).length++(X20 (x.2.getD 0 (0,0)).1++(X20 (x.2.getD (x.2.length - 1) (0,0)).1++r))))):=by
 simp only[X7k,Yam]
structure Rs (s rest:List UInt8) (x:Ser) (p:Nat) (r:List UInt8):Prop where
 k:(X5f (rest,true)).1=x.1
 b:(X6v (X5f (rest,true)).2).1=(p:Int)
 c:(X6v (X6v (X5f (rest,true)).2).2).1=((X04 x.2).length:Int)
 d:(X6v (X6v (X6v (X6v (X5f (rest,true)).2).2).2).2).2=(r,true)
theorem At.rs{s:List UInt8}{x:Ser}{p:Nat}(h:At s x p (X04 x.2).length)(r:List UInt8):Rs s (X7k x p++r) x p r:=by
 have hk:=h.key
 have hs:=h.small
 have a1:=Xr2 (k:=x.1) (by omega) (X20 p++(X20 (X04 x.2).length++(X20 (x.2.getD 0 (0,0)).1++(X20 (x.2.getD (x.2.length - 1) (0,0)).1++r))))
 have a2:=XiY (v:=(p:Int)) (by unfold X63;omega) (X20 (X04 x.2).length++(X20 (x.2.getD 0 (0,0)).1++(X20 (x.2.getD (x.2.length - 1) (0,0)).1++r)))
 have a3:=XiY (v:=((X04 x.2).length:Int)) (by unfold X63;omega) (X20 (x.2.getD 0 (0,0)).1++(X20 (x.2.getD (x.2.length - 1) (0,0)).1++r))
 have a4:=XiY h.t0 (X20 (x.2.getD (x.2.length - 1) (0,0)).1++r)
 have a5:=XiY h.t1 r
 rw[XhS]
 refine⟨?_,?_,?_,?_⟩
 . rw[a1]
 . rw[a1];simp only;rw[a2]
 . rw[a1];simp only;rw[a2];simp only;rw[a3]
 . rw[a1];simp only;rw[a2];simp only;rw[a3];simp only;rw[a4];simp only;rw[a5]
def dcF(s:List UInt8):Nat->Rd->List Ser
 | 0,_=>[]
 | k+1,r=>if r.1=[] then [] else((X5f r).1,(X0r ((s.take ((X6v (X5f r).2).1+(X6v (X6v (X5f r).2).2).1).toNat).drop (X6v (X5f r).2).1.toNat)).1)::dcF s k (X6v (X6v (X6v (X6v (X5f r).2).2).2).2).2
def cF(s:List UInt8):List Ser:=dcF s 6 ((s.take (s.length - 8)).drop (X0C (s.drop (s.length - 8)) 4).1.toNat,true)
theorem Xml{x:Ser}{p:Nat}(h:1<=x.1.length)(r:List UInt8):X7k x p++r≠[]:=by
 intro e
 have:=Ybo List.length e
 rw[XhS]at this
 simp only[Yab,Yai]at this
 omega
theorem Xv2{s:List UInt8}:∀(b a:List Ser) (k:Nat),RF s (a++b)->b.length<k->dcF s k (ixF b (4+(txF a).length),true)=b
 | [],a,k+1,h,hk=>by simp[dcF,ixF]
 | x::b,a,k+1,h,hk=>by
   have A:=h.at
   have R:=A.rs (ixF b (4+(txF a).length+(X04 x.2).length))
   rw[dcF,Yae (by simp only;rw[ixF];exact Xml A.key.1 _),ixF,R.d]
   have hn:RF s ((a++[x])++b):=by rw[Yam];exact h
   have ih:=Xv2 b (a++[x]) k hn (by simp at hk;omega)
   rw[XeX,Yab,show txF [x]=X04 x.2 by simp[txF],<-Yb4]at ih
   rw[ih,R.c,R.b,R.k]
   rw[show((((4+(txF a).length:Nat):Int)+((X04 x.2).length:Int))).toNat=4+(txF a).length+(X04 x.2).length by omega,YaE,A.blk,A.read]
theorem RF.dec{s:List UInt8}{l:List Ser}(h:RF s l):cF s=l:=by
 have L:=h.lay
 have e:s.length - 8=(tF l).length+(ixF l 4).length:=by rw[L.len];omega
 unfold cF
 rw[e,L.at4]
 simp only[YaE]
 rw[L.ix]
 have:=Xv2 (s:=s) l [] 6 (by simpa using h) (by have:=L.five;omega)
 simpa [txF] using this
def X0l(s:List UInt8):List Ser×Bool:=if RF s (cF s) then(cF s,true) else([],false)
theorem Xix{s:List UInt8}{l:List Ser}(h:RF s l):(l,true)=X0l s:=by
 unfold X0l;rw[h.dec,Yah h]
theorem Xa8{s:List UInt8}(h:∀l,¬RF s l):([],false)=X0l s:=by
 unfold X0l;rw[Yae (h _)]
theorem Xx2{s:List UInt8}{l:List Ser}(h:X0x l=s)(h2:s≠[]):RF s l:=by
 unfold RF
 refine⟨?_,h⟩
 unfold X0x at h
 split at h
 . rename_i h3;exact h3
 . exact absurd h.symm h2
def fI(s rest:List UInt8)(ok:Bool)(out:List Ser):Prop:=(rest.length<=s.length/\(∀x∈out,x.1.length<=maxLen)/\out.length<=6)/\∀l,RF s l->ok=true/\∃b,l=out++b/\rest=ixF b (4+(txF out).length)
def fM(s rest:List UInt8)(ok:Bool)(out:List Ser):Nat:=6 - out.length
theorem XwW{s rest:List UInt8}{ok:Bool}{out:List Ser}(h:fI s rest ok out)(he:ok=true->rest≠[]->out.length<=5->False):∀l,RF s l->ok=true/\out=l:=λl hl=>by
 obtain⟨h1,b,h2,h3⟩:=h.2 l hl
 refine⟨h1,?_⟩
 have h5:=hl.lay.five
 cases b with
 | nil=>rw[h2];simp
 | cons x b=>
   exfalso
   subst h2
   have A:=hl.at
   exact he h1 (by rw[h3,ixF];exact Xml A.key.1 _) (by rw[Yab]at h5;omega)
theorem XvP{s rest:List UInt8}{ok:Bool}{out:List Ser}(hs:s≠[])(h:fI s rest ok out)(he:ok=true->rest≠[]->out.length<=5->False):
 (ok=false->([],false)=X0l s)/\(ok=true->((out.length:Int)=0->([],false)=X0l s)/\(¬(out.length:Int)=0->X3s out/\(¬X0x out=s->([],false)=X0l s)/\(X0x out=s->(out,true)=X0l s))):=by
 have hf:=XwW h he
 refine⟨λh1=>Xa8 λl hl=>?_,λh1=>⟨λh2=>Xa8 λl hl=>?_,λh2=>⟨h.1.2.1,λh3=>Xa8 λl hl=>h3 ?_,λh3=>Xix (Xx2 h3 hs)⟩⟩⟩
 . rw[(hf l hl).1]at h1;cases h1
 . have:=(hf l hl).2;exact hl.1.2 (by rw[<-this];exact YaL.1 (by omega))
 . rw[(hf l hl).2];exact hl.2
theorem Xxx{s rest:List UInt8}{out:List Ser}(h:fI s rest true out)(hr:rest≠[]):(∀l,RF s l->∃x b,l=out++x::b/\rest=X7k x (4+(txF out).length)++ixF b (4+(txF out).length+(X04 x.2).length)/\At s x (4+(txF out).length) (X04 x.2).length/\Rs s rest x (4+(txF out).length) (ixF b (4+(txF out).length+(X04 x.2).length))):=λl hl=>by
 obtain⟨h1,b,h2,h3⟩:=h.2 l hl
 cases b with
 | nil=>exact absurd h3 hr
 | cons x b=>
   rw[ixF]at h3
   have A:At s x (4+(txF out).length) (X04 x.2).length:=RF.at (h2▸hl)
   exact⟨x,b,h2,h3,A,h3▸A.rs _⟩
def X92:Con:=cW .str [.one] (.pair X5m .bool) [(false,1),(false,1)] [(0,109)] (λa=>(Xnu a)) λa=>(X0l a)
def X2G.F(a0:U6q):Prop:=(X00 (decide ((wI ((ln a0) - (8:Int)))<(4:Int))) (Eq ((([]:(List U3q)),false),((),())) ((X0l a0),((),()))) (0<=(wI ((ln a0) - (8:Int)))/\((wI ((ln a0) - (8:Int)))<=(ln a0)/\(True/\∀r1,(Eq r1 ((X0C (List.drop (tN (wI ((ln a0) - (8:Int)))) a0) 4),((),())))->(X00 (decide (r1.1.1>(wI ((ln a0) - (8:Int))))) (Eq ((([]:(List U3q)),false),((),())) ((X0l a0),((),()))) (0<=r1.1.1/\(r1.1.1<=(wI ((ln a0) - (8:Int)))/\((wI ((ln a0) - (8:Int)))<=(ln a0)/\(eS [(0,.val false [.str a0]),(4,.val false [.int .i64 (wI ((ln a0) - (8:Int)))]),(7,.box 35 0)] [(0,.val false [.str a0]),(4,.val false [.int .i64 (wI ((ln a0) - (8:Int)))]),(7,.box 35 0)]/\((fI a0 (List.drop (tN r1.1.1) (List.take (tN (wI ((ln a0) - (8:Int)))) a0)) true ([]:List U3q))/\∀(y2:(U6q×(Bool×(List U3q)))),(fI a0 y2.1 y2.2.1 y2.2.2)->(X00 y2.2.1 (X00 (!(y2.1==[])) (X00 (decide ((ln y2.2.2)<=(5:Int))) (True/\∀r3,(Eq r3 ((X5f (y2.1,y2.2.1)).1,((X5f (y2.1,y2.2.1)).2,())))->(True/\∀r4,(Eq r4 ((X6v (r3.2.1.1,r3.2.1.2)).1,((X6v (r3.2.1.1,r3.2.1.2)).2,())))->(True/\∀r5,(Eq r5 ((X6v (r4.2.1.1,r4.2.1.2)).1,((X6v (r4.2.1.1,r4.2.1.2)).2,())))->(True/\∀r6,(Eq r6 ((X6v (r5.2.1.1,r5.2.1.2)).1,((X6v (r5.2.1.1,r5.2.1.2)).2,())))->(True/\∀r7,(Eq r7 ((X6v (r6.2.1.1,r6.2.1.2)).1,((X6v (r6.2.1.1,r6.2.1.2)).2,())))->(X00 (!r7.2.1.2) (Eq ((([]:(List U3q)),false),((),())) ((X0l a0),((),()))) (X00 (decide (r4.1>(wI ((ln a0) - (8:Int))))) (Eq ((([]:(List U3q)),false),((),())) ((X0l a0),((),()))) (X00 (decide (r5.1>(wI ((wI ((ln a0) - (8:Int))) - r4.1)))) (Eq ((([]:(List U3q)),false),((),())) ((X0l a0),((),()))) (0<=r4.1/\(r4.1<=(wI (r4.1+r5.1))/\((wI (r4.1+r5.1))<=(ln a0)/\(True/\∀r8,(Eq r8 ((X0r (List.drop (tN r4.1) (List.take (tN (wI (r4.1+r5.1))) a0))),((),())))->(List.length y2.2.2+List.length [(r3.1,r8.1.1)]<=9223372036854775807/\((List.length y2.2.2+List.length [(r3.1,r8.1.1)])*40<=140737488355328/\(eS [(0,.val false [.str a0]),(4,.val false [.int .i64 (wI ((ln a0) - (8:Int)))]),(7,.box 35 0)] [(0,.val false [.str a0]),(4,.val false [.int .i64 (wI ((ln a0) - (8:Int)))]),(7,.box 35 0)]/\(fI a0 r7.2.1.1 r7.2.1.2 (y2.2.2++[(r3.1,r8.1.1)]))/\(fM a0 r7.2.1.1 r7.2.1.2 (y2.2.2++[(r3.1,r8.1.1)]))<(fM a0 y2.1 y2.2.1 y2.2.2)))))))))))))))) (X00 (!y2.2.1) (Eq ((([]:(List U3q)),false),((),())) ((X0l a0),((),()))) (X00 ((ln y2.2.2)==(0:Int)) (Eq ((([]:(List U3q)),false),((),())) ((X0l a0),((),()))) ((X3s y2.2.2)/\∀r9,(Eq r9 ((X0x y2.2.2),((),())))->(X00 (!(r9.1==a0)) (Eq ((([]:(List U3q)),false),((),())) ((X0l a0),((),()))) (Eq ((y2.2.2,true),((),())) ((X0l a0),((),())))))))) (X00 (!y2.2.1) (Eq ((([]:(List U3q)),false),((),())) ((X0l a0),((),()))) (X00 ((ln y2.2.2)==(0:Int)) (Eq ((([]:(List U3q)),false),((),())) ((X0l a0),((),()))) ((X3s y2.2.2)/\∀r10,(Eq r10 ((X0x y2.2.2),((),())))->(X00 (!(r10.1==a0)) (Eq ((([]:(List U3q)),false),((),())) ((X0l a0),((),()))) (Eq ((y2.2.2,true),((),())) ((X0l a0),((),())))))))) (X00 (!y2.2.1) (Eq ((([]:(List U3q)),false),((),())) ((X0l a0),((),()))) (X00 ((ln y2.2.2)==(0:Int)) (Eq ((([]:(List U3q)),false),((),())) ((X0l a0),((),()))) ((X3s y2.2.2)/\∀r11,(Eq r11 ((X0x y2.2.2),((),())))->(X00 (!(r11.1==a0)) (Eq ((([]:(List U3q)),false),((),())) ((X0l a0),((),()))) (Eq ((y2.2.2,true),((),())) ((X0l a0),((),()))))))))))))))))))
def X2G.L(a0:U6q):Nat->Option X0e:=XLK [(1020,⟨⟨[0,4,7],[8],[35],[kC 8 0 1001027 109]⟩,(.pair .str (.pair .bool X5m)),λst y=>fI a0 y.1 y.2.1 y.2.2,λst y=>fM a0 y.1 y.2.1 y.2.2⟩)]
theorem X2G.p(a0:U6q)(h:(Xnu a0)):X2G.F a0:=by
 delta X2G.F ln tN wI eS
 simp only[Bs,B0,B1,Yaa,X01,YaA]
 have hl:a0.length<=maxLen:=h
 have hl2:=hl
 unfold maxLen at hl
 rw[w64 (x:=(a0.length:Int) - 8) (by omega) (by omega)]
 have hbe:=Xto (s:=a0.drop ((a0.length:Int) - 8).toNat) (w:=4)
 refine⟨λh1=>Xa8 λl hl=>?_,λh1=>?_⟩
 . have L:=hl.lay;have:=L.len;have:=Xe1 l;omega
 have hne:a0≠[]:=λe=>by rw[e]at h1;simp at h1
 have en:((a0.length:Int) - 8).toNat=a0.length - 8:=by omega
 rw[en]at hbe ⊢
 refine⟨by omega,by omega,λh2=>Xa8 λl hl=>?_,λh2=>⟨by omega,by omega,by omega,⟨⟨by rw[Yar,Yal];omega,by simp,by simp⟩,λl hl=>⟨rfl,l,rfl,?_⟩⟩,λy hI=>?_⟩⟩
 . have L:=hl.lay
   have:=L.len
   rw[show a0.length - 8=(tF l).length+(ixF l 4).length by omega,L.at4]at h2
   simp only at h2;omega
 . have L:=hl.lay
   have:=L.len
   rw[show a0.length - 8=(tF l).length+(ixF l 4).length by omega,L.at4]
   simp only[YaE]
   rw[L.ix];rfl
 obtain⟨rest,ok,out⟩:=y
 simp only at hI ⊢
 refine⟨λh3=>⟨λh4=>⟨λh5=>?_,λh5=>XvP hne hI (λ_ _ h6=>by omega)⟩,λh4=>XvP hne hI (λ_ h6 _=>h6 h4)⟩,λh3=>XvP hne hI (λh6 _ _=>by rw[h6]at h3;cases h3)⟩
 subst h3
 have st:=Xxx hI h4
 obtain⟨⟨r1,r2,r3⟩,_⟩:=hI
 have n1:=XoE (X5f (rest,true)).2
 have n2:=XoE (X6v (X5f (rest,true)).2).2
 have k1:=XqM (rest,true)
 have k2:=XiI (X5f (rest,true)).2
 have k3:=XiI (X6v (X5f (rest,true)).2).2
 have k4:=XiI (X6v (X6v (X5f (rest,true)).2).2).2
 have k5:=XiI (X6v (X6v (X6v (X5f (rest,true)).2).2).2).2
 simp only at k1
 refine⟨λh6=>Xa8 λl hl=>?_,λh6=>⟨λh7=>Xa8 λl hl=>?_,λh7=>?_⟩⟩
 . obtain⟨x,b,e1,e2,A,R⟩:=st l hl
   rw[R.d]at h6;cases h6
 . obtain⟨x,b,e1,e2,A,R⟩:=st l hl
   rw[R.b]at h7
   have:=A.fit
   omega
 rw[w64 (x:=(a0.length:Int) - 8 - (X6v (X5f (rest,true)).2).1) (by omega) (by omega)]
 refine⟨λh8=>Xa8 λl hl=>?_,λh8=>?_⟩
 . obtain⟨x,b,e1,e2,A,R⟩:=st l hl
   rw[R.b,R.c]at h8
   have:=A.fit
   omega
 rw[w64 (x:=(X6v (X5f (rest,true)).2).1+(X6v (X6v (X5f (rest,true)).2).2).1) (by omega) (by omega)]
 refine⟨by omega,by omega,by omega,by omega,by omega,⟨⟨by omega,?_,by simp;omega⟩,λl hl=>?_⟩,by unfold fM;simp;omega⟩
 . intro x hx
   rcases Yaf.1 hx with hx | hx
   . exact r2 x hx
   . rw[YaN.1 hx];simp only;unfold maxLen;omega
 . obtain⟨x,b,e1,e2,A,R⟩:=st l hl
   refine⟨h6,b,?_,?_⟩
   . rw[e1,R.c,R.b,R.k]
     rw[show((((4+(txF out).length:Nat):Int)+((X04 x.2).length:Int))).toNat=4+(txF out).length+(X04 x.2).length by omega,YaE,A.blk,A.read]
     simp
   . rw[R.d,R.c,R.b,R.k]
     rw[show((((4+(txF out).length:Nat):Int)+((X04 x.2).length:Int))).toNat=4+(txF out).length+(X04 x.2).length by omega,YaE,A.blk,A.read]
     simp only[XeX,Yab]
     rw[show txF [(x.1,x.2)]=X04 x.2 by simp[txF],<-Yb4]
def X2G.e:GE:=mE X92 func175 [25,4] [X3W.e,X1q.e,X1S.e,X23.e,X3O.e] [] (λi x=>X2G.L x) (λi x=>X2G.F x) λi x h _ _=>X2G.p x h
def Xcb(s:List UInt8)(y:(List Ser×Bool)×(Unit×Unit)):Prop:=(∀x∈y.1.1,x.1.length<=maxLen)/\(y.1.2=true->s≠[])/\∀l,RF s l->y.1=(l,true)
def lI(s:List UInt8)(at':Int)(out:List Ser):Prop:=(12<=s.length/\0<=at'/\at'<=(s.length:Int) - 8/\(∀x∈out,x.1.length<=maxLen)/\out.length<=5)/\∀l,RF s l->∃b,l=out++b/\(s.take (s.length - 8)).drop at'.toNat=ixF b (4+(txF out).length)
def lM(s:List UInt8)(at':Int)(out:List Ser):Nat:=((s.length:Int) - at').toNat
theorem XlF{s:List UInt8}{out:List Ser}(h:∀x∈out,x.1.length<=maxLen)(h2:∀l,RF s l->False):Xcb s ((out,false),((),())):=⟨h,λh=>(by cases h),λl hl=>absurd hl (h2 l)⟩
structure Sp (s:List UInt8) (a:Nat) (x:Ser) (p:Nat) (r:List UInt8):Prop where
 v:X0j ((s.take (s.length - 8)).drop a)=((x.1.length:Int),((X20 x.1.length).length:Int))
 kp:0<(X20 x.1.length).length
 fit:a+(X20 x.1.length).length+x.1.length<=s.length - 8
 key:(s.take (a+(X20 x.1.length).length+x.1.length)).drop (a+(X20 x.1.length).length)=x.1
 v7:X0R ((s.take (s.length - 8)).drop (a+(X20 x.1.length).length+x.1.length)) 4=([(p:Int),((X04 x.2).length:Int),(x.2.getD 0 (0,0)).1,(x.2.getD (x.2.length - 1) (0,0)).1],((s.length - 8 - (a+(X20 x.1.length).length+x.1.length) - r.length:Nat):Int))
 r8:r.length<=s.length - 8 - (a+(X20 x.1.length).length+x.1.length)
 last:(s.take (s.length - 8)).drop (s.length - 8 - r.length)=r
theorem At.sp{s:List UInt8}{a p:Nat}{x:Ser}{r:List UInt8}(h:At s x p (X04 x.2).length)(hr:(s.take (s.length - 8)).drop a=X7k x p++r):Sp s a x p r:=by
 have hk:=h.key
 have hs:=h.small
 have i1:X63 (x.1.length:Int):=by unfold X63;omega
 have i2:X63 (p:Int):=by unfold X63;omega
 have i3:X63 ((X04 x.2).length:Int):=by unfold X63;omega
 have kp:=Xb1 i1
 have hlen:=Ybo List.length hr
 rw[Yar,Yal]at hlen
 rw[XhS]at hr hlen
 simp only[Yab]at hlen
 have d1:(s.take (s.length - 8)).drop (a+(X20 x.1.length).length)=x.1++(X20 p++(X20 (X04 x.2).length++(X20 (x.2.getD 0 (0,0)).1++(X20 (x.2.getD (x.2.length - 1) (0,0)).1++r)))):=by
  rw[<-YaI,hr,Ya1]
 have d2:(s.take (s.length - 8)).drop (a+(X20 x.1.length).length+x.1.length)=X20 p++(X20 (X04 x.2).length++(X20 (x.2.getD 0 (0,0)).1++(X20 (x.2.getD (x.2.length - 1) (0,0)).1++r))):=by
  rw[<-YaI,d1,Ya1]
 refine⟨by rw[hr];exact Xpe i1 _,kp,by omega,?_,?_,by omega,?_⟩
 . have:s.take (a+(X20 x.1.length).length+x.1.length)=(s.take (s.length - 8)).take (a+(X20 x.1.length).length+x.1.length):=by
    rw[YbR];congr 1;omega
   rw[this,XjT,d1,Ybj]
 . rw[d2]
   let W:Nat->Int:=λj=>([(p:Int),((X04 x.2).length:Int),(x.2.getD 0 (0,0)).1,(x.2.getD (x.2.length - 1) (0,0)).1]:List Int).getD j 0
   have hc:cat W 4=X20 p++(X20 (X04 x.2).length++(X20 (x.2.getD 0 (0,0)).1++X20 (x.2.getD (x.2.length - 1) (0,0)).1)):=by
    simp only[cat,YaW,Yam];rfl
   have e:X20 p++(X20 (X04 x.2).length++(X20 (x.2.getD 0 (0,0)).1++(X20 (x.2.getD (x.2.length - 1) (0,0)).1++r)))=cat W 4++r:=by
    rw[hc];simp only[Yam]
   have hv:=Xmm (W:=W) (n:=4) (s:=cat W 4++r) (λj hj=>by
    have:j=0\/j=1\/j=2\/j=3:=by omega
    rcases this with h0 | h0 | h0 | h0<;>subst h0
    . exact i2
    . exact i3
    . exact h.t0
    . exact h.t1) (by rw[Ybj])
   rw[e]
   refine hv.trans ?_
   have hcl:=Ybo List.length hc
   simp only[Yab]at hcl
   rw[Yaa]
   exact⟨rfl,by omega⟩
 . have d3:(s.take (s.length - 8)).drop (a+(X20 x.1.length).length+x.1.length+((X20 p).length+((X20 (X04 x.2).length).length+((X20 (x.2.getD 0 (0,0)).1).length+(X20 (x.2.getD (x.2.length - 1) (0,0)).1).length))))=r:=by
    rw[<-YaI,d2,<-YaI,Ya1,<-YaI,Ya1,<-YaI,Ya1,Ya1]
   have e:s.length - 8 - r.length=a+(X20 x.1.length).length+x.1.length+((X20 p).length+((X20 (X04 x.2).length).length+((X20 (x.2.getD 0 (0,0)).1).length+(X20 (x.2.getD (x.2.length - 1) (0,0)).1).length))):=by omega
   rw[e];exact d3
theorem Xx7{s:List UInt8}{at':Int}{out:List Ser}(h:lI s at' out)(hi:at'<(s.length:Int) - 8):∀l,RF s l->∃x b,l=out++x::b/\At s x (4+(txF out).length) (X04 x.2).length/\Sp s at'.toNat x (4+(txF out).length) (ixF b (4+(txF out).length+(X04 x.2).length)):=λl hl=>by
 obtain⟨b,h2,h3⟩:=h.2 l hl
 cases b with
 | nil=>
   exfalso
   have:=Ybo List.length h3
   rw[Yar,Yal]at this
   have h0:=h.1
   simp only[ixF,Yai]at this
   omega
 | cons x b=>
   rw[ixF]at h3
   have A:At s x (4+(txF out).length) (X04 x.2).length:=RF.at (h2▸hl)
   exact⟨x,b,h2,A,A.sp h3⟩
theorem l_end{s:List UInt8}{at':Int}{out:List Ser}(h:lI s at' out)(hi:¬at'<(s.length:Int) - 8):Xcb s ((out,true),((),())):=by
 obtain⟨⟨h1,h2,h3,h4,h5⟩,h6⟩:=h
 refine⟨h4,λ_ e=>by rw[e]at h1;simp at h1,λl hl=>?_⟩
 obtain⟨b,k1,k2⟩:=h6 l hl
 cases b with
 | nil=>rw[k1];simp
 | cons x b=>
   exfalso
   have A:At s x (4+(txF out).length) (X04 x.2).length:=RF.at (k1▸hl)
   have:=Ybo List.length k2
   rw[Yar,Yal,ixF,XhS]at this
   have:=A.key
   simp only[Yab]at*
   omega
def Xam:Con:={I:=.unit,B:=.unit,A:=.str,shA:=[.one],R:=(.pair X5m .bool),shR:=[(false,1),(false,1)],fresh:=[(0,109)],pre:=λ_ a=>(Xnu a),post:=λ_ a y=>(Xcb a y)}
def X3m.F(a0:U6q):Prop:=(X00 (decide ((ln a0)<(12:Int))) (Xcb a0 ((([]:(List U3q)),false),((),()))) (0<=(wI ((ln a0) - (8:Int)))/\((wI ((ln a0) - (8:Int)))<=(ln a0)/\(True/\∀r1,(Eq r1 ((X0C (List.drop (tN (wI ((ln a0) - (8:Int)))) a0) 4),((),())))->(X00 (decide (r1.1.1>(wI ((ln a0) - (8:Int))))) (Xcb a0 ((([]:(List U3q)),false),((),()))) (eS [(0,.val false [.str a0]),(7,.val false [.int .i64 (wI ((ln a0) - (8:Int)))])] [(0,.val false [.str a0]),(7,.val false [.int .i64 (wI ((ln a0) - (8:Int)))])]/\((lI a0 r1.1.1 ([]:List U3q))/\∀(y2:(Int×(List U3q))),(lI a0 y2.1 y2.2)->(X00 (decide (y2.1<(wI ((ln a0) - (8:Int))))) (0<=y2.1/\(y2.1<=(wI ((ln a0) - (8:Int)))/\((wI ((ln a0) - (8:Int)))<=(ln a0)/\(True/\∀r3,(Eq r3 ((X0j (List.drop (tN y2.1) (List.take (tN (wI ((ln a0) - (8:Int)))) a0))),((),())))->(X00 (r3.1.2==(0:Int)) (Xcb a0 ((y2.2,false),((),()))) (X00 (decide (r3.1.1>(wI ((wI ((wI ((ln a0) - (8:Int))) - y2.1)) - r3.1.2)))) (Xcb a0 ((y2.2,false),((),()))) (0<=(wI (y2.1+r3.1.2))/\((wI (y2.1+r3.1.2))<=(wI ((wI (y2.1+r3.1.2))+r3.1.1))/\((wI ((wI (y2.1+r3.1.2))+r3.1.1))<=(ln a0)/\(0<=(wI ((wI (y2.1+r3.1.2))+r3.1.1))/\((wI ((wI (y2.1+r3.1.2))+r3.1.1))<=(wI ((ln a0) - (8:Int)))/\((wI ((ln a0) - (8:Int)))<=(ln a0)/\((p7 (List.drop (tN (wI ((wI (y2.1+r3.1.2))+r3.1.1))) (List.take (tN (wI ((ln a0) - (8:Int)))) a0)) 4)/\∀r4,(Eq r4 ((X0R (List.drop (tN (wI ((wI (y2.1+r3.1.2))+r3.1.1))) (List.take (tN (wI ((ln a0) - (8:Int)))) a0)) 4),((),())))->(X00 (decide (r4.1.2<(0:Int))) (Xcb a0 ((y2.2,false),((),()))) (0<=(0:Int)/\((0:Int)<(ln r4.1.1)/\(X00 (decide ((List.getD r4.1.1 (tN (0:Int)) 0)>(ln a0))) (Xcb a0 ((y2.2,false),((),()))) (0<=(1:Int)/\((1:Int)<(ln r4.1.1)/\(0<=(0:Int)/\((0:Int)<(ln r4.1.1)/\(X00 (decide ((List.getD r4.1.1 (tN (1:Int)) 0)>(wI ((ln a0) - (List.getD r4.1.1 (tN (0:Int)) 0))))) (Xcb a0 ((y2.2,false),((),()))) (0<=(0:Int)/\((0:Int)<(ln r4.1.1)/\(0<=(0:Int)/\((0:Int)<(ln r4.1.1)/\(0<=(1:Int)/\((1:Int)<(ln r4.1.1)/\(0<=(List.getD r4.1.1 (tN (0:Int)) 0)/\((List.getD r4.1.1 (tN (0:Int)) 0)<=(wI ((List.getD r4.1.1 (tN (0:Int)) 0)+(List.getD r4.1.1 (tN (1:Int)) 0)))/\((wI ((List.getD r4.1.1 (tN (0:Int)) 0)+(List.getD r4.1.1 (tN (1:Int)) 0)))<=(ln a0)/\(True/\∀r5,(Eq r5 ((X0r (List.drop (tN (List.getD r4.1.1 (tN (0:Int)) 0)) (List.take (tN (wI ((List.getD r4.1.1 (tN (0:Int)) 0)+(List.getD r4.1.1 (tN (1:Int)) 0)))) a0))),((),())))->(X00 (!r5.1.2) (Xcb a0 ((y2.2,false),((),()))) (List.length y2.2+List.length [((List.drop (tN (wI (y2.1+r3.1.2))) (List.take (tN (wI ((wI (y2.1+r3.1.2))+r3.1.1))) a0)),r5.1.1)]<=9223372036854775807/\((List.length y2.2+List.length [((List.drop (tN (wI (y2.1+r3.1.2))) (List.take (tN (wI ((wI (y2.1+r3.1.2))+r3.1.1))) a0)),r5.1.1)])*40<=140737488355328/\(X00 (decide ((ln (y2.2++[((List.drop (tN (wI (y2.1+r3.1.2))) (List.take (tN (wI ((wI (y2.1+r3.1.2))+r3.1.1))) a0)),r5.1.1)]))>(5:Int))) (Xcb a0 (((y2.2++[((List.drop (tN (wI (y2.1+r3.1.2))) (List.take (tN (wI ((wI (y2.1+r3.1.2))+r3.1.1))) a0)),r5.1.1)]),false),((),()))) (eS [(0,.val false [.str a0]),(7,.val false [.int .i64 (wI ((ln a0) - (8:Int)))])] [(0,.val false [.str a0]),(7,.val false [.int .i64 (wI ((ln a0) - (8:Int)))])]/\(lI a0 (wI ((wI ((wI (y2.1+r3.1.2))+r3.1.1))+r4.1.2)) (y2.2++[((List.drop (tN (wI (y2.1+r3.1.2))) (List.take (tN (wI ((wI (y2.1+r3.1.2))+r3.1.1))) a0)),r5.1.1)]))/\(lM a0 (wI ((wI ((wI (y2.1+r3.1.2))+r3.1.1))+r4.1.2)) (y2.2++[((List.drop (tN (wI (y2.1+r3.1.2))) (List.take (tN (wI ((wI (y2.1+r3.1.2))+r3.1.1))) a0)),r5.1.1)]))<(lM a0 y2.1 y2.2)))))))))))))))))))))))))))))))))))))) (Xcb a0 ((y2.2,true),((),())))))))))))
def X3m.L(a0:U6q):Nat->Option X0e:=XLK [(508,⟨⟨[0,7],[4,5],[],[kC 4 0 1000515 109]⟩,(.pair (.int .i64) X5m),λst y=>lI a0 y.1 y.2,λst y=>lM a0 y.1 y.2⟩)]
theorem X3m.p(a0:U6q)(h:(Xnu a0)):X3m.F a0:=by
 delta X3m.F ln tN wI eS
 simp only[Bs,B0,B1,Yaa,X01,YaA]
 have hl:a0.length<=maxLen:=h
 have hl2:=hl
 unfold maxLen at hl
 rw[w64 (x:=(a0.length:Int) - 8) (by omega) (by omega)]
 have hbe:=Xto (s:=a0.drop ((a0.length:Int) - 8).toNat) (w:=4)
 refine⟨λh1=>XlF (by simp) λl hl=>?_,λh1=>?_⟩
 . have L:=hl.lay;have:=L.len;have:=Xe1 l;omega
 have en:((a0.length:Int) - 8).toNat=a0.length - 8:=by omega
 rw[en]at hbe ⊢
 refine⟨by omega,by omega,λh2=>XlF (by simp) λl hl=>?_,λh2=>⟨⟨⟨by omega,by omega,by omega,by simp,by simp⟩,λl hl=>⟨l,rfl,?_⟩⟩,λy hI=>?_⟩⟩
 . have L:=hl.lay
   have:=L.len
   rw[show a0.length - 8=(tF l).length+(ixF l 4).length by omega,L.at4]at h2
   simp only at h2;omega
 . have L:=hl.lay
   have:=L.len
   rw[show a0.length - 8=(tF l).length+(ixF l 4).length by omega,L.at4]
   simp only[YaE]
   rw[L.ix];rfl
 obtain⟨p,out⟩:=y
 simp only at hI ⊢
 refine⟨λhi=>?_,λhi=>l_end hI hi⟩
 have st:=Xx7 hI hi
 obtain⟨⟨g1,g2,g3,g4,g5⟩,_⟩:=hI
 have hb:=X4h ((a0.take (a0.length - 8)).drop p.toNat)
 rw[Yar,Yal]at hb
 have st2:∀l,RF a0 l->∃x b,l=out++x::b/\At a0 x (4+(txF out).length) (X04 x.2).length/\Sp a0 p.toNat x (4+(txF out).length) (ixF b (4+(txF out).length+(X04 x.2).length))/\(X0j ((a0.take (a0.length - 8)).drop p.toNat)).1=x.1.length/\(X0j ((a0.take (a0.length - 8)).drop p.toNat)).2=(X20 x.1.length).length:=λl hl=>by
  obtain⟨x,b,e1,A,S⟩:=st l hl
  exact⟨x,b,e1,A,S,by rw[S.v],by rw[S.v]⟩
 clear st
 generalize (X0j ((a0.take (a0.length - 8)).drop p.toNat)).1=n at*
 generalize (X0j ((a0.take (a0.length - 8)).drop p.toNat)).2=k at*
 rw[w64 (x:=(a0.length:Int) - 8 - p) (by omega) (by omega),w64 (x:=(a0.length:Int) - 8 - p - k) (by omega) (by omega),w64 (x:=p+k) (by omega) (by omega)]
 refine⟨g2,by omega,by omega,λh3=>XlF g4 λl hl=>?_,λh3=>⟨λh4=>XlF g4 λl hl=>?_,λh4=>?_⟩⟩
 . obtain⟨x,b,e1,A,S,v1,v2⟩:=st2 l hl;have:=S.kp;omega
 . obtain⟨x,b,e1,A,S,v1,v2⟩:=st2 l hl;have:=S.fit;omega
 rw[w64 (x:=p+k+n) (by omega) (by omega)]
 have hl2':((a0.take (a0.length - 8)).drop (p+k+n).toNat).length=a0.length - 8 - (p+k+n).toNat:=by rw[Yar,Yal];omega
 have st3:∀l,RF a0 l->∃x b,l=out++x::b/\At a0 x (4+(txF out).length) (X04 x.2).length/\Sp a0 p.toNat x (4+(txF out).length) (ixF b (4+(txF out).length+(X04 x.2).length))/\(a0.take (p+k+n).toNat).drop (p+k).toNat=x.1/\(X0R ((a0.take (a0.length - 8)).drop (p+k+n).toNat) 4).1=[((4+(txF out).length:Nat):Int),((X04 x.2).length:Int),(x.2.getD 0 (0,0)).1,(x.2.getD (x.2.length - 1) (0,0)).1]/\(p+k+n)+(X0R ((a0.take (a0.length - 8)).drop (p+k+n).toNat) 4).2=(a0.length:Int) - 8 - (ixF b (4+(txF out).length+(X04 x.2).length)).length/\p+k+n<=(a0.length:Int) - 8 - (ixF b (4+(txF out).length+(X04 x.2).length)).length:=λl hl=>by
  obtain⟨x,b,e1,A,S,v1,v2⟩:=st2 l hl
  have e2:(p+k+n).toNat=p.toNat+(X20 x.1.length).length+x.1.length:=by omega
  have e3:(p+k).toNat=p.toNat+(X20 x.1.length).length:=by omega
  have hf:=S.fit
  have h8:=S.r8
  refine⟨x,b,e1,A,S,by rw[e2,e3];exact S.key,by rw[e2,S.v7],?_,by omega⟩
  rw[e2,S.v7];simp only;omega
 clear st2
 have h7:=Xsh (s:=(a0.take (a0.length - 8)).drop (p+k+n).toNat) (n:=4) (by omega)
 have hkl:((a0.take (p+k+n).toNat).drop (p+k).toNat).length<=maxLen:=by unfold maxLen;rw[Yar,Yal];omega
 refine⟨by omega,by omega,by omega,by omega,by omega,by omega,⟨by omega,by omega,by omega⟩,λh5=>XlF g4 λl hl=>?_,λh5=>?_⟩
 . obtain⟨x,b,e1,A,S,v1,v2,v3,v4⟩:=st3 l hl
   omega
 obtain⟨k1,k2,k3,k4⟩:=h7 h5
 rw[hl2']at k4
 clear h7
 generalize (X0R ((a0.take (a0.length - 8)).drop (p+k+n).toNat) 4).1=v at*
 generalize (X0R ((a0.take (a0.length - 8)).drop (p+k+n).toNat) 4).2=m at*
 have k20:=k2 0
 have k21:=k2 1
 rw[show Int.toNat 0=0 from rfl,show Int.toNat 1=1 from rfl]
 have st4:∀l,RF a0 l->∃x b,l=out++x::b/\At a0 x (4+(txF out).length) (X04 x.2).length/\Sp a0 p.toNat x (4+(txF out).length) (ixF b (4+(txF out).length+(X04 x.2).length))/\(a0.take (p+k+n).toNat).drop (p+k).toNat=x.1/\v.getD 0 0=((4+(txF out).length:Nat):Int)/\v.getD 1 0=((X04 x.2).length:Int)/\p+k+n+m=(a0.length:Int) - 8 - (ixF b (4+(txF out).length+(X04 x.2).length)).length:=λl hl=>by
  obtain⟨x,b,e1,A,S,v1,v2,v3,_⟩:=st3 l hl
  exact⟨x,b,e1,A,S,v1,by rw[v2];rfl,by rw[v2];rfl,v3⟩
 clear st3
 generalize v.getD 0 0=v0 at*
 generalize v.getD 1 0=v1 at*
 refine⟨by omega,by omega,λh6=>XlF g4 λl hl=>?_,λh6=>?_⟩
 . obtain⟨x,b,e1,A,S,w1,w2,w3,w4⟩:=st4 l hl;have:=A.fit;omega
 rw[w64 (x:=(a0.length:Int) - v0) (by omega) (by omega)]
 refine⟨by omega,by omega,by omega,by omega,λh8=>XlF g4 λl hl=>?_,λh8=>?_⟩
 . obtain⟨x,b,e1,A,S,w1,w2,w3,w4⟩:=st4 l hl;have:=A.fit;omega
 rw[w64 (x:=v0+v1) (by omega) (by omega),w64 (x:=p+k+n+m) (by omega) (by omega)]
 have blk:∀x,At a0 x (4+(txF out).length) (X04 x.2).length->v0=((4+(txF out).length:Nat):Int)->v1=((X04 x.2).length:Int)->X0r ((a0.take (v0+v1).toNat).drop v0.toNat)=(x.2,true):=λx A w2 w3=>by
  rw[w2,w3,show(((4+(txF out).length:Nat):Int)+((X04 x.2).length:Int)).toNat=4+(txF out).length+(X04 x.2).length by omega,YaE,A.blk,A.read]
 refine⟨by omega,by omega,by omega,by omega,by omega,by omega,by omega,by omega,by omega,λh9=>XlF g4 λl hl=>?_,λh9=>?_⟩
 . obtain⟨x,b,e1,A,S,w1,w2,w3,w4⟩:=st4 l hl
   rw[blk x A w2 w3]at h9;cases h9
 have g4':∀y,∀x∈out++[((a0.take (p+k+n).toNat).drop (p+k).toNat,y)],x.1.length<=maxLen:=λy x hx=>by
  rcases Yaf.1 hx with hx | hx
  . exact g4 x hx
  . rw[YaN.1 hx];exact hkl
 refine⟨by omega,by omega,λh10=>XlF (g4' _) λl hl=>?_,λh10=>⟨⟨⟨g1,by omega,by omega,g4' _,by simp;omega⟩,λl hl=>?_⟩,by unfold lM;omega⟩⟩
 . obtain⟨x,b,e1,A,S,w1,w2,w3,w4⟩:=st4 l hl
   have h5':=hl.lay.five
   rw[e1,Yab,Yad]at h5'
   omega
 . obtain⟨x,b,e1,A,S,w1,w2,w3,w4⟩:=st4 l hl
   refine⟨b,?_,?_⟩
   . rw[blk x A w2 w3,w1,e1];simp
   . rw[blk x A w2 w3,w1,XeX,Yab,show txF [(x.1,x.2)]=X04 x.2 by simp[txF],<-Yb4]
     have:=S.last
     have h8:=S.r8
     rw[show(p+k+n+m).toNat=a0.length - 8 - (ixF b (4+(txF out).length+(X04 x.2).length)).length by omega]
     exact this
def X3m.e:GE:=mE Xam func163 [25,4] [X19.e,X2x.e,X1U.e,X3d.e] [] (λi x=>X3m.L x) (λi x=>X3m.F x) λi x h _ _=>X3m.p x h
def X9k:Con:=cQ .str [.one] (.pair X5m .bool) [(false,1),(false,1)] (λa=>(Xnu a)) λa=>(X0l a)
def X37.F(a0:U6q):Prop:=((Xnu a0)/\∀r1,(Xcb a0 r1)->(X00 (!r1.1.2) (Eq ((([]:(List U3q)),false),((),())) ((X0l a0),((),()))) ((X3s r1.1.1)/\∀r2,(Eq r2 ((X0x r1.1.1),((),())))->(X00 (!(r2.1==a0)) (Eq ((([]:(List U3q)),false),((),())) ((X0l a0),((),()))) (Eq ((r1.1.1,true),((),())) ((X0l a0),((),())))))))
theorem X37.p(a0:U6q)(h:(Xnu a0)):X37.F a0:=by
 unfold X37.F
 simp only[Bs,B0,B1,Yaa,X01,YaA]
 refine⟨h,λr hr=>?_⟩
 obtain⟨⟨l,is⟩,_,_⟩:=r
 obtain⟨q1,q2,q3⟩:=hr
 simp only at q1 q2 q3 ⊢
 refine⟨λh1=>Xa8 λl' hl=>?_,λh1=>⟨q1,λh2=>Xa8 λl' hl=>h2 ?_,λh2=>Xix (Xx2 h2 (q2 h1))⟩⟩
 . have:=q3 l' hl;rw[Yaa]at this;rw[this.2]at h1;cases h1
 . have:=q3 l' hl;rw[Yaa]at this;rw[this.1];exact hl.2
def X37.e:GE:=mE X9k func117 [25,4] [X25.e,X3m.e] [] noL (λi x=>X37.F x) λi x h _ _=>X37.p x h
abbrev Eng:=X5E
def Xns(s:Ser)(k:List UInt8):Int:=Xda s.1 k
def Xwy(l:List Ser)(k:List UInt8)(u:Unit):Prop:=Xgt l/\l.length<=1099511627776
def Xw1(l:List Ser)(k:List UInt8)(u:Unit):Int×Bool:=((pos Op.bytesLess Prod.fst k l:Nat),X8F l k)
structure btI (l:List Ser) (k:List UInt8) (u:Unit) (i j:Int):Prop where
 h1:0<=i
 h2:i<=j
 h3:j<=l.length
 h4:∀x,x<i.toNat->Op.bytesLess (l.getD x ([],[])).1 k=true
 h5:∀x,j.toNat<=x->x<l.length->Op.bytesLess (l.getD x ([],[])).1 k=false
def btM(l:List Ser)(k:List UInt8)(u:Unit)(i j:Int):Nat:=(j - i).toNat
theorem bt_lo{l:List Ser}{k:List UInt8}{u:Unit}{i j h:Int}(ha:Xgt l)(hI:btI l k u i j)(h1:i<=h)(h2:h<j)(hk:Op.bytesLess (l.getD h.toNat ([],[])).1 k=true):btI l k u (h+1) j:=by
 obtain⟨q1,q2,q3,q4,q5⟩:=hI
 refine⟨by omega,by omega,q3,λx hx=>?_,q5⟩
 by_cases e:x=h.toNat
 . subst e;exact hk
 . exact X6B.tr _ _ _ (X86 ([],[]) ha (i:=x) (j:=h.toNat) (by omega) (by omega)) hk
theorem bt_hi{l:List Ser}{k:List UInt8}{u:Unit}{i j h:Int}(ha:Xgt l)(hI:btI l k u i j)(h1:i<=h)(h2:h<j)(hk:¬Op.bytesLess (l.getD h.toNat ([],[])).1 k=true):btI l k u i h:=by
 obtain⟨q1,q2,q3,q4,q5⟩:=hI
 refine⟨q1,h1,by omega,q4,λx hx hl=>?_⟩
 by_cases e:x=h.toNat
 . subst e;simpa using hk
 . have:=X86 ([],[]) ha (i:=h.toNat) (j:=x) (by omega) hl
   rw[Ybk];intro hx2
   exact hk (X6B.tr _ _ _ this hx2)
theorem Xxj{l:List Ser}{k:List UInt8}{u:Unit}{i j:Int}(ha:Xgt l)(hI:btI l k u i j)(hij:¬i<j):pos Op.bytesLess Prod.fst k l=i.toNat/\X8F l k=(decide (i<l.length)&&decide ((l.getD i.toNat ([],[])).1=k)):=by
 obtain⟨q1,q2,q3,q4,q5⟩:=hI
 have e:i=j:=by omega
 subst e
 have hp:pos Op.bytesLess Prod.fst k l=i.toNat:=XqL ([],[]) (by omega) q4 q5
 refine⟨hp,?_⟩
 rw[YbI,Yac,Yaj,Yaj]
 constructor
 . intro h
   obtain⟨h1,h2⟩:=XgL ha h
   rw[hp]at h1 h2
   exact⟨by omega,h2⟩
 . rintro⟨h1,h2⟩
   exact X7J.2 ⟨_,X1a (by omega),h2⟩
theorem lt0(x:Ser)(k:List UInt8):(Xns x k<0)=(Op.bytesLess x.1 k=true):=propext (Xsi _ _)
theorem eq0(x:Ser)(k:List UInt8):(Xns x k==0)=decide (x.1=k):=by
 rw[YbI];simp only[YbS,Yaj];exact Xsx _ _
def fSf(l:List Ser)(k:List UInt8):Int×Bool:=Xw1 l k ()
def pSf(l:List Ser)(k:List UInt8):Prop:=Xwy l k ()
def X6g:Con:=cQ (.pair T5q .str) [.agg 2,.one] (.int .i64) [(false,1)] (λ_=>True) λa=>(Xns a.1 a.2)
def X1D.F(a0:U3q)(a1:U6q):Prop:=(True/\∀r1,(Eq r1 ((Xda a0.1 a1),((),())))->(Eq (r1.1,((),())) ((Xns a0 a1),((),()))))
theorem X1D.p(a0:U3q)(a1:U6q)(h:True)(hw:Wf X6g.A (a0,a1)):X1D.F a0 a1:=by
 unfold X1D.F
 simp only[Bs,B0,B1,Yaa,X01,Xns,YaA]
 repeat' (with_reducible (first | (refine And.intro ?_ ?_) | intro _))
 all_goals (try simp (disch:=omega) only[w64,wu8,tn0,tn1,tm1,tm2,Yab,Yad,Yai]at*)
 all_goals (try simp (disch:=omega) only[w64,wu8,tn0,tn1,tm1,tm2,Yab,Yad,Yai]at*)
 all_goals (try omega)
 all_goals (try grind[])
def X1D.e:GE:=mE X6g func192 [3] [X2A.e] [] noL (λi x=>X1D.F x.1 x.2) λi x h _ hw=>X1D.p x.1 x.2 h hw
def X0A:Con:=cQ (.pair X5m (.pair .str .unit)) [.one,.one,.clo 192 []] XrD [(false,1),(false,1)] (λa=>(Xwy a.1 a.2.1 a.2.2)) λa=>(Xw1 a.1 a.2.1 a.2.2)
def X03.F(a0:(List U3q))(a1:U6q)(a2:Unit):Prop:=(eS [(0,.val false [.lst T5q a0 none]),(1,.val false [.str a1]),(2,.fn 192 [] []),(8,.val false [.int .i64 (ln a0)])] [(0,.val false [.lst T5q a0 none]),(1,.val false [.str a1]),(2,.fn 192 [] []),(8,.val false [.int .i64 (ln a0)])]/\((btI a0 a1 a2 0 (ln a0))/\∀(y1:(Int×Int)),(btI a0 a1 a2 y1.1 y1.2)->(X00 (decide (y1.1<y1.2)) (0<=(1:Int)/\(0<=(wI (Int.fdiv (IntKind.wrap .u64 (wI (y1.1+y1.2))) (2 ^ (min (tN (1:Int)) (IntKind.bits .u64)))))/\((wI (Int.fdiv (IntKind.wrap .u64 (wI (y1.1+y1.2))) (2 ^ (min (tN (1:Int)) (IntKind.bits .u64)))))<(ln a0)/\(True/\∀r2,(Eq r2 ((Xns ((List.getD a0 (tN (wI (Int.fdiv (IntKind.wrap .u64 (wI (y1.1+y1.2))) (2 ^ (min (tN (1:Int)) (IntKind.bits .u64)))))) ([],[])).1,(List.getD a0 (tN (wI (Int.fdiv (IntKind.wrap .u64 (wI (y1.1+y1.2))) (2 ^ (min (tN (1:Int)) (IntKind.bits .u64)))))) ([],[])).2) a1),((),())))->(X00 (decide (r2.1<(0:Int))) (eS [(0,.val false [.lst T5q a0 none]),(1,.val false [.str a1]),(2,.fn 192 [] []),(8,.val false [.int .i64 (ln a0)])] [(0,.val false [.lst T5q a0 none]),(1,.val false [.str a1]),(2,.fn 192 [] []),(8,.val false [.int .i64 (ln a0)])]/\(btI a0 a1 a2 (wI ((wI (Int.fdiv (IntKind.wrap .u64 (wI (y1.1+y1.2))) (2 ^ (min (tN (1:Int)) (IntKind.bits .u64)))))+(1:Int))) y1.2)/\(btM a0 a1 a2 (wI ((wI (Int.fdiv (IntKind.wrap .u64 (wI (y1.1+y1.2))) (2 ^ (min (tN (1:Int)) (IntKind.bits .u64)))))+(1:Int))) y1.2)<(btM a0 a1 a2 y1.1 y1.2)) (eS [(0,.val false [.lst T5q a0 none]),(1,.val false [.str a1]),(2,.fn 192 [] []),(8,.val false [.int .i64 (ln a0)])] [(0,.val false [.lst T5q a0 none]),(1,.val false [.str a1]),(2,.fn 192 [] []),(8,.val false [.int .i64 (ln a0)])]/\(btI a0 a1 a2 y1.1 (wI (Int.fdiv (IntKind.wrap .u64 (wI (y1.1+y1.2))) (2 ^ (min (tN (1:Int)) (IntKind.bits .u64))))))/\(btM a0 a1 a2 y1.1 (wI (Int.fdiv (IntKind.wrap .u64 (wI (y1.1+y1.2))) (2 ^ (min (tN (1:Int)) (IntKind.bits .u64))))))<(btM a0 a1 a2 y1.1 y1.2))))))) (X00 (decide (y1.1<(ln a0))) (0<=y1.1/\(y1.1<(ln a0)/\(True/\∀r3,(Eq r3 ((Xns ((List.getD a0 (tN y1.1) ([],[])).1,(List.getD a0 (tN y1.1) ([],[])).2) a1),((),())))->(Eq ((y1.1,(r3.1==(0:Int))),((),())) ((Xw1 a0 a1 a2),((),())))))) (Eq ((y1.1,false),((),())) ((Xw1 a0 a1 a2),((),())))))))
def X03.L(a0:(List U3q))(a1:U6q)(a2:Unit):Nat->Option X0e:=XLK [(60,⟨⟨[0,1,2,8],[9,10],[],[]⟩,T0q,λst y=>btI a0 a1 a2 y.1 y.2,λst y=>btM a0 a1 a2 y.1 y.2⟩)]
theorem X03.p(a0:(List U3q))(a1:U6q)(a2:Unit)(h:(Xwy a0 a1 a2)):X03.F a0 a1 a2:=by
 delta X03.F ln tN wI eS
 simp only[Bs,B0,B1,Yaa,X01,YaA]
 obtain⟨hp,hl⟩:=h
 refine⟨⟨by omega,by omega,by omega,by simp,λk h1 h2=>by omega⟩,?_⟩
 rintro⟨i,j⟩ hI
 simp only at hI ⊢
 have q1:=hI.h1
 have q2:=hI.h2
 have q3:=hI.h3
 refine⟨λhij=>?_,λhij=>?_⟩
 . rw[w64 (x:=i+j) (by omega) (by omega),wu64 (x:=i+j) (by omega) (by omega),half (by omega) (by omega),w64 (x:=(i+j) / 2) (by omega) (by omega)]
   rw[lt0,w64 (x:=(i+j) / 2+1) (by omega) (by omega)]
   refine⟨by omega,by omega,by omega,λh1=>⟨bt_lo hp hI (by omega) (by omega) h1,by unfold btM;omega⟩,λh1=>⟨bt_hi hp hI (by omega) (by omega) h1,by unfold btM;omega⟩⟩
 . obtain⟨e1,e2⟩:=Xxj hp hI hij
   have e3:((i.toNat:Nat):Int)=i:=by omega
   refine⟨λh1=>⟨by omega,by omega,?_⟩,λh1=>?_⟩
   . simp only[Xw1,e1,e2,e3,Yaz h1,YaT,Yaa,Ybw,Ybn]
     exact eq0 _ _
   . simp only[Xw1,e1,e2,e3,Yaw h1,Ybs]
def X03.e:GE:=mE X0A func191 [3,4] [X1D.e] [] (λi x=>X03.L x.1 x.2.1 x.2.2) (λi x=>X03.F x.1 x.2.1 x.2.2) λi x h _ _=>X03.p x.1 x.2.1 x.2.2 h
def X7D:Con:=cQ (.pair X5m .str) [.one,.one] XrD [(false,1),(false,1)] (λa=>(pSf a.1 a.2)) λa=>(fSf a.1 a.2)
def X2B.F(a0:(List U3q))(a1:U6q):Prop:=((Xwy a0 a1 ())/\∀r1,(Eq r1 ((Xw1 a0 a1 ()),((),())))->(Eq ((r1.1.1,r1.1.2),((),())) ((fSf a0 a1),((),()))))
theorem X2B.p(a0:(List U3q))(a1:U6q)(h:(pSf a0 a1)):X2B.F a0 a1:=by
 unfold X2B.F
 simp only[Bs,B0,B1,Yaa,X01,fSf]
 exact h
def X2B.e:GE:=mE X7D func156 [3,4] [X03.e,X1D.e] [] noL (λi x=>X2B.F x.1 x.2) λi x h _ _=>X2B.p x.1 x.2 h
def XpP(l top:List Ser):Prop:=Xd0 l/\(∀x∈top,Xf2 x.2)/\tot l+tot top<=100000000
structure laI (l top:List Ser) (i:Int) (out:List Ser):Prop where
 h1:0<=i
 h2:i<=top.length
 h3:X4D out (top.drop i.toNat)=X4D l top
 h4:Xd0 out
 h5:tot out+tot (top.drop i.toNat)<=100000000
def laM(l top:List Ser)(i:Int)(out:List Ser):Nat:=(top.length - i).toNat
theorem XtZ{l:List Ser}{i:Nat}(h:i<l.length):tot (l.drop i)=cS (l.getD i ([],[]))+tot (l.drop (i+1)):=by
 rw[X3U ([],[]) h];exact X4y ..
theorem Xvq{l top:List Ser}{i:Int}{out:List Ser}(ht:∀x∈top,Xf2 x.2)(h:laI l top i out)(hi:i<top.length):laI l top (i+1) (Xj2 out (top.getD i.toNat ([],[]))):=by
 obtain⟨h1,h2,h3,h4,h5⟩:=h
 have hs:=ht _ (X1a (d:=([],[])) (by omega:i.toNat<top.length))
 have a1:=XoL h4.1 (top.getD i.toNat ([],[]))
 have a2:=XtZ (l:=top) (i:=i.toNat) (by omega)
 refine⟨by omega,by omega,?_,Xs0 h4 hs,?_⟩
 . rw[tn1 h1]
   rw[X3U ([],[]) (by omega:i.toNat<top.length)]at h3
   exact h3
 . rw[tn1 h1];omega
theorem Xxa{l top:List Ser}{i:Int}{out:List Ser}(h:laI l top i out)(hi:¬i<top.length):out=X4D l top:=by
 obtain⟨h1,h2,h3,h4,h5⟩:=h
 have e:i.toNat=top.length:=by omega
 rw[e,YbO]at h3
 exact h3
def Xdm:Con:={A:=(.pair X5m X5m),shA:=[.one,.one],ownA:=[(0,109)],R:=X5m,shR:=[(false,1)],fresh:=[(0,109)],pre:=λ_ a=>(XpP a.1 a.2),f:=some λ_ a=>((X4D a.1 a.2),((),()))}
def X5e.F(a0:(List U3q))(a1:(List U3q)):Prop:=(eS [(9,.val false [.lst T5q a1 none]),(10,.val false [.int .i64 (ln a1)])] [(9,.val false [.lst T5q a1 none]),(10,.val false [.int .i64 (ln a1)])]/\((laI a0 a1 0 a0)/\∀(y1:(Int×(List U3q))),(laI a0 a1 y1.1 y1.2)->(X00 (decide (y1.1<(ln a1))) (0<=y1.1/\(y1.1<(ln a1)/\((pSf y1.2 ((List.getD a1 (tN y1.1) ([],[])).1))/\∀r2,(Eq r2 ((fSf y1.2 ((List.getD a1 (tN y1.1) ([],[])).1)),((),())))->(X00 r2.1.2 (0<=r2.1.1/\(r2.1.1<(ln y1.2)/\((pMg ((List.getD y1.2 (tN r2.1.1) ([],[])).2) ((List.getD a1 (tN y1.1) ([],[])).2))/\∀r3,(Eq r3 ((X4f ((List.getD y1.2 (tN r2.1.1) ([],[])).2) ((List.getD a1 (tN y1.1) ([],[])).2)),((),())))->(0<=r2.1.1/\(r2.1.1<(ln y1.2)/\(eS [(9,.val false [.lst T5q a1 none]),(10,.val false [.int .i64 (ln a1)])] [(9,.val false [.lst T5q a1 none]),(10,.val false [.int .i64 (ln a1)])]/\(laI a0 a1 (wI (y1.1+(1:Int))) (List.set y1.2 (tN r2.1.1) ((List.getD y1.2 (tN r2.1.1) ([],[])).1,r3.1)))/\(laM a0 a1 (wI (y1.1+(1:Int))) (List.set y1.2 (tN r2.1.1) ((List.getD y1.2 (tN r2.1.1) ([],[])).1,r3.1)))<(laM a0 a1 y1.1 y1.2))))))) ((XjG ((List.getD a1 (tN y1.1) ([],[])).2))/\∀r4,(Eq r4 ((Xqz ((List.getD a1 (tN y1.1) ([],[])).2)),((),())))->((X45 y1.2 r2.1.1 [((List.getD a1 (tN y1.1) ([],[])).1,r4.1)])/\∀r5,(Eq r5 ((X2b y1.2 r2.1.1 [((List.getD a1 (tN y1.1) ([],[])).1,r4.1)]),((),())))->(eS [(9,.val false [.lst T5q a1 none]),(10,.val false [.int .i64 (ln a1)])] [(9,.val false [.lst T5q a1 none]),(10,.val false [.int .i64 (ln a1)])]/\(laI a0 a1 (wI (y1.1+(1:Int))) r5.1)/\(laM a0 a1 (wI (y1.1+(1:Int))) r5.1)<(laM a0 a1 y1.1 y1.2)))))))) (Eq (y1.2,((),())) ((X4D a0 a1),((),()))))))
def X5e.L(a0:(List U3q))(a1:(List U3q)):Nat->Option X0e:=XLK [(26,⟨⟨[9,10],[0,11],[],[kC 0 0 1000003 109]⟩,(.pair (.int .i64) X5m),λst y=>laI a0 a1 y.1 y.2,λst y=>laM a0 a1 y.1 y.2⟩)]
theorem X5e.p(a0:(List U3q))(a1:(List U3q))(h:(XpP a0 a1)):X5e.F a0 a1:=by
 delta X5e.F ln tN wI eS
 simp only[Bs,B0,B1,Yaa,X01,pSf,Xwy,Xqz,XjG]
 obtain⟨hl,ht,hn⟩:=h
 refine⟨⟨by omega,by omega,rfl,hl,by simpa using hn⟩,?_⟩
 rintro⟨i,out⟩ hI
 simp only at hI ⊢
 have q1:=hI.h1
 have q2:=hI.h2
 have q5:=hI.h5
 refine⟨λhi=>?_,λhi=>Xxa hI hi⟩
 have st:=Xvq ht hI hi
 have dn:∀o,laM a0 a1 (i+1) o<laM a0 a1 i out:=λo=>by unfold laM;omega
 have k8:=XaG a1
 have k9:=Xei a0
 rw[w64 (x:=i+1) (by omega) (by omega)]
 have hm:=X1a (d:=(([]:List UInt8),([]:List Pt))) (by omega:i.toNat<a1.length)
 have hs:=ht _ hm
 have k1:=XaG out
 have k2:=Xei (a1.drop i.toNat)
 have k3:=Xft hm
 have k4:=Xei a0
 have k5:=Xei out
 generalize a1.getD i.toNat ([],[])=s at*
 have hp:=Xpx (lt:=Op.bytesLess) (key:=Prod.fst) s.1 out
 refine⟨q1,hi,⟨hI.h4.1,by omega⟩,λh6=>?_,λh6=>?_⟩
 . have h7:X8F out s.1=true:=h6
   obtain⟨p1,p2⟩:=XgL hI.h4.1 h7
   have e:(fSf out s.1).1=((pos Op.bytesLess Prod.fst s.1 out:Nat):Int):=rfl
   rw[e,YaE]
   have hm2:=X1a (d:=(([]:List UInt8),([]:List Pt))) p1
   have k6:=Xft hm2
   have hR:=hI.h4.2 _ hm2
   refine⟨by omega,by omega,⟨hR,hs,by omega,by omega⟩,by omega,by omega,?_,dn _⟩
   have e2:Xj2 out s=out.set (pos Op.bytesLess Prod.fst s.1 out) ((out.getD (pos Op.bytesLess Prod.fst s.1 out) ([],[])).1,X4f (out.getD (pos Op.bytesLess Prod.fst s.1 out) ([],[])).2 s.2):=by unfold Xj2;rw[Yah h7]
   rw[<-e2];exact st
 . have h7:X8F out s.1=false:=h6
   have e:(fSf out s.1).1=((pos Op.bytesLess Prod.fst s.1 out:Nat):Int):=rfl
   have e2:Xj2 out s=X2b out (fSf out s.1).1 [(s.1,s.2)]:=by
    unfold Xj2
    rw[Yae (by rw[h7];decide),e];rfl
   refine⟨by omega,⟨by omega,by omega,by simp,by simp;omega⟩,?_,dn _⟩
   rw[<-e2];exact st
def X5e.e:GE:=mE Xdm func176 [25] [X2B.e,X0f.e,X4b.e,X2N.e] [] (λi x=>X5e.L x.1 x.2) (λi x=>X5e.F x.1 x.2) λi x h _ _=>X5e.p x.1 x.2 h
def XiO(l:List Ser)(f:Int):Prop:=tot l<=100000000
structure raI (l:List Ser) (f i:Int) (out:List Ser):Prop where
 h1:0<=i
 h2:i<=l.length
 h3:out=X0X (l.take i.toNat) f
 h4:(out.length:Int)<=i
def raM(l:List Ser)(f i:Int)(out:List Ser):Nat:=(l.length - i).toNat
theorem Xkz(a b:List Ser)(f:Int):X0X (a++b) f=X0X a f++X0X b f:=by unfold X0X;rw[Ya8,YaY]
theorem XuC{l:List Ser}{f i:Int}{out:List Ser}(h:raI l f i out)(hi:i<l.length)(hn:0<(X1Z (l.getD i.toNat ([],[])).2 f 1099511627777).length):raI l f (i+1) (out++[((l.getD i.toNat ([],[])).1,X1Z (l.getD i.toNat ([],[])).2 f 1099511627777)]):=by
 obtain⟨h1,h2,h3,h4⟩:=h
 refine⟨by omega,by omega,?_,by simp;omega⟩
 rw[tn1 h1,X0J ([],[]) (by omega),Xkz,h3]
 generalize l.getD i.toNat ([],[])=x at*
 have:(X1Z x.2 f 1099511627777).isEmpty=false:=by
  cases e:X1Z x.2 f 1099511627777 with
  | nil=>rw[e]at hn;simp at hn
  | cons=>rfl
 simp[X0X,this]
theorem Xxt{l:List Ser}{f i:Int}{out:List Ser}(h:raI l f i out)(hi:i<l.length)(hn:¬0<(X1Z (l.getD i.toNat ([],[])).2 f 1099511627777).length):raI l f (i+1) out:=by
 obtain⟨h1,h2,h3,h4⟩:=h
 refine⟨by omega,by omega,?_,by omega⟩
 rw[tn1 h1,X0J ([],[]) (by omega),Xkz,h3]
 generalize l.getD i.toNat ([],[])=x at*
 have:(X1Z x.2 f 1099511627777)=[]:=YaL.1 (by omega)
 simp[X0X,this]
theorem XuV{l:List Ser}{f i:Int}{out:List Ser}(h:raI l f i out)(hi:¬i<l.length):out=X0X l f:=by
 obtain⟨h1,h2,h3,h4⟩:=h
 rw[h3,show i.toNat=l.length by omega,Yat]
def Xb3:Con:=cW (.pair X5m (.int .i64)) [.one,.one] X5m [(false,1)] [(0,109)] (λa=>(XiO a.1 a.2)) λa=>(X0X a.1 a.2)
def X3Z.F(a0:(List U3q))(a1:Int):Prop:=(eS [(1,.val false [.int .i64 a1]),(10,.val false [.lst T5q a0 none]),(11,.val false [.int .i64 (ln a0)])] [(1,.val false [.int .i64 a1]),(10,.val false [.lst T5q a0 none]),(11,.val false [.int .i64 (ln a0)])]/\((raI a0 a1 0 ([]:List U3q))/\∀(y1:(Int×(List U3q))),(raI a0 a1 y1.1 y1.2)->(X00 (decide (y1.1<(ln a0))) (0<=y1.1/\(y1.1<(ln a0)/\((X8g ((List.getD a0 (tN y1.1) ([],[])).2) a1 1099511627777)/\∀r2,(Eq r2 ((X1Z ((List.getD a0 (tN y1.1) ([],[])).2) a1 1099511627777),((),())))->(X00 (decide ((ln r2.1)>(0:Int))) (List.length y1.2+List.length ([((List.getD a0 (tN y1.1) ([],[])).1,r2.1)]:List U3q)<=9223372036854775807/\((List.length y1.2+List.length ([((List.getD a0 (tN y1.1) ([],[])).1,r2.1)]:List U3q))*40<=140737488355328/\(eS [(1,.val false [.int .i64 a1]),(10,.val false [.lst T5q a0 none]),(11,.val false [.int .i64 (ln a0)])] [(1,.val false [.int .i64 a1]),(10,.val false [.lst T5q a0 none]),(11,.val false [.int .i64 (ln a0)])]/\(raI a0 a1 (wI (y1.1+(1:Int))) (y1.2++[((List.getD a0 (tN y1.1) ([],[])).1,r2.1)]))/\(raM a0 a1 (wI (y1.1+(1:Int))) (y1.2++[((List.getD a0 (tN y1.1) ([],[])).1,r2.1)]))<(raM a0 a1 y1.1 y1.2)))) (eS [(1,.val false [.int .i64 a1]),(10,.val false [.lst T5q a0 none]),(11,.val false [.int .i64 (ln a0)])] [(1,.val false [.int .i64 a1]),(10,.val false [.lst T5q a0 none]),(11,.val false [.int .i64 (ln a0)])]/\(raI a0 a1 (wI (y1.1+(1:Int))) y1.2)/\(raM a0 a1 (wI (y1.1+(1:Int))) y1.2)<(raM a0 a1 y1.1 y1.2)))))) (Eq (y1.2,((),())) ((X0X a0 a1),((),()))))))
def X3Z.L(a0:(List U3q))(a1:Int):Nat->Option X0e:=XLK [(58,⟨⟨[1,10,11],[5,12],[],[kC 5 0 1000643 109]⟩,(.pair (.int .i64) X5m),λst y=>raI a0 a1 y.1 y.2,λst y=>raM a0 a1 y.1 y.2⟩)]
theorem X3Z.p(a0:(List U3q))(a1:Int)(h:(XiO a0 a1)):X3Z.F a0 a1:=by
 delta X3Z.F ln tN wI eS
 simp only[Bs,B0,B1,Yaa,X01,X8g]
 have hn:tot a0<=100000000:=h
 have k1:=XaG a0
 refine⟨⟨by omega,by omega,by simp[X0X],by simp⟩,?_⟩
 rintro⟨i,out⟩ hI
 simp only at hI ⊢
 have q1:=hI.h1
 have q2:=hI.h2
 have q4:=hI.h4
 refine⟨λhi=>?_,λhi=>XuV hI hi⟩
 have dn:∀o,raM a0 a1 (i+1) o<raM a0 a1 i out:=λo=>by unfold raM;omega
 rw[w64 (x:=i+1) (by omega) (by omega)]
 have k2:=Xft (X1a (d:=(([]:List UInt8),([]:List Pt))) (by omega:i.toNat<a0.length))
 refine⟨q1,hi,by omega,λh6=>⟨by omega,by omega,XuC hI hi (by omega),dn _⟩,λh6=>⟨Xxt hI hi (by omega),dn _⟩⟩
def X3Z.e:GE:=mE Xb3 func158 [25] [X4L.e] [] (λi x=>X3Z.L x.1 x.2) (λi x=>X3Z.F x.1 x.2) λi x h _ _=>X3Z.p x.1 x.2 h
def Xf0(l:List Ser):Int:=cL (λx:Ser=>(x.2.length:Int)) l
theorem Xlz(l:List Ser):0<=Xf0 l/\Xf0 l+l.length=tot l:=by
 unfold Xf0 tot
 induction l with
 | nil=>simp[cL]
 | cons x l ih=>have e:cS x=(x.2.length:Int)+1:=rfl;rw[X4y,X4y,Yad];omega
def Xoq(l:List Ser):Prop:=tot l<=100000000
def cnI(l:List Ser)(n i:Int):Prop:=0<=i/\i<=l.length/\n=Xf0 (l.take i.toNat)
def cnM(l:List Ser)(n i:Int):Nat:=(l.length - i).toNat
theorem Xrb{l:List Ser}{n i:Int}(h:cnI l n i)(hi:i<l.length):cnI l (n+((l.getD i.toNat ([],[])).2.length:Int)) (i+1):=by
 obtain⟨h1,h2,h3⟩:=h
 refine⟨by omega,by omega,?_⟩
 unfold Xf0 at h3 ⊢
 rw[tn1 h1,(X5i (λx:Ser=>(x.2.length:Int)) ([],[]) (by omega:i.toNat<l.length)).1,h3]
theorem Xx3{l:List Ser}{n i:Int}(h:cnI l n i)(hi:i<l.length):0<=n/\n+((l.getD i.toNat ([],[])).2.length:Int)<=Xf0 l:=by
 obtain⟨h1,h2,h3⟩:=h
 have a:=(X5i (λx:Ser=>(x.2.length:Int)) ([],[]) (by omega:i.toNat<l.length)).2
 have b:=(Xlz (l.take i.toNat)).1
 have c:=(Xlz (l.drop (i.toNat+1))).1
 unfold Xf0 at*
 omega
theorem XuZ{l:List Ser}{n i:Int}(h:cnI l n i)(hi:¬i<l.length):n=Xf0 l:=by
 obtain⟨h1,h2,h3⟩:=h
 rw[h3,show i.toNat=l.length by omega,Yat]
def Xoi(c:Eng)(x:Ser):Bool:=decide ((x.2.getD 0 (0,0)).1<c.1)
def fLow(x:Ser)(c:Eng):Bool:=Xoi c x
def Xxf(x:Ser)(c:Eng):Prop:=x.2≠[]
def XnB(l:List Ser)(c:Eng):Prop:=l.length<=1099511627776/\∀x∈l,x.2≠[]
def XjI(l:List Ser)(c:Eng):Int:=if l.findIdx (Xoi c)<l.length then((l.findIdx (Xoi c):Nat):Int) else -1
def ilI(l:List Ser)(c:Eng)(i:Int):Prop:=0<=i/\i<=l.length/\∀j,j<i.toNat->Xoi c (l.getD j ([],[]))=false
def ilM(l:List Ser)(c:Eng)(i:Int):Nat:=(l.length - i).toNat
theorem XwQ{l:List Ser}{c:Eng}{i:Int}(h:ilI l c i)(hi:i<l.length)(hd:Xoi c (l.getD i.toNat ([],[]))=true):i=XjI l c:=by
 obtain⟨h1,h2,h3⟩:=h
 have e:l.findIdx (Xoi c)=i.toNat:=by
  refine(Ycy (by omega)).2 ⟨by rw[X0O (by omega)]at hd;exact hd,λj hj=>?_⟩
  have:=h3 j hj
  rw[X0O (by omega)]at this;exact this
 unfold XjI
 rw[e,Yah (by omega)];omega
theorem il_no{l:List Ser}{c:Eng}{i:Int}(h:ilI l c i)(hi:¬i<l.length):-1=XjI l c:=by
 obtain⟨h1,h2,h3⟩:=h
 have e:¬l.findIdx (Xoi c)<l.length:=λhlt=>by
  have a:=Ybx (w:=hlt)
  have b:=h3 (l.findIdx (Xoi c)) (by omega)
  rw[X0O hlt,a]at b;cases b
 unfold XjI
 rw[Yae e]
def Xlk(l:List Ser)(c:Eng):Bool:=l.any (Xoi c)
theorem Xvi(l:List Ser)(c:Eng):decide (XjI l c>=0)=Xlk l c:=by
 unfold XjI Xlk
 rw[YbI,Yaj,Ydo]
 constructor
 . intro h
   split at h
   . rename_i hlt;exact⟨_,YcX hlt,Ybx (w:=hlt)⟩
   . omega
 . rintro⟨x,hx,hd⟩
   rw[Yah (YcW ⟨x,hx,hd⟩)];omega
def Xb5:Con:=cQ X5m [.one] (.int .i64) [(false,1)] (λa=>(Xoq a)) λa=>(Xf0 a)
def X3N.F(a0:(List U3q)):Prop:=(eS [(6,.val false [.lst T5q a0 none]),(7,.val false [.int .i64 (ln a0)])] [(6,.val false [.lst T5q a0 none]),(7,.val false [.int .i64 (ln a0)])]/\((cnI a0 0 0)/\∀(y1:(Int×Int)),(cnI a0 y1.1 y1.2)->(X00 (decide (y1.2<(ln a0))) (0<=y1.2/\(y1.2<(ln a0)/\(eS [(6,.val false [.lst T5q a0 none]),(7,.val false [.int .i64 (ln a0)])] [(6,.val false [.lst T5q a0 none]),(7,.val false [.int .i64 (ln a0)])]/\(cnI a0 (wI (y1.1+(ln ((List.getD a0 (tN y1.2) ([],[])).2)))) (wI (y1.2+(1:Int))))/\(cnM a0 (wI (y1.1+(ln ((List.getD a0 (tN y1.2) ([],[])).2)))) (wI (y1.2+(1:Int))))<(cnM a0 y1.1 y1.2)))) (Eq (y1.1,((),())) ((Xf0 a0),((),()))))))
def X3N.L(a0:(List U3q)):Nat->Option X0e:=XLK [(58,⟨⟨[6,7],[3,8],[],[]⟩,T0q,λst y=>cnI a0 y.1 y.2,λst y=>cnM a0 y.1 y.2⟩)]
theorem X3N.p(a0:(List U3q))(h:(Xoq a0)):X3N.F a0:=by
 delta X3N.F ln tN wI eS
 simp only[Bs,B0,B1,Yaa,X01]
 have hn:tot a0<=100000000:=h
 have k0:=Xlz a0
 have k1:=XaG a0
 refine⟨⟨by omega,by omega,by simp[Xf0,cL]⟩,?_⟩
 rintro⟨n,i⟩ hI
 simp only at hI ⊢
 have q1:=hI.1
 have q2:=hI.2.1
 refine⟨λhi=>?_,λhi=>XuZ hI hi⟩
 have k2:=Xx3 hI hi
 have st:=Xrb hI hi
 rw[w64 (x:=i+1) (by omega) (by omega),w64 (by omega) (by omega)]
 exact⟨q1,hi,st,by unfold cnM;omega⟩
def X3N.e:GE:=mE Xb5 func134 [3] [] [] (λi x=>X3N.L x) (λi x=>X3N.F x) λi x h _ _=>X3N.p x h
def X5Y:Con:=cQ (.pair T5q T8q) [.agg 2,.ptr 3] .bool [(false,1)] (λa=>(Xxf a.1 a.2)) λa=>(fLow a.1 a.2)
def X0Z.F(a0:U3q)(a1:X5E):Prop:=(0<=(0:Int)/\((0:Int)<(ln a0.2)/\(Eq ((decide (((List.getD a0.2 (tN (0:Int)) (0,0)).1)<a1.1)),((),())) ((fLow a0 a1),((),())))))
theorem X0Z.p(a0:U3q)(a1:X5E)(h:(Xxf a0 a1)):X0Z.F a0 a1:=by
 delta X0Z.F ln tN
 simp only[Bs,B0,B1,Yaa,X01,Xxf,YaA]
 have hp:a0.2≠[]:=h
 have:0<a0.2.length:=Ybh.2 hp
 exact⟨by omega,by omega,rfl⟩
def X0Z.e:GE:=mE X5Y func136 [4] [] [] noL (λi x=>X0Z.F x.1 x.2) λi x h _ _=>X0Z.p x.1 x.2 h
def X11:Con:=cQ (.pair X5m T8q) [.one,.clo 136 [3]] (.int .i64) [(false,1)] (λa=>(XnB a.1 a.2)) λa=>(XjI a.1 a.2)
def X0a.F(a0:(List U3q))(a1:X5E):Prop:=(eS [(0,.val false [.lst T5q a0 none]),(1,.fn 136 [] [.ptr [.int .i64 a1.1,.lst T5q a1.2.1 none,.lst .str a1.2.2 none]]),(7,.val false [.int .i64 (ln a0)])] [(0,.val false [.lst T5q a0 none]),(1,.fn 136 [] [.ptr [.int .i64 a1.1,.lst T5q a1.2.1 none,.lst .str a1.2.2 none]]),(7,.val false [.int .i64 (ln a0)])]/\((ilI a0 a1 0)/\∀(y1:Int),(ilI a0 a1 y1)->(X00 (decide (y1<(ln a0))) (0<=y1/\(y1<(ln a0)/\((Xxf ((List.getD a0 (tN y1) ([],[])).1,(List.getD a0 (tN y1) ([],[])).2) (a1.1,(a1.2.1,a1.2.2)))/\∀r2,(Eq r2 ((fLow ((List.getD a0 (tN y1) ([],[])).1,(List.getD a0 (tN y1) ([],[])).2) (a1.1,(a1.2.1,a1.2.2))),((),())))->(X00 r2.1 (Eq (y1,((),())) ((XjI a0 a1),((),()))) (eS [(0,.val false [.lst T5q a0 none]),(1,.fn 136 [] [.ptr [.int .i64 a1.1,.lst T5q a1.2.1 none,.lst .str a1.2.2 none]]),(7,.val false [.int .i64 (ln a0)])] [(0,.val false [.lst T5q a0 none]),(1,.fn 136 [] [.ptr [.int .i64 a1.1,.lst T5q a1.2.1 none,.lst .str a1.2.2 none]]),(7,.val false [.int .i64 (ln a0)])]/\(ilI a0 a1 (wI (y1+(1:Int))))/\(ilM a0 a1 (wI (y1+(1:Int))))<(ilM a0 a1 y1)))))) (Eq ((-1),((),())) ((XjI a0 a1),((),()))))))
def X0a.L(a0:(List U3q))(a1:X5E):Nat->Option X0e:=XLK [(26,⟨⟨[0,1,7],[8],[],[]⟩,(.int .i64),λst y=>ilI a0 a1 y,λst y=>ilM a0 a1 y⟩)]
theorem X0a.p(a0:(List U3q))(a1:X5E)(h:(XnB a0 a1)):X0a.F a0 a1:=by
 delta X0a.F ln tN wI eS
 simp only[Bs,B0,B1,Yaa,X01,YaA,fLow,Xxf]
 obtain⟨hl,hne⟩:=h
 refine⟨⟨by omega,by omega,λj hj=>absurd hj (by simp)⟩,?_⟩
 rintro i hI
 have q1:=hI.1
 have q2:=hI.2.1
 rw[w64 (x:=i+1) (by omega) (by omega)]
 refine⟨λhi=>⟨q1,hi,hne _ (X1a (by omega)),λhd=>XwQ hI hi hd,λhd=>⟨⟨by omega,by omega,λj hj=>?_⟩,by unfold ilM;omega⟩⟩,λhi=>il_no hI hi⟩
 by_cases e:j=i.toNat
 . rw[e];exact hd
 . exact hI.2.2 j (by omega)
def X0a.e:GE:=mE X11 func174 [3] [X0Z.e] [] (λi x=>X0a.L x.1 x.2) (λi x=>X0a.F x.1 x.2) λi x h _ _=>X0a.p x.1 x.2 h
def X0Q:Con:=cQ (.pair X5m T8q) [.one,.clo 136 [3]] .bool [(false,1)] (λa=>(XnB a.1 a.2)) λa=>(Xlk a.1 a.2)
def X0d.F(a0:(List U3q))(a1:X5E):Prop:=((XnB a0 (a1.1,(a1.2.1,a1.2.2)))/\∀r1,(Eq r1 ((XjI a0 (a1.1,(a1.2.1,a1.2.2))),((),())))->(Eq ((decide (r1.1>=(0:Int))),((),())) ((Xlk a0 a1),((),()))))
theorem X0d.p(a0:(List U3q))(a1:X5E)(h:(XnB a0 a1)):X0d.F a0 a1:=by
 unfold X0d.F
 simp only[Bs,B0,B1,Yaa,X01,YaA]
 exact⟨h,Xvi _ _⟩
def X0d.e:GE:=mE X0Q func135 [4] [X0Z.e,X0a.e] [] noL (λi x=>X0d.F x.1 x.2) λi x h _ _=>X0d.p x.1 x.2 h
def XaL(fs:List U6q):List (List Ser):=fs.map λf=>(X0l f).1
def okF(fs:List U6q):Bool:=fs.all λf=>(X0l f).2
theorem Xt8(f:List UInt8)(h:(X0l f).2=true):X0M (X0l f).1=true:=by
 unfold X0l at h ⊢
 split at h
 . rename_i hr;rw[Yah hr];exact hr.1.1
 . cases h
theorem Xj6(f:List UInt8):Xd0 (X0l f).1/\tot (X0l f).1<=305/\∀x∈(X0l f).1,x.1.length<=8:=by
 by_cases h:(X0l f).2=true
 . obtain⟨h1,h2,h3,h4⟩:=X39 (Xt8 f h)
   exact⟨h1,h2,λx hx=>(h4 x hx).1⟩
 . have:(X0l f).1=[]:=by
    unfold X0l at h ⊢
    split
    . rename_i hr;rw[Yah hr]at h;exact absurd rfl h
    . rfl
   rw[this]
   exact⟨Xgk,by simp[tot,cL],λx hx=>by cases hx⟩
def X0k(e:Eng):List Ser×Bool:=if okF e.2.2=true then(X0X (X4D (X4w (XaL e.2.2)) e.2.1) e.1,true) else([],false)
def Xgr(e:Eng):Prop:=(∀f∈e.2.2,Xnu f)/\Xd0 e.2.1/\tot e.2.1<=100000/\e.2.2.length<=1000
structure plI (e:Eng) (i:Int) (fl:Int) (ca:List Ser) (fi:List U6q) (out:List Ser):Prop where
 h0:((fl,(ca,fi)):Eng)=e
 h1:0<=i
 h2:i<=e.2.2.length
 h3:out=X4w (XaL (e.2.2.take i.toNat))
 h4:Xd0 out
 h5:tot out<=305*i
 h6:okF (e.2.2.take i.toNat)=true
def plM(e:Eng)(i:Int)(fl:Int)(ca:List Ser)(fi:List U6q)(out:List Ser):Nat:=(e.2.2.length - i).toNat
theorem XvT{e:Eng}{i fl:Int}{ca:List Ser}{fi:List U6q}{out:List Ser}(h:plI e i fl ca fi out)(hi:i<e.2.2.length)(hr:(X0l (e.2.2.getD i.toNat [])).2=true):plI e (i+1) fl ca fi (X4D out (X0l (e.2.2.getD i.toNat [])).1):=by
 obtain⟨h0,h1,h2,h3,h4,h5,h6⟩:=h
 obtain⟨r1,r2,_⟩:=Xj6 (e.2.2.getD i.toNat [])
 have ht:=Xd1 h4 r1.2
 refine⟨h0,by omega,by omega,?_,X7l h4 r1.2,by omega,?_⟩
 . rw[tn1 h1,X0J [] (by omega),h3]
   simp only[XaL,X4w,Ya8,YbG,Yaq,YaG,Ybp,YcG]
 . rw[tn1 h1,X0J [] (by omega)]
   simp only[okF,List.all_append,List.all_cons,List.all_nil,Ybt,Yac]at h6 ⊢
   exact⟨h6,hr⟩
theorem pl_no{e:Eng}{i:Nat}(hi:i<e.2.2.length)(hr:(X0l (e.2.2.getD i [])).2=false):([],false)=X0k e:=by
 unfold X0k
 rw[Yae]
 intro h
 have:=Ya6.1 h _ (X1a (d:=[]) hi)
 rw[hr]at this;cases this
theorem XwV{e:Eng}{i fl:Int}{ca:List Ser}{fi:List U6q}{out:List Ser}(h:plI e i fl ca fi out)(hi:¬i<e.2.2.length):(X0X (X4D out e.2.1) e.1,true)=X0k e:=by
 obtain⟨h0,h1,h2,h3,h4,h5,h6⟩:=h
 have e1:i.toNat=e.2.2.length:=by omega
 rw[e1,Yat]at h3 h6
 unfold X0k
 rw[Yah h6,h3]
def XbP:Con:=cW T8q [.agg 3] (.pair X5m .bool) [(false,1),(false,1)] [(0,109)] (λa=>(Xgr a)) λa=>(X0k a)
def X4I.F(a0:X5E):Prop:=(eS [(1,.box 2 0),(11,.val false [.lst .str a0.2.2 none]),(12,.val false [.int .i64 (ln a0.2.2)])] [(1,.box 2 0),(11,.val false [.lst .str a0.2.2 none]),(12,.val false [.int .i64 (ln a0.2.2)])]/\((plI a0 0 a0.1 a0.2.1 a0.2.2 ([]:List U3q))/\∀(y1:(Int×(Int×((List U3q)×((List U6q)×(List U3q)))))),(plI a0 y1.1 y1.2.1 y1.2.2.1 y1.2.2.2.1 y1.2.2.2.2)->(X00 (decide (y1.1<(ln a0.2.2))) (0<=y1.1/\(y1.1<(ln a0.2.2)/\((Xnu (List.getD a0.2.2 (tN y1.1) []))/\∀r2,(Eq r2 ((X0l (List.getD a0.2.2 (tN y1.1) [])),((),())))->(X00 (!r2.1.2) (Eq ((([]:(List U3q)),false),((),())) ((X0k a0),((),()))) ((XpP y1.2.2.2.2 r2.1.1)/\∀r3,(Eq r3 ((X4D y1.2.2.2.2 r2.1.1),((),())))->(eS [(1,.box 2 0),(11,.val false [.lst .str a0.2.2 none]),(12,.val false [.int .i64 (ln a0.2.2)])] [(1,.box 2 0),(11,.val false [.lst .str a0.2.2 none]),(12,.val false [.int .i64 (ln a0.2.2)])]/\(plI a0 (wI (y1.1+(1:Int))) y1.2.1 y1.2.2.1 y1.2.2.2.1 r3.1)/\(plM a0 (wI (y1.1+(1:Int))) y1.2.1 y1.2.2.1 y1.2.2.2.1 r3.1)<(plM a0 y1.1 y1.2.1 y1.2.2.1 y1.2.2.2.1 y1.2.2.2.2))))))) ((XpP y1.2.2.2.2 y1.2.2.1)/\∀r4,(Eq r4 ((X4D y1.2.2.2.2 y1.2.2.1),((),())))->((XiO r4.1 y1.2.1)/\∀r5,(Eq r5 ((X0X r4.1 y1.2.1),((),())))->(Eq ((r5.1,true),((),())) ((X0k a0),((),()))))))))
def X4I.L(a0:X5E):Nat->Option X0e:=XLK [(58,⟨⟨[1,11,12],[4,13],[2],[kC 4 0 1000515 109]⟩,(.pair (.int .i64) (.pair (.int .i64) (.pair X5m (.pair Xf4 X5m)))),λst y=>plI a0 y.1 y.2.1 y.2.2.1 y.2.2.2.1 y.2.2.2.2,λst y=>plM a0 y.1 y.2.1 y.2.2.1 y.2.2.2.1 y.2.2.2.2⟩)]
theorem X4I.p(a0:X5E)(h:(Xgr a0)):X4I.F a0:=by
 delta X4I.F ln tN wI eS
 simp only[Bs,B0,B1,Yaa,X01,YaA,XiO]
 obtain⟨hf,hc,hn,hl⟩:=h
 refine⟨⟨rfl,by omega,by omega,by simp[X4w,XaL],Xgk,by simp[tot,cL],by simp[okF]⟩,?_⟩
 rintro⟨i,fl,ca,fi,out⟩ hI
 simp only at hI ⊢
 have q1:=hI.h1
 have q2:=hI.h2
 have q5:=hI.h5
 refine⟨λhi=>?_,λhi=>?_⟩
 . have hm:=X1a (d:=([]:List UInt8)) (by omega:i.toNat<a0.2.2.length)
   obtain⟨r1,r2,_⟩:=Xj6 (a0.2.2.getD i.toNat [])
   rw[w64 (x:=i+1) (by omega) (by omega)]
   exact⟨q1,hi,hf _ hm,λhr=>pl_no (by omega) hr,λhr=>⟨⟨hI.h4,r1.2,by omega⟩,XvT hI hi hr,by unfold plM;omega⟩⟩
 . have he:=XwV hI hi
   have ht:=Xd1 hI.h4 hc.2
   obtain rfl:=hI.h0
   simp only at hn he ht hc hl hi q2 ⊢
   exact⟨⟨hI.h4,hc.2,by omega⟩,by omega,he⟩
def X4I.e:GE:=mE XbP func137 [25,4] [X3Z.e,X2G.e,X5e.e] [] (λi x=>X4I.L x) (λi x=>X4I.F x) λi x h _ _=>X4I.p x h
def XcZ(e:Eng):Bool:=Xau e.1&&(X0M e.2.1&&(decide (Xf0 e.2.1<=40)&&(decide (e.2.2.length<=4)&&!Xlk e.2.1 e)))
def X3R(e:Eng):List Ser×Bool:=if XcZ e=true then(if (X0k e).2=true then((X0k e).1,X0M (X0k e).1) else((X0k e).1,false)) else([],false)
def X3t(e:Eng):Bool:=(X3R e).2
def Xg8(e:Eng):Prop:=X3s e.2.1/\∀f∈e.2.2,Xnu f
theorem Xu3{l:List Ser}{s:Ser}{n:Nat}(h:∀x∈l,x.1.length<=n)(hs:s.1.length<=n):∀x∈Xj2 l s,x.1.length<=n:=λx hx=>by
 rcases XlC hx with hx | rfl | ⟨y,hy,rfl⟩
 . exact h x hx
 . exact hs
 . exact h y hy
theorem Xd5{n:Nat}:∀{t l:List Ser},(∀x∈l,x.1.length<=n)->(∀x∈t,x.1.length<=n)->∀x∈X4D l t,x.1.length<=n
 | [],_,h,_=>h
 | s::t,l,h,ht=>Xd5 (t:=t) (Xu3 h (ht s (by simp))) λx hx=>ht x (by simp[hx])
theorem Xkv{n:Nat}:∀(ls:List (List Ser)) (l:List Ser),(∀x∈l,x.1.length<=n)->(∀t∈ls,∀x∈t,x.1.length<=n)->∀x∈ls.foldl X4D l,x.1.length<=n
 | [],_,h,_=>h
 | t::ls,l,h,ht=>Xkv ls (X4D l t) (Xd5 h (ht t (by simp))) λx hx=>ht x (by simp[hx])
theorem XpR{n:Nat}{l:List Ser}(h:∀x∈l,x.1.length<=n)(f:Int):∀x∈X0X l f,x.1.length<=n:=λx hx=>by
 obtain⟨y,hy,rfl⟩:=XkI hx
 exact h y hy
theorem XmA{e:Eng}(h:∀x∈e.2.1,x.1.length<=8):∀x∈(X0k e).1,x.1.length<=8:=by
 unfold X0k
 split
 . refine XpR (Xd5 (Xkv _ _ (λx hx=>by cases hx) λt ht x hx=>?_) h) _
   obtain⟨f,_,rfl⟩:=YaM.1 ht
   exact(Xj6 f).2.2 x hx
 . intro x hx;cases hx
theorem XkS{l:List Ser}(h:∀x∈l,x.1.length<=8):X3s l:=λx hx=>Ya5 (h x hx) (by decide)
def X6W:Con:=cW T8q [.agg 3] (.pair X5m .bool) [(false,1),(false,1)] [(0,109)] (λa=>(Xg8 a)) λa=>(X3R a)
def X1O.F(a0:X5E):Prop:=(True/\∀r1,(Eq r1 ((fIn a0.1 0 1099511627776),((),())))->(X00 (!r1.1) (Eq ((([]:(List U3q)),false),((),())) ((X3R a0),((),()))) ((X3s a0.2.1)/\∀r2,(Eq r2 ((X0M a0.2.1),((),())))->(X00 (!r2.1) (Eq ((([]:(List U3q)),false),((),())) ((X3R a0),((),()))) ((Xoq a0.2.1)/\∀r3,(Eq r3 ((Xf0 a0.2.1),((),())))->(X00 (decide (r3.1>(40:Int))) (Eq ((([]:(List U3q)),false),((),())) ((X3R a0),((),()))) (X00 (decide ((ln a0.2.2)>(4:Int))) (Eq ((([]:(List U3q)),false),((),())) ((X3R a0),((),()))) ((XnB a0.2.1 (a0.1,(a0.2.1,a0.2.2)))/\∀r4,(Eq r4 ((Xlk a0.2.1 (a0.1,(a0.2.1,a0.2.2))),((),())))->(X00 r4.1 (Eq ((([]:(List U3q)),false),((),())) ((X3R a0),((),()))) ((Xgr (a0.1,(a0.2.1,a0.2.2)))/\∀r5,(Eq r5 ((X0k (a0.1,(a0.2.1,a0.2.2))),((),())))->(X00 r5.1.2 ((X3s r5.1.1)/\∀r6,(Eq r6 ((X0M r5.1.1),((),())))->(Eq ((r5.1.1,r6.1),((),())) ((X3R a0),((),())))) (Eq ((r5.1.1,false),((),())) ((X3R a0),((),()))))))))))))))
theorem X1O.p(a0:X5E)(h:(Xg8 a0)):X1O.F a0:=by
 delta X1O.F ln
 simp only[Bs,B0,B1,Yaa,X01,YaA]
 obtain⟨hk,hf⟩:=h
 have no:XcZ a0=false->(([]:List Ser),false)=X3R a0:=λh=>by unfold X3R;rw[Yae (by rw[h];decide)]
 refine⟨λh1=>no (by unfold XcZ Xau;rw[h1];rfl),λh1=>⟨hk,λh2=>no (by unfold XcZ;rw[h2];simp),λh2=>?_⟩⟩
 obtain⟨s1,s2,s3,s4⟩:=X39 h2
 have hne:XnB a0.2.1 a0:=⟨by omega,λx hx=>(s4 x hx).2.1⟩
 refine⟨by unfold Xoq;omega,λh3=>no ?_,λh3=>⟨λh4=>no ?_,λh4=>⟨hne,λh5=>no ?_,λh5=>?_⟩⟩⟩
 . have:decide (Xf0 a0.2.1<=40)=false:=Yaw (by omega)
   unfold XcZ;rw[this];simp
 . have:decide (a0.2.2.length<=4)=false:=Yaw (by omega)
   unfold XcZ;rw[this];simp
 . unfold XcZ;rw[h5];simp
 have hh:XcZ a0=true:=by
  unfold XcZ Xau
  rw[h1,h2,h5,Yaz (by omega:Xf0 a0.2.1<=40),Yaz (by omega:a0.2.2.length<=4)];rfl
 refine⟨⟨hf,s1,by omega,by omega⟩,λh6=>⟨XkS (XmA λx hx=>(s4 x hx).1),?_⟩,λh6=>?_⟩
 . unfold X3R;rw[Yah hh,Yah h6]
 . unfold X3R;rw[Yah hh,Yae (by rw[h6];decide)]
def X1O.e:GE:=mE X6W func91 [25,4] [X0V.e,X28.e,X3N.e,X0d.e,X0Z.e,X4I.e] [] noL (λi x=>X1O.F x) λi x h _ _=>X1O.p x h
def X8I:Con:=cQ T8q [.agg 3] .bool [(false,1)] (λa=>(Xg8 a)) λa=>(X3t a)
def X2H.F(a0:X5E):Prop:=((Xg8 (a0.1,(a0.2.1,a0.2.2)))/\∀r1,(Eq r1 ((X3R (a0.1,(a0.2.1,a0.2.2))),((),())))->(Eq (r1.1.2,((),())) ((X3t a0),((),()))))
theorem X2H.p(a0:X5E)(h:(Xg8 a0))(hw:Wf X8I.A a0):X2H.F a0:=by
 unfold X2H.F
 simp only[Bs,B0,B1,Yaa,X01,X3t]
 repeat' (with_reducible (first | (refine And.intro ?_ ?_) | intro _))
 all_goals (try simp (disch:=omega) only[w64,wu8,tn0,tn1,tm1,tm2,Yab,Yad,Yai]at*)
 all_goals (try simp (disch:=omega) only[w64,wu8,tn0,tn1,tm1,tm2,Yab,Yad,Yai]at*)
 all_goals (try omega)
 all_goals (try grind[])
def X2H.e:GE:=mE X8I func51 [4] [X1O.e] [] noL (λi x=>X2H.F x) λi x h _ hw=>X2H.p x h hw
def fAt(l:List Ser)(k:List UInt8):Int:=if l.findIdx (λx=>decide (x.1=k))<l.length then((l.findIdx (λx=>decide (x.1=k)):Nat):Int) else -1
def atI(l:List Ser)(k:List UInt8)(i:Int):Prop:=0<=i/\i<=l.length/\∀j,j<i.toNat->¬(l.getD j ([],[])).1=k
def atM(l:List Ser)(k:List UInt8)(i:Int):Nat:=(l.length - i).toNat
theorem Xx8{l:List Ser}{k:List UInt8}{i:Int}(h:atI l k i)(hi:i<l.length)(hd:(l.getD i.toNat ([],[])).1=k):i=fAt l k:=by
 obtain⟨h1,h2,h3⟩:=h
 have e:l.findIdx (λx=>decide (x.1=k))=i.toNat:=by
  refine(Ycy (by omega)).2 ⟨by rw[X0O (by omega)]at hd;simpa using hd,λj hj=>?_⟩
  have:=h3 j hj
  rw[X0O (by omega)]at this;simpa using this
 unfold fAt
 rw[e,Yah (by omega)];omega
theorem at_no{l:List Ser}{k:List UInt8}{i:Int}(h:atI l k i)(hi:¬i<l.length):-1=fAt l k:=by
 obtain⟨h1,h2,h3⟩:=h
 have e:¬l.findIdx (λx=>decide (x.1=k))<l.length:=λhlt=>by
  have a:=Ybx (w:=hlt)
  have b:=h3 (l.findIdx (λx=>decide (x.1=k))) (by omega)
  rw[X0O hlt]at b
  exact b (by simpa using a)
 unfold fAt
 rw[Yae e]
theorem Xph{k:List UInt8}:∀(l:List Ser) (h:l.findIdx (λx=>decide (x.1=k))<l.length),(l[l.findIdx (λx=>decide (x.1=k))]).2=X4M l k
 | [],h=>by simp at h
 | x::l,h=>by
   rw[X3l]
   by_cases hx:x.1=k
   . simp[List.findIdx_cons,hx]
   . have e:(x::l).findIdx (λx=>decide (x.1=k))=l.findIdx (λx=>decide (x.1=k))+1:=by simp[List.findIdx_cons,hx]
     have h':l.findIdx (λx=>decide (x.1=k))<l.length:=by rw[e]at h;simpa using h
     simp only[e,Yae hx,List.getElem_cons_succ]
     exact Xph l h'
theorem Xxg(l:List Ser)(k:List UInt8):(fAt l k>=0->fAt l k<l.length/\(l.getD (fAt l k).toNat ([],[])).2=X4M l k)/\(¬fAt l k>=0->X4M l k=[]):=by
 unfold fAt
 by_cases h:l.findIdx (λx=>decide (x.1=k))<l.length
 . rw[Yah h]
   refine⟨λ_=>⟨by omega,?_⟩,λh2=>absurd (by omega) h2⟩
   rw[YaE,X0O h]
   exact Xph l h
 . rw[Yae h]
   refine⟨λh2=>absurd h2 (by decide),λ_=>XeS ?_⟩
   rw[Ybk];intro hh
   obtain⟨x,hx,e⟩:=X7J.1 hh
   exact h (YcW ⟨x,hx,by simpa using e⟩)
abbrev Str:=List UInt8
def nmP(key:Str):List Str->List Str
 | []=>[key]
 | x::l=>if Op.bytesLess key x=true then key::x::l else x::nmP key l
def XcN(l:List Str)(key:Str):List Str:=if key∈l then l else nmP key l
def XtQ(l:List Str)(key:Str):Prop:=l.length<=100000000
def XgK(key:Str)(put:Bool)(l:List Str):List Str:=if put then l else nmP key l
structure nmI (l:List Str) (key:Str) (put:Bool) (i:Int) (out:List Str):Prop where
 h1:0<=i
 h2:i<=l.length
 h3:out++XgK key put (l.drop i.toNat)=nmP key l
 h4:(out.length:Int)<=i+1
 h5:put=false->(out.length:Int)<=i
 h6:∀j,j<i.toNat->¬l.getD j []=key
def nmM(l:List Str)(key:Str)(put:Bool)(i:Int)(out:List Str):Nat:=(l.length - i).toNat
def nmB(l:List Str)(key:Str)(put:Bool)(i:Int)(out r:List Str):Prop:=r=l/\nmI l key put i out
def nmN(l:List Str)(key:Str)(put:Bool)(i:Int)(out r:List Str):Nat:=nmM l key put i out
theorem XvA{l:List Str}{key:Str}{put put':Bool}{i:Int}{out o':List Str}(h:nmI l key put i out)(hi:i<l.length)(hne:¬l.getD i.toNat []=key)(hl:(o'.length:Int)<=i+2/\(put'=false->(o'.length:Int)<=i+1))(he:∀r,o'++XgK key put' r=out++XgK key put (l.getD i.toNat []::r)):nmI l key put' (i+1) o':=by
 obtain⟨h1,h2,h3,h4,h5,h6⟩:=h
 refine⟨by omega,by omega,?_,by omega,hl.2,λj hj=>?_⟩
 . rw[tn1 h1,he,<-X3U [] (by omega)];exact h3
 . by_cases e:j=i.toNat
   . rw[e];exact hne
   . exact h6 j (by omega)
theorem nm_in{l:List Str}{key:Str}{put:Bool}{i:Int}{out:List Str}(h:nmI l key put i out)(hi:i<l.length)(he:l.getD i.toNat []=key):l=XcN l key:=by
 have h1:=h.h1
 unfold XcN
 rw[Yah]
 rw[<-he];exact X1a (by omega)
theorem XwE{l:List Str}{key:Str}{put:Bool}{i:Int}{out:List Str}(h:nmI l key put i out)(hi:¬i<l.length):(put=true->out=XcN l key)/\(put=false->out++[key]=XcN l key):=by
 obtain⟨h1,h2,h3,h4,h5,h6⟩:=h
 have e:i.toNat=l.length:=by omega
 rw[e]at h6
 rw[e,YbO]at h3
 have hn:¬key∈l:=λhm=>by
  obtain⟨j,hj,e2⟩:=YaQ hm
  exact h6 j hj (by rw[X0O hj];exact e2)
 unfold XcN
 rw[Yae hn]
 refine⟨λhp=>?_,λhp=>?_⟩
 . rw[hp]at h3;simpa [XgK] using h3
 . rw[hp]at h3;simpa [XgK,nmP] using h3
theorem rn_no{k x:Str}{r:List Str}(h:Op.bytesLess k x=false):XgK k false (x::r)=x::XgK k false r:=by simp[XgK,nmP,h]
theorem Xxr{k x:Str}{r:List Str}(h:Op.bytesLess k x=true):XgK k false (x::r)=k::XgK k true (x::r):=by simp[XgK,nmP,h]
theorem rn_t{k:Str}{r:List Str}:XgK k true r=r:=rfl
def XbQ:Con:=cQ (.pair X5m .str) [.one,.one] (.int .i64) [(false,1)] (λ_=>True) λa=>(fAt a.1 a.2)
def X4Y.F(a0:(List U3q))(a1:U6q):Prop:=(eS [(0,.val false [.lst T5q a0 none]),(1,.val false [.str a1])] [(0,.val false [.lst T5q a0 none]),(1,.val false [.str a1])]/\((atI a0 a1 0)/\∀(y1:Int),(atI a0 a1 y1)->(X00 (decide (y1<(ln a0))) (0<=y1/\(y1<(ln a0)/\(X00 (((List.getD a0 (tN y1) ([],[])).1)==a1) (Eq (y1,((),())) ((fAt a0 a1),((),()))) (eS [(0,.val false [.lst T5q a0 none]),(1,.val false [.str a1])] [(0,.val false [.lst T5q a0 none]),(1,.val false [.str a1])]/\(atI a0 a1 (wI (y1+(1:Int))))/\(atM a0 a1 (wI (y1+(1:Int))))<(atM a0 a1 y1))))) (Eq ((-1),((),())) ((fAt a0 a1),((),()))))))
def X4Y.L(a0:(List U3q))(a1:U6q):Nat->Option X0e:=XLK [(26,⟨⟨[0,1],[5],[],[]⟩,(.int .i64),λst y=>atI a0 a1 y,λst y=>atM a0 a1 y⟩)]
theorem X4Y.p(a0:(List U3q))(a1:U6q)(h:True)(hw:Wf XbQ.A (a0,a1)):X4Y.F a0 a1:=by
 delta X4Y.F ln tN wI eS
 simp only[Bs,B0,B1,Yaa,X01]
 have hl:a0.length<=9223372036854775807:=hw.1.1
 refine⟨⟨by omega,by omega,λj hj=>absurd hj (by simp)⟩,?_⟩
 rintro i hI
 have q1:=hI.1
 have q2:=hI.2.1
 refine⟨λhi=>⟨q1,hi,λhd=>Xx8 hI hi hd,λhd=>?_⟩,λhi=>at_no hI hi⟩
 rw[w64 (x:=i+1) (by omega) (by omega)]
 refine⟨⟨by omega,by omega,λj hj=>?_⟩,by unfold atM;omega⟩
 by_cases e:j=i.toNat
 . rw[e];exact hd
 . exact hI.2.2 j (by omega)
def X4Y.e:GE:=mE XbQ func121 [3] [] [] (λi x=>X4Y.L x.1 x.2) (λi x=>X4Y.F x.1 x.2) λi x h _ hw=>X4Y.p x.1 x.2 h hw
def Xa5:Con:={A:=(.pair Xf4 .str),shA:=[.one,.one],ownA:=[(0,9)],R:=Xf4,shR:=[(false,1)],fresh:=[(0,9)],pre:=λ_ a=>(XtQ a.1 a.2),f:=some λ_ a=>((XcN a.1 a.2),((),()))}
def X3i.F(a0:(List U6q))(a1:U6q):Prop:=(eS [(0,.val false [.own .str 1000003]),(1,.val false [.str a1])] [(0,.val false [.own .str 1000003]),(1,.val false [.str a1])]/\((nmB a0 a1 false 0 ([]:List U6q) a0)/\∀(y1:(Bool×(Int×((List U6q)×(List U6q))))),(nmB a0 a1 y1.1 y1.2.1 y1.2.2.1 y1.2.2.2)->(X00 (decide (y1.2.1<(ln y1.2.2.2))) (0<=y1.2.1/\(y1.2.1<(ln y1.2.2.2)/\(X00 ((List.getD y1.2.2.2 (tN y1.2.1) [])==a1) (Eq (y1.2.2.2,((),())) ((XcN a0 a1),((),()))) (X00 (!y1.1) (0<=y1.2.1/\(y1.2.1<(ln y1.2.2.2)/\(X00 (Op.bytesLess a1 (List.getD y1.2.2.2 (tN y1.2.1) [])) (List.length y1.2.2.1+List.length [a1]<=9223372036854775807/\((List.length y1.2.2.1+List.length [a1])*16<=140737488355328/\(0<=y1.2.1/\(y1.2.1<(ln y1.2.2.2)/\(List.length (y1.2.2.1++[a1])+List.length ([(List.getD y1.2.2.2 (tN y1.2.1) [])]:List U6q)<=9223372036854775807/\((List.length (y1.2.2.1++[a1])+List.length ([(List.getD y1.2.2.2 (tN y1.2.1) [])]:List U6q))*16<=140737488355328/\(eS [(0,.val false [.own .str 1000003]),(1,.val false [.str a1])] [(0,.val false [.own .str 1000003]),(1,.val false [.str a1])]/\(nmB a0 a1 true (wI (y1.2.1+(1:Int))) ((y1.2.2.1++[a1])++[(List.getD y1.2.2.2 (tN y1.2.1) [])]) y1.2.2.2)/\(nmN a0 a1 true (wI (y1.2.1+(1:Int))) ((y1.2.2.1++[a1])++[(List.getD y1.2.2.2 (tN y1.2.1) [])]) y1.2.2.2)<(nmN a0 a1 y1.1 y1.2.1 y1.2.2.1 y1.2.2.2)))))))) (0<=y1.2.1/\(y1.2.1<(ln y1.2.2.2)/\(List.length y1.2.2.1+List.length ([(List.getD y1.2.2.2 (tN y1.2.1) [])]:List U6q)<=9223372036854775807/\((List.length y1.2.2.1+List.length ([(List.getD y1.2.2.2 (tN y1.2.1) [])]:List U6q))*16<=140737488355328/\(eS [(0,.val false [.own .str 1000003]),(1,.val false [.str a1])] [(0,.val false [.own .str 1000003]),(1,.val false [.str a1])]/\(nmB a0 a1 y1.1 (wI (y1.2.1+(1:Int))) (y1.2.2.1++[(List.getD y1.2.2.2 (tN y1.2.1) [])]) y1.2.2.2)/\(nmN a0 a1 y1.1 (wI (y1.2.1+(1:Int))) (y1.2.2.1++[(List.getD y1.2.2.2 (tN y1.2.1) [])]) y1.2.2.2)<(nmN a0 a1 y1.1 y1.2.1 y1.2.2.1 y1.2.2.2))))))))) (0<=y1.2.1/\(y1.2.1<(ln y1.2.2.2)/\(List.length y1.2.2.1+List.length ([(List.getD y1.2.2.2 (tN y1.2.1) [])]:List U6q)<=9223372036854775807/\((List.length y1.2.2.1+List.length ([(List.getD y1.2.2.2 (tN y1.2.1) [])]:List U6q))*16<=140737488355328/\(eS [(0,.val false [.own .str 1000003]),(1,.val false [.str a1])] [(0,.val false [.own .str 1000003]),(1,.val false [.str a1])]/\(nmB a0 a1 y1.1 (wI (y1.2.1+(1:Int))) (y1.2.2.1++[(List.getD y1.2.2.2 (tN y1.2.1) [])]) y1.2.2.2)/\(nmN a0 a1 y1.1 (wI (y1.2.1+(1:Int))) (y1.2.2.1++[(List.getD y1.2.2.2 (tN y1.2.1) [])]) y1.2.2.2)<(nmN a0 a1 y1.1 y1.2.1 y1.2.2.1 y1.2.2.2)))))))))) (X00 (!y1.1) (List.length y1.2.2.1+List.length [a1]<=9223372036854775807/\((List.length y1.2.2.1+List.length [a1])*16<=140737488355328/\(Eq ((y1.2.2.1++[a1]),((),())) ((XcN a0 a1),((),()))))) (Eq (y1.2.2.1,((),())) ((XcN a0 a1),((),())))))))
def X3i.L(a0:(List U6q))(a1:U6q):Nat->Option X0e:=XLK [(122,⟨⟨[0,1],[5,6,7],[],[kC 5 0 1000643 9,kC 0 0 1000003 9]⟩,(.pair .bool (.pair (.int .i64) (.pair Xf4 Xf4))),λst y=>nmB a0 a1 y.1 y.2.1 y.2.2.1 y.2.2.2,λst y=>nmN a0 a1 y.1 y.2.1 y.2.2.1 y.2.2.2⟩)]
theorem X3i.p(a0:(List U6q))(a1:U6q)(h:(XtQ a0 a1)):X3i.F a0 a1:=by
 delta X3i.F ln tN wI eS
 simp only[Bs,B0,B1,Yaa,X01]
 have hl:a0.length<=100000000:=h
 refine⟨⟨rfl,⟨by omega,by omega,by simp[XgK],by simp,by simp,λj hj=>absurd hj (by simp)⟩⟩,?_⟩
 rintro⟨put,i,out,r⟩ ⟨hr,hI⟩
 simp only at hr hI ⊢
 subst hr
 have q1:=hI.h1
 have q2:=hI.h2
 have q4:=hI.h4
 have q5:=hI.h5
 have hen:=XwE hI
 refine⟨λhi=>⟨q1,hi,λhe=>nm_in hI hi he,λhe=>?_⟩,λhi=>?_⟩
 . have st:∀{put' o'},_->_->nmB r a1 put' (i+1) o' r:=λh2 h3=>⟨rfl,XvA hI hi he h2 h3⟩
   have dn:∀o p,nmN r a1 p (i+1) o r<nmN r a1 put i out r:=λo p=>by unfold nmN nmM;omega
   generalize hx:r.getD i.toNat []=x at st ⊢
   rw[w64 (x:=i+1) (by omega) (by omega)]
   repeat' (with_reducible (first | (refine And.intro ?_ ?_) | intro _))
   all_goals (try simp (disch:=omega) only[w64,Yab,Yad,Yai]at*)
   all_goals (first
    | omega
    | exact dn _ _
    | (refine st (by(try simp only[Yab,Yad,Yai]);(try have:=q5 ‹_›);(first | omega | (refine ⟨by omega,λhh=>?_⟩;first | omega | (have:=q5 hh;omega) | (exfalso;simp_all;done)))) λr=>?_;(try rw[‹put=true›]);(try rw[‹put=false›]);(try simp only[Yam,Ybb,YaW,rn_t]);first | done | rw[Xxr ‹Op.bytesLess a1 x=true›,rn_t] | rw[rn_no ‹Op.bytesLess a1 x=false›] | rfl)
    | skip)
 . repeat' (with_reducible (first | (refine And.intro ?_ ?_) | intro _))
   all_goals (try simp (disch:=omega) only[w64,Yab,Yad,Yai]at*)
   all_goals (first | omega | exact(hen hi).1 ‹_› | exact(hen hi).2 ‹_› | skip)
def X3i.e:GE:=mE Xa5 func170 [26] [] [] (λi x=>X3i.L x.1 x.2) (λi x=>X3i.F x.1 x.2) λi x h _ _=>X3i.p x.1 x.2 h
def XaP(o:List Str)(l:List Ser):List Str:=l.foldl (λo x=>XcN o x.1) o
def X8E(ls:List (List Ser)):List Str:=ls.foldl XaP []
def XtG(ls:List (List Ser)):Prop:=cL tot ls<=10000000
theorem Xl7(ls:List (List Ser)):0<=cL tot ls:=X46 Xei ls
theorem Xpg{ls:List (List Ser)}:∀{i:Nat},i<ls.length->tot (ls.getD i [])+cL tot (ls.take i)<=cL tot ls:=λ{i} hi=>by
 have a:=(X5i tot [] hi).2
 have b:=Xl7 (ls.drop (i+1))
 omega
theorem Xkr(k:Str):∀l,(nmP k l).length=l.length+1
 | []=>rfl
 | x::l=>by rw[nmP];split<;>simp[Xkr k l]
theorem Xht(l:List Str)(k:Str):(XcN l k).length<=l.length+1:=by
 unfold XcN;split
 . omega
 . rw[Xkr];omega
theorem Xgh:∀(l:List Ser) (o:List Str),(XaP o l).length<=o.length+l.length
 | [],o=>by simp[XaP]
 | x::l,o=>by
   have h1:=Xgh l (XcN o x.1)
   have h2:=Xht o x.1
   show(XaP (XcN o x.1) l).length<=_
   rw[Yad];omega
structure kyI (ls:List (List Ser)) (i:Int) (out:List Str):Prop where
 h1:0<=i
 h2:i<=ls.length
 h3:out=X8E (ls.take i.toNat)
 h4:(out.length:Int)<=cL tot (ls.take i.toNat)
def kyM(ls:List (List Ser))(i:Int)(out:List Str):Nat:=(ls.length - i).toNat
structure kzI (ls:List (List Ser)) (i k:Int) (out:List Str):Prop where
 h1:0<=i
 h2:i<ls.length
 h3:0<=k
 h4:k<=(ls.getD i.toNat []).length
 h5:out=XaP (X8E (ls.take i.toNat)) ((ls.getD i.toNat []).take k.toNat)
 h6:(out.length:Int)<=cL tot (ls.take i.toNat)+k
def kzM(ls:List (List Ser))(i k:Int)(out:List Str):Nat:=((ls.getD i.toNat []).length - k).toNat
theorem Xv8{ls:List (List Ser)}{i:Int}{out:List Str}(h:kyI ls i out)(hi:i<ls.length):kzI ls i 0 out:=by
 obtain⟨h1,h2,h3,h4⟩:=h
 exact⟨h1,hi,by omega,by omega,by simpa [XaP] using h3,by omega⟩
theorem XvR{ls:List (List Ser)}{k i:Int}{out:List Str}(h:kzI ls i k out)(hk:k<(ls.getD i.toNat []).length):kzI ls i (k+1) (XcN out ((ls.getD i.toNat []).getD k.toNat ([],[])).1):=by
 obtain⟨h1,h2,h3,h4,h5,h6⟩:=h
 have:=Xht out ((ls.getD i.toNat []).getD k.toNat ([],[])).1
 refine⟨h1,h2,by omega,by omega,?_,by omega⟩
 rw[tn1 h3,X0J ([],[]) (by omega),h5]
 simp only[XaP,YbG,Ybp,YcG]
theorem Xxq{ls:List (List Ser)}{k i:Int}{out:List Str}(h:kzI ls i k out)(hk:¬k<(ls.getD i.toNat []).length):kyI ls (i+1) out:=by
 obtain⟨h1,h2,h3,h4,h5,h6⟩:=h
 have e:k.toNat=(ls.getD i.toNat []).length:=by omega
 have a:=(X5i tot [] (by omega:i.toNat<ls.length)).1
 have b:=XaG (ls.getD i.toNat [])
 rw[e,Yat]at h5
 refine⟨by omega,by omega,?_,by rw[tn1 h1,a];omega⟩
 rw[tn1 h1,X0J [] (by omega),h5]
 simp only[X8E,YbG,Ybp,YcG]
theorem XxK{ls:List (List Ser)}{i:Int}{out:List Str}(h:kyI ls i out)(hi:¬i<ls.length):out=X8E ls:=by
 obtain⟨h1,h2,h3,h4⟩:=h
 rw[h3,show i.toNat=ls.length by omega,Yat]
def Xa9:Con:=cW (.list X5m) [.one] Xf4 [(false,1)] [(0,9)] (λa=>(XtG a)) λa=>(X8E a)
def X3j.F(a0:(List (List U3q))):Prop:=(eS [(0,.val false [.lst X5m a0 none])] [(0,.val false [.lst X5m a0 none])]/\((kyI a0 0 ([]:List U6q))/\∀(y1:(Int×(List U6q))),(kyI a0 y1.1 y1.2)->(X00 (decide (y1.1<(ln a0))) (eS [(0,.val false [.lst X5m a0 none]),(4,.val false [.int .i64 y1.1])] [(0,.val false [.lst X5m a0 none]),(4,.val false [.int .i64 y1.1])]/\((kzI a0 y1.1 0 y1.2)/\∀(y2:(Int×(List U6q))),(kzI a0 y1.1 y2.1 y2.2)->(0<=y1.1/\(y1.1<(ln a0)/\(X00 (decide (y2.1<(ln (List.getD a0 (tN y1.1) [])))) (0<=y1.1/\(y1.1<(ln a0)/\(0<=y2.1/\(y2.1<(ln (List.getD a0 (tN y1.1) []))/\((XtQ y2.2 ((List.getD (List.getD a0 (tN y1.1) []) (tN y2.1) ([],[])).1))/\∀r3,(Eq r3 ((XcN y2.2 ((List.getD (List.getD a0 (tN y1.1) []) (tN y2.1) ([],[])).1)),((),())))->(eS [(0,.val false [.lst X5m a0 none]),(4,.val false [.int .i64 y1.1])] [(0,.val false [.lst X5m a0 none]),(4,.val false [.int .i64 y1.1])]/\(kzI a0 y1.1 (wI (y2.1+(1:Int))) r3.1)/\(kzM a0 y1.1 (wI (y2.1+(1:Int))) r3.1)<(kzM a0 y1.1 y2.1 y2.2))))))) (eS [(0,.val false [.lst X5m a0 none])] [(0,.val false [.lst X5m a0 none])]/\(kyI a0 (wI (y1.1+(1:Int))) y2.2)/\(kyM a0 (wI (y1.1+(1:Int))) y2.2)<(kyM a0 y1.1 y1.2))))))) (Eq (y1.2,((),())) ((X8E a0),((),()))))))
def X3j.L(a0:(List (List U3q))):Nat->Option X0e:=XLK [(58,⟨⟨[0],[3,4],[],[kC 3 0 1000387 9]⟩,(.pair (.int .i64) Xf4),λst y=>kyI a0 y.1 y.2,λst y=>kyM a0 y.1 y.2⟩),(3730,⟨⟨[0,4],[3,5],[],[kC 3 0 1000387 9]⟩,(.pair (.int .i64) Xf4),λst y=>kzI a0 (XuG (Xho st 4 0)) y.1 y.2,λst y=>kzM a0 (XuG (Xho st 4 0)) y.1 y.2⟩)]
theorem X3j.p(a0:(List (List U3q)))(h:(XtG a0))(hw:Wf Xa9.A a0):X3j.F a0:=by
 delta X3j.F ln tN wI eS
 simp only[Bs,B0,B1,Yaa,X01,XtQ]
 have hn:cL tot a0<=10000000:=h
 have hl:a0.length<=9223372036854775807:=hw.1
 refine⟨⟨by omega,by omega,rfl,by simp[cL]⟩,?_⟩
 rintro⟨i,out⟩ hI
 simp only at hI ⊢
 have q1:=hI.h1
 have q2:=hI.h2
 refine⟨λhi=>⟨Xv8 hI hi,?_⟩,λhi=>XxK hI hi⟩
 rintro⟨k,o⟩ hK
 simp only at hK ⊢
 have z3:=hK.h3
 have z4:=hK.h4
 have z6:=hK.h6
 have hb:=Xpg (ls:=a0) (i:=i.toNat) (by omega)
 have hb2:=XaG (a0.getD i.toNat [])
 have hb3:=Xl7 (a0.take i.toNat)
 refine⟨q1,hi,λhk=>?_,λhk=>?_⟩
 . rw[w64 (x:=k+1) (by omega) (by omega)]
   exact⟨q1,hi,z3,hk,by omega,XvR hK hk,by unfold kzM;omega⟩
 . rw[w64 (x:=i+1) (by omega) (by omega)]
   exact⟨Xxq hK hk,by unfold kyM;omega⟩
def X3j.e:GE:=mE Xa9 func125 [26] [X3i.e] [] (λi x=>X3j.L x) (λi x=>X3j.F x) λi x h _ hw=>X3j.p x h hw
def Xw3(f:Str):Bool:=(X0l f).2
def XhX(e:Eng):List (List Ser)×Bool:=if okF e.2.2=true then(XaL e.2.2++[e.2.1],true) else(XaL (e.2.2.takeWhile Xw3),false)
def Xrm(e:Eng):Prop:=(∀f∈e.2.2,Xnu f)/\e.2.2.length<=1000
structure lyI (e:Eng) (out:List (List Ser)) (i:Int) (fl:Int) (ca:List Ser) (fi:List Str):Prop where
 h0:((fl,(ca,fi)):Eng)=e
 h1:0<=i
 h2:i<=e.2.2.length
 h3:out=XaL (e.2.2.take i.toNat)
 h4:∀j,j<i.toNat->Xw3 (e.2.2.getD j [])=true
def lyM(e:Eng)(out:List (List Ser))(i:Int)(fl:Int)(ca:List Ser)(fi:List Str):Nat:=(e.2.2.length - i).toNat
theorem Xio(l:List Str):(XaL l).length=l.length:=by simp[XaL]
theorem XsU{e:Eng}{i fl:Int}{ca:List Ser}{fi:List Str}{out:List (List Ser)}(h:lyI e out i fl ca fi)(hi:i<e.2.2.length)(hr:(X0l (e.2.2.getD i.toNat [])).2=true):lyI e (out++[(X0l (e.2.2.getD i.toNat [])).1]) (i+1) fl ca fi:=by
 obtain⟨h0,h1,h2,h3,h4⟩:=h
 refine⟨h0,by omega,by omega,?_,λj hj=>?_⟩
 . rw[tn1 h1,X0J [] (by omega),h3];simp[XaL]
 . by_cases ej:j=i.toNat
   . rw[ej];exact hr
   . exact h4 j (by omega)
theorem Xhg{p:Str->Bool}:∀{l:List Str} {i:Nat},i<l.length->(∀j,j<i->p (l.getD j [])=true)->p (l.getD i [])=false->l.takeWhile p=l.take i
 | [],i,h,_,_=>by simp at h
 | x::l,0,h,_,h2=>by
   have:p x=false:=by simpa using h2
   simp[YbE,this]
 | x::l,i+1,h,h1,h2=>by
   have h0:p x=true:=by simpa using h1 0 (by omega)
   rw[YbE,Yah h0,YbW,Xhg (l:=l) (i:=i) (by simpa using h) (λj hj=>by simpa using h1 (j+1) (by omega)) (by simpa using h2)]
theorem Xxb{e:Eng}{i fl:Int}{ca:List Ser}{fi:List Str}{out:List (List Ser)}(h:lyI e out i fl ca fi)(hi:i<e.2.2.length)(hr:(X0l (e.2.2.getD i.toNat [])).2=false):(out,false)=XhX e:=by
 obtain⟨h0,h1,h2,h3,h4⟩:=h
 have hm:=X1a (d:=([]:Str)) (by omega:i.toNat<e.2.2.length)
 unfold XhX
 rw[Yae (λhh=>by have:=Ya6.1 hh _ hm;rw[hr]at this;cases this),Xhg (p:=Xw3) (by omega) h4 hr,h3]
theorem XuK{e:Eng}{i fl:Int}{ca:List Ser}{fi:List Str}{out:List (List Ser)}(h:lyI e out i fl ca fi)(hi:¬i<e.2.2.length):(out++[e.2.1],true)=XhX e:=by
 obtain⟨h0,h1,h2,h3,h4⟩:=h
 have e1:i.toNat=e.2.2.length:=by omega
 rw[e1]at h4
 rw[e1,Yat]at h3
 unfold XhX
 rw[Yah,h3]
 refine Ya6.2 λf hf=>?_
 obtain⟨j,hj,e2⟩:=YaQ hf
 have:=h4 j hj
 rw[X0O hj,e2]at this;exact this
def X7L:Con:=cQ T8q [.agg 3] (.pair (.list X5m) .bool) [(false,1),(false,1)] (λa=>(Xrm a)) λa=>(XhX a)
def X0W.F(a0:X5E):Prop:=(eS [(1,.box 2 0)] [(1,.box 2 0)]/\((lyI a0 ([]:List (List U3q)) 0 a0.1 a0.2.1 a0.2.2)/\∀(y1:((List (List U3q))×(Int×X5E))),(lyI a0 y1.1 y1.2.1 y1.2.2.1 y1.2.2.2.1 y1.2.2.2.2)->(X00 (decide (y1.2.1<(ln y1.2.2.2.2))) (0<=y1.2.1/\(y1.2.1<(ln y1.2.2.2.2)/\((Xnu (List.getD y1.2.2.2.2 (tN y1.2.1) []))/\∀r2,(Eq r2 ((X0l (List.getD y1.2.2.2.2 (tN y1.2.1) [])),((),())))->(X00 (!r2.1.2) (Eq ((y1.1,false),((),())) ((XhX a0),((),()))) (List.length y1.1+List.length [r2.1.1]<=9223372036854775807/\((List.length y1.1+List.length [r2.1.1])*24<=140737488355328/\(eS [(1,.box 2 0)] [(1,.box 2 0)]/\(lyI a0 (y1.1++[r2.1.1]) (wI (y1.2.1+(1:Int))) y1.2.2.1 y1.2.2.2.1 y1.2.2.2.2)/\(lyM a0 (y1.1++[r2.1.1]) (wI (y1.2.1+(1:Int))) y1.2.2.1 y1.2.2.2.1 y1.2.2.2.2)<(lyM a0 y1.1 y1.2.1 y1.2.2.1 y1.2.2.2.1 y1.2.2.2.2)))))))) (List.length y1.1+List.length [y1.2.2.2.1]<=9223372036854775807/\((List.length y1.1+List.length [y1.2.2.2.1])*24<=140737488355328/\(Eq (((y1.1++[y1.2.2.2.1]),true),((),())) ((XhX a0),((),()))))))))
def X0W.L(a0:X5E):Nat->Option X0e:=XLK [(58,⟨⟨[1],[4,5],[2],[kD 4 0 1000515 25]⟩,(.pair (.list X5m) (.pair (.int .i64) T8q)),λst y=>lyI a0 y.1 y.2.1 y.2.2.1 y.2.2.2.1 y.2.2.2.2,λst y=>lyM a0 y.1 y.2.1 y.2.2.1 y.2.2.2.1 y.2.2.2.2⟩)]
theorem X0W.p(a0:X5E)(h:(Xrm a0)):X0W.F a0:=by
 delta X0W.F ln tN wI eS
 simp only[Bs,B0,B1,Yaa,X01,YaA]
 obtain⟨hf,hl⟩:=h
 refine⟨⟨rfl,by omega,by omega,by simp[XaL],λj hj=>absurd hj (by simp)⟩,?_⟩
 rintro⟨out,i,fl,ca,fi⟩ hI
 simp only at hI ⊢
 have q1:=hI.h1
 have q2:=hI.h2
 have q3:=Ybo List.length hI.h3
 rw[Xio,Yal]at q3
 have st:=XsU hI
 have no:=Xxb hI
 have en:=XuK hI
 obtain rfl:=hI.h0
 simp only at hf hl q2 q3 st no en ⊢
 refine⟨λhi=>?_,λhi=>⟨by omega,by omega,en hi⟩⟩
 have hm:=X1a (d:=([]:List UInt8)) (by omega:i.toNat<fi.length)
 rw[w64 (x:=i+1) (by omega) (by omega)]
 exact⟨q1,hi,hf _ hm,λhr=>no hi hr,λhr=>⟨by omega,by omega,st hi hr,by unfold lyM;simp only;omega⟩⟩
def X0W.e:GE:=mE X7L func60 [96,4] [X37.e] [] (λi x=>X0W.L x) (λi x=>X0W.F x) λi x h _ _=>X0W.p x h
def XaZ(ls:List (List Ser))(f:Int)(k:Str):List Pt:=X1Z (XuQ ls k) f 1099511627777
def XnV(ls:List (List Ser))(f:Int)(k:Str):Prop:=cL tot ls<=10000000
structure hsI (ls:List (List Ser)) (f:Int) (k:Str) (i:Int) (out:List Pt):Prop where
 h1:0<=i
 h2:i<=ls.length
 h3:out=XuQ (ls.take i.toNat) k
 h4:(out.length:Int)<=cL tot (ls.take i.toNat)
def hsM(ls:List (List Ser))(f:Int)(k:Str)(i:Int)(out:List Pt):Nat:=(ls.length - i).toNat
theorem XrS{ls:List (List Ser)}{f:Int}{k:Str}{i:Int}{out o':List Pt}(h:hsI ls f k i out)(hi:i<ls.length)(ho:o'=X4f out (X4M (ls.getD i.toNat []) k))(hl:(X4M (ls.getD i.toNat []) k).length<=tot (ls.getD i.toNat [])):hsI ls f k (i+1) o':=by
 obtain⟨h1,h2,h3,h4⟩:=h
 have a:=(X5i tot [] (by omega:i.toNat<ls.length)).1
 have b:=Xdp (X4M (ls.getD i.toNat []) k) out
 refine⟨by omega,by omega,?_,by rw[tn1 h1,a,ho];omega⟩
 rw[tn1 h1,X0J [] (by omega),ho,h3]
 simp only[XuQ,YbG,Ybp,YcG]
theorem XnJ(l:List Ser)(k:Str):((X4M l k).length:Int)<=tot l:=by
 induction l with
 | nil=>simp[XmC,tot,cL]
 | cons x l ih=>
   have h1:tot (x::l)=cS x+tot l:=X4y ..
   have h2:cS x=(x.2.length:Int)+1:=rfl
   have h3:=Xei l
   rw[X3l];split<;>omega
theorem Xxe{ls:List (List Ser)}{f:Int}{k:Str}{i:Int}{out:List Pt}(h:hsI ls f k i out)(hi:¬i<ls.length):X1Z out f 1099511627777=XaZ ls f k/\(out.length:Int)<=cL tot ls:=by
 obtain⟨h1,h2,h3,h4⟩:=h
 rw[show i.toNat=ls.length by omega,Yat]at h3 h4
 exact⟨by rw[h3];rfl,h4⟩
def XoB(ls:List (List Ser))(f:Int):List Ser:=((X8E ls).map λk=>(k,XaZ ls f k)).filter λx=>!x.2.isEmpty
def XrA(ls:List (List Ser))(f:Int):Prop:=cL tot ls<=10000000
structure psI (ls:List (List Ser)) (f i:Int) (out:List Ser):Prop where
 h1:0<=i
 h2:i<=(X8E ls).length
 h3:out=(((X8E ls).take i.toNat).map λk=>(k,XaZ ls f k)).filter λx=>!x.2.isEmpty
 h4:(out.length:Int)<=i
def psM(ls:List (List Ser))(f i:Int)(out:List Ser):Nat:=((X8E ls).length - i).toNat
theorem Xy1{ls:List (List Ser)}{f i:Int}{out:List Ser}(h:psI ls f i out)(hi:i<(X8E ls).length)(hn:0<(XaZ ls f ((X8E ls).getD i.toNat [])).length):psI ls f (i+1) (out++[((X8E ls).getD i.toNat [],XaZ ls f ((X8E ls).getD i.toNat []))]):=by
 obtain⟨h1,h2,h3,h4⟩:=h
 refine⟨by omega,by omega,?_,by simp;omega⟩
 rw[tn1 h1,X0J [] (by omega),Ya8,YaY,<-h3]
 generalize (X8E ls).getD i.toNat []=x at*
 have:(XaZ ls f x).isEmpty=false:=by
  cases e:XaZ ls f x with
  | nil=>rw[e]at hn;simp at hn
  | cons=>rfl
 simp[this]
theorem ps_no{ls:List (List Ser)}{f i:Int}{out:List Ser}(h:psI ls f i out)(hi:i<(X8E ls).length)(hn:¬0<(XaZ ls f ((X8E ls).getD i.toNat [])).length):psI ls f (i+1) out:=by
 obtain⟨h1,h2,h3,h4⟩:=h
 refine⟨by omega,by omega,?_,by omega⟩
 rw[tn1 h1,X0J [] (by omega),Ya8,YaY,<-h3]
 generalize (X8E ls).getD i.toNat []=x at*
 have:XaZ ls f x=[]:=YaL.1 (by omega)
 simp[this]
theorem XwH{ls:List (List Ser)}{f i:Int}{out:List Ser}(h:psI ls f i out)(hi:¬i<(X8E ls).length):out=XoB ls f:=by
 obtain⟨h1,h2,h3,h4⟩:=h
 rw[h3,show i.toNat=(X8E ls).length by omega,Yat];rfl
theorem XnX(ls:List (List Ser)):((X8E ls).length:Int)<=cL tot ls:=by
 have:∀(ls:List (List Ser)) (o:List Str),((ls.foldl XaP o).length:Int)<=o.length+cL tot ls:=by
  intro ls
  induction ls with
  | nil=>intro o;simp[cL]
  | cons t ls ih=>
    intro o
    have h1:=ih (XaP o t)
    have h2:=Xgh t o
    have h3:=XaG t
    rw[Ybp,X4y];omega
 have h:=this ls []
 simpa [X8E] using h
def XaQ:Con:=cW (.pair (.list X5m) (.pair (.int .i64) .str)) [.one,.one,.one] X7m [(false,1)] [(0,107)] (λa=>(XnV a.1 a.2.1 a.2.2)) λa=>(XaZ a.1 a.2.1 a.2.2)
def X3c.F(a0:(List (List U3q)))(a1:Int)(a2:U6q):Prop:=(eS [(0,.val false [.lst X5m a0 none]),(1,.val false [.int .i64 a1]),(2,.val false [.str a2])] [(0,.val false [.lst X5m a0 none]),(1,.val false [.int .i64 a1]),(2,.val false [.str a2])]/\((hsI a0 a1 a2 0 ([]:List (Int×Int)))/\∀(y1:(Int×U9q)),(hsI a0 a1 a2 y1.1 y1.2)->(X00 (decide (y1.1<(ln a0))) (0<=y1.1/\(y1.1<(ln a0)/\(True/\∀r2,(Eq r2 ((fAt (List.getD a0 (tN y1.1) []) a2),((),())))->(X00 (decide (r2.1>=(0:Int))) (0<=y1.1/\(y1.1<(ln a0)/\(0<=r2.1/\(r2.1<(ln (List.getD a0 (tN y1.1) []))/\((Xm2 y1.2 ((List.getD (List.getD a0 (tN y1.1) []) (tN r2.1) ([],[])).2))/\∀r3,(Eq r3 ((Xl4 y1.2 ((List.getD (List.getD a0 (tN y1.1) []) (tN r2.1) ([],[])).2)),((),())))->(eS [(0,.val false [.lst X5m a0 none]),(1,.val false [.int .i64 a1]),(2,.val false [.str a2])] [(0,.val false [.lst X5m a0 none]),(1,.val false [.int .i64 a1]),(2,.val false [.str a2])]/\(hsI a0 a1 a2 (wI (y1.1+(1:Int))) r3.1)/\(hsM a0 a1 a2 (wI (y1.1+(1:Int))) r3.1)<(hsM a0 a1 a2 y1.1 y1.2))))))) (eS [(0,.val false [.lst X5m a0 none]),(1,.val false [.int .i64 a1]),(2,.val false [.str a2])] [(0,.val false [.lst X5m a0 none]),(1,.val false [.int .i64 a1]),(2,.val false [.str a2])]/\(hsI a0 a1 a2 (wI (y1.1+(1:Int))) y1.2)/\(hsM a0 a1 a2 (wI (y1.1+(1:Int))) y1.2)<(hsM a0 a1 a2 y1.1 y1.2)))))) ((X8g y1.2 a1 1099511627777)/\∀r4,(Eq r4 ((X1Z y1.2 a1 1099511627777),((),())))->(Eq (r4.1,((),())) ((XaZ a0 a1 a2),((),())))))))
def X3c.L(a0:(List (List U3q)))(a1:Int)(a2:U6q):Nat->Option X0e:=XLK [(58,⟨⟨[0,1,2],[7,8],[],[kC 7 0 1000899 107]⟩,Xof,λst y=>hsI a0 a1 a2 y.1 y.2,λst y=>hsM a0 a1 a2 y.1 y.2⟩)]
theorem X3c.p(a0:(List (List U3q)))(a1:Int)(a2:U6q)(h:(XnV a0 a1 a2))(hw:Wf XaQ.A (a0,a1,a2)):X3c.F a0 a1 a2:=by
 delta X3c.F ln tN wI eS
 simp only[Bs,B0,B1,Yaa,X01,Xm2,Xl4,X8g]
 have hn:cL tot a0<=10000000:=h
 have hl:a0.length<=9223372036854775807:=hw.1.1
 refine⟨⟨by omega,by omega,rfl,by simp[cL]⟩,?_⟩
 rintro⟨i,out⟩ hI
 simp only at hI ⊢
 have q1:=hI.h1
 have q2:=hI.h2
 have q4:=hI.h4
 refine⟨λhi=>?_,λhi=>?_⟩
 . obtain⟨a1',a2'⟩:=Xxg (a0.getD i.toNat []) a2
   have b1:=XnJ (a0.getD i.toNat []) a2
   have b2:=Xpg (ls:=a0) (i:=i.toNat) (by omega)
   have b3:=Xl7 (a0.take i.toNat)
   have b4:=Xei (a0.getD i.toNat [])
   rw[w64 (x:=i+1) (by omega) (by omega)]
   refine⟨q1,hi,λh3=>?_,λh3=>⟨XrS hI hi (by rw[a2' h3,Xgf]) b1,by unfold hsM;omega⟩⟩
   obtain⟨c1,c2⟩:=a1' h3
   rw[c2]
   exact⟨q1,hi,by omega,c1,⟨by omega,by omega⟩,XrS hI hi rfl b1,by unfold hsM;omega⟩
 . obtain⟨e1,e2⟩:=Xxe hI hi
   exact⟨by omega,e1⟩
def X3c.e:GE:=mE XaQ func63 [91] [X2r.e,X4Y.e,X2P.e] [] (λi x=>X3c.L x.1 x.2.1 x.2.2) (λi x=>X3c.F x.1 x.2.1 x.2.2) λi x h _ hw=>X3c.p x.1 x.2.1 x.2.2 h hw
def X9f:Con:=cQ (.pair (.list X5m) (.int .i64)) [.one,.one] X5m [(false,1)] (λa=>(XrA a.1 a.2)) λa=>(XoB a.1 a.2)
def X1A.F(a0:(List (List U3q)))(a1:Int):Prop:=((XtG a0)/\∀r1,(Eq r1 ((X8E a0),((),())))->(eS [(0,.val false [.lst X5m a0 none]),(1,.val false [.int .i64 a1]),(6,.val false [.lst .str r1.1 none])] [(0,.val false [.lst X5m a0 none]),(1,.val false [.int .i64 a1]),(6,.val false [.lst .str r1.1 none])]/\((psI a0 a1 0 ([]:List U3q))/\∀(y2:(Int×(List U3q))),(psI a0 a1 y2.1 y2.2)->(X00 (decide (y2.1<(ln r1.1))) (0<=y2.1/\(y2.1<(ln r1.1)/\((XnV a0 a1 (List.getD r1.1 (tN y2.1) []))/\∀r3,(Eq r3 ((XaZ a0 a1 (List.getD r1.1 (tN y2.1) [])),((),())))->(X00 (decide ((ln r3.1)>(0:Int))) (0<=y2.1/\(y2.1<(ln r1.1)/\(List.length y2.2+List.length ([((List.getD r1.1 (tN y2.1) []),r3.1)]:List U3q)<=9223372036854775807/\((List.length y2.2+List.length ([((List.getD r1.1 (tN y2.1) []),r3.1)]:List U3q))*40<=140737488355328/\(eS [(0,.val false [.lst X5m a0 none]),(1,.val false [.int .i64 a1]),(6,.val false [.lst .str r1.1 none])] [(0,.val false [.lst X5m a0 none]),(1,.val false [.int .i64 a1]),(6,.val false [.lst .str r1.1 none])]/\(psI a0 a1 (wI (y2.1+(1:Int))) (y2.2++[((List.getD r1.1 (tN y2.1) []),r3.1)]))/\(psM a0 a1 (wI (y2.1+(1:Int))) (y2.2++[((List.getD r1.1 (tN y2.1) []),r3.1)]))<(psM a0 a1 y2.1 y2.2)))))) (eS [(0,.val false [.lst X5m a0 none]),(1,.val false [.int .i64 a1]),(6,.val false [.lst .str r1.1 none])] [(0,.val false [.lst X5m a0 none]),(1,.val false [.int .i64 a1]),(6,.val false [.lst .str r1.1 none])]/\(psI a0 a1 (wI (y2.1+(1:Int))) y2.2)/\(psM a0 a1 (wI (y2.1+(1:Int))) y2.2)<(psM a0 a1 y2.1 y2.2)))))) (Eq (y2.2,((),())) ((XoB a0 a1),((),())))))))
def X1A.L(a0:(List (List U3q)))(a1:Int):Nat->Option X0e:=XLK [(122,⟨⟨[0,1,6],[5,7],[],[kC 5 0 1000643 109]⟩,(.pair (.int .i64) X5m),λst y=>psI a0 a1 y.1 y.2,λst y=>psM a0 a1 y.1 y.2⟩)]
theorem X1A.p(a0:(List (List U3q)))(a1:Int)(h:(XrA a0 a1)):X1A.F a0 a1:=by
 delta X1A.F ln tN wI eS
 simp only[Bs,B0,B1,Yaa,X01,XtG,XnV]
 have hn:cL tot a0<=10000000:=h
 have hk:=XnX a0
 refine⟨hn,⟨by omega,by omega,rfl,by simp⟩,?_⟩
 rintro⟨i,out⟩ hI
 simp only at hI ⊢
 have q1:=hI.h1
 have q2:=hI.h2
 have q4:=hI.h4
 refine⟨λhi=>?_,λhi=>XwH hI hi⟩
 rw[w64 (x:=i+1) (by omega) (by omega)]
 refine⟨q1,hi,hn,λh3=>⟨q1,hi,by omega,by omega,Xy1 hI hi (by omega),by unfold psM;omega⟩,λh3=>⟨ps_no hI hi (by omega),by unfold psM;omega⟩⟩
def X1A.e:GE:=mE X9f func69 [25] [X3c.e,X3j.e] [] (λi x=>X1A.L x.1 x.2) (λi x=>X1A.F x.1 x.2) λi x h _ _=>X1A.p x.1 x.2 h
def X9w:Con:=cQ X5m [.one] (.int .i64) [(false,1)] (λa=>(Xoq a)) λa=>(Xf0 a)
def X21.F(a0:(List U3q)):Prop:=(eS [(0,.val false [.lst T5q a0 none])] [(0,.val false [.lst T5q a0 none])]/\((cnI a0 0 0)/\∀(y1:(Int×Int)),(cnI a0 y1.1 y1.2)->(X00 (decide (y1.2<(ln a0))) (0<=y1.2/\(y1.2<(ln a0)/\(eS [(0,.val false [.lst T5q a0 none])] [(0,.val false [.lst T5q a0 none])]/\(cnI a0 (wI (y1.1+(ln ((List.getD a0 (tN y1.2) ([],[])).2)))) (wI (y1.2+(1:Int))))/\(cnM a0 (wI (y1.1+(ln ((List.getD a0 (tN y1.2) ([],[])).2)))) (wI (y1.2+(1:Int))))<(cnM a0 y1.1 y1.2)))) (Eq (y1.1,((),())) ((Xf0 a0),((),()))))))
def X21.L(a0:(List U3q)):Nat->Option X0e:=XLK [(58,⟨⟨[0],[3,4],[],[]⟩,T0q,λst y=>cnI a0 y.1 y.2,λst y=>cnM a0 y.1 y.2⟩)]
theorem X21.p(a0:(List U3q))(h:(Xoq a0)):X21.F a0:=by
 delta X21.F ln tN wI eS
 simp only[Bs,B0,B1,Yaa,X01]
 have hn:tot a0<=100000000:=h
 have k0:=Xlz a0
 have k1:=XaG a0
 refine⟨⟨by omega,by omega,by simp[Xf0,cL]⟩,?_⟩
 rintro⟨n,i⟩ hI
 simp only at hI ⊢
 have q1:=hI.1
 have q2:=hI.2.1
 refine⟨λhi=>?_,λhi=>XuZ hI hi⟩
 have k2:=Xx3 hI hi
 have st:=Xrb hI hi
 rw[w64 (x:=i+1) (by omega) (by omega),w64 (by omega) (by omega)]
 exact⟨q1,hi,st,by unfold cnM;omega⟩
def X21.e:GE:=mE X9w func68 [3] [] [] (λi x=>X21.L x) (λi x=>X21.F x) λi x h _ _=>X21.p x h
theorem Xsm{k:Str}:∀{l:List Str},Asc Op.bytesLess id l->(∀x∈l,x≠k)->Asc Op.bytesLess id (nmP k l)
 | [],_,_=>YcJ _ _
 | x::l,h,hn=>by
   obtain⟨h1,h2⟩:=YaR.1 h
   rw[nmP];split
   . rename_i hx
     refine YaR.2 ⟨λy hy=>?_,h⟩
     rcases Yak.1 hy with rfl | hy
     . exact hx
     . exact X6B.tr _ _ _ hx (h1 y hy)
   . rename_i hx
     have hxk:Op.bytesLess x k=true:=by
      rcases X6B.tri x k with h3 | h3 | h3
      . exact h3
      . exact absurd h3 (hn x (by simp))
      . exact absurd h3 hx
     refine YaR.2 ⟨λy hy=>?_,Xsm h2 λz hz=>hn z (by simp[hz])⟩
     have hy':y=k\/y∈l:=by
      clear h hn h1 h2 hx hxk
      induction l with
      | nil=>exact .inl (by simpa [nmP] using hy)
      | cons z l ih=>
        rw[nmP]at hy
        split at hy
        . rcases Yak.1 hy with e | hy
          . exact .inl e
          . exact .inr hy
        . rcases Yak.1 hy with e | hy
          . exact .inr (by simp[e])
          . rcases ih hy with e | h
            . exact .inl e
            . exact .inr (by simp[h])
     rcases hy' with rfl | hy'
     . exact hxk
     . exact h1 y hy'
theorem XrZ{k x:Str}:∀{l:List Str},x∈nmP k l↔x=k\/x∈l
 | []=>by simp[nmP]
 | z::l=>by
   rw[nmP];split
   . simp
   . simp only[Yak,XrZ (l:=l)]
     constructor
     . rintro (h | h | h)
       . exact .inr (.inl h)
       . exact .inl h
       . exact .inr (.inr h)
     . rintro (h | h | h)
       . exact .inr (.inl h)
       . exact .inl h
       . exact .inr (.inr h)
theorem Xqm{l:List Str}(h:Asc Op.bytesLess id l)(k:Str):Asc Op.bytesLess id (XcN l k)/\∀x,x∈XcN l k↔x∈l\/x=k:=by
 unfold XcN;split
 . rename_i hk
   exact⟨h,λx=>⟨.inl,λhx=>hx.elim id λe=>e▸hk⟩⟩
 . rename_i hk
   refine⟨Xsm h λx hx e=>hk (e▸hx),λx=>?_⟩
   rw[XrZ];exact Or.comm
theorem Xjk:∀(l:List Ser) (o:List Str),Asc Op.bytesLess id o->Asc Op.bytesLess id (XaP o l)/\∀x,x∈XaP o l↔x∈o\/X8F l x=true
 | [],o,h=>⟨h,λx=>by simp[XaP,X8F]⟩
 | s::l,o,h=>by
   obtain⟨a1,a2⟩:=Xqm h s.1
   obtain⟨b1,b2⟩:=Xjk l _ a1
   refine⟨b1,λx=>?_⟩
   show x∈XaP (XcN o s.1) l↔_
   rw[b2,a2,X8Y,Ya7,Yaj]
   constructor
   . rintro ((h | h) | h)
     . exact .inl h
     . exact .inr (.inl h.symm)
     . exact .inr (.inr h)
   . rintro (h | h | h)
     . exact .inl (.inl h)
     . exact .inl (.inr h.symm)
     . exact .inr h
theorem Xq9(ls:List (List Ser)):Asc Op.bytesLess id (X8E ls)/\∀x,x∈X8E ls↔∃l∈ls,X8F l x=true:=by
 have:∀(ls:List (List Ser)) (o:List Str),Asc Op.bytesLess id o->Asc Op.bytesLess id (ls.foldl XaP o)/\∀x,x∈ls.foldl XaP o↔x∈o\/∃l∈ls,X8F l x=true:=by
  intro ls
  induction ls with
  | nil=>intro o h;exact⟨h,λx=>by simp⟩
  | cons t ls ih=>
    intro o h
    obtain⟨a1,a2⟩:=Xjk t o h
    obtain⟨b1,b2⟩:=ih _ a1
    refine⟨b1,λx=>?_⟩
    rw[Ybp,b2,a2]
    constructor
    . rintro ((h | h) | ⟨l,h1,h2⟩)
      . exact .inl h
      . exact .inr ⟨t,by simp,h⟩
      . exact .inr ⟨l,by simp[h1],h2⟩
    . rintro (h | ⟨l,h1,h2⟩)
      . exact .inl (.inl h)
      . rcases Yak.1 h1 with rfl | h1
        . exact .inl (.inr h2)
        . exact .inr ⟨l,h1,h2⟩
 obtain⟨a,b⟩:=this ls [] List.Pairwise.nil
 exact⟨a,λx=>by rw[show X8E ls=ls.foldl XaP [] from rfl,b];simp⟩
theorem XxD(g:Str->List Pt):∀{ks:List Str},Asc Op.bytesLess id ks->let L:=(ks.map λk=>(k,g k)).filter λx:Ser=>!x.2.isEmpty
 Xgt L/\∀k,X8F L k=(decide (k∈ks)&&!(g k).isEmpty)/\X4M L k=if k∈ks then g k else []
 | [],_=>⟨List.Pairwise.nil,λk=>⟨rfl,rfl⟩⟩
 | x::ks,h=>by
   obtain⟨h1,h2⟩:=YaR.1 h
   obtain⟨a1,a2⟩:=XxD g h2
   have hx:x∉ks:=λhm=>by have:=h1 x hm;simp only[id]at this;rw[X6B.irr]at this;cases this
   simp only[Yaq,YcV]
   cases he:(g x).isEmpty with
   | true=>
     refine⟨a1,λk=>?_⟩
     obtain⟨b1,b2⟩:=a2 k
     by_cases hk:k=x
     . subst hk
       have hg:g k=[]:=YcY.1 he
       simp[b1,b2,hx,hg]
     . simp[b1,b2,hk]
   | false=>
     refine⟨YaR.2 ⟨λy hy=>?_,a1⟩,λk=>?_⟩
     . obtain⟨z,hz,e⟩:=YaM.1 (Ybz.1 hy).1
       rw[<-e];exact h1 z hz
     . obtain⟨b1,b2⟩:=a2 k
       simp only[Bool.not_false,Ycc,X8Y,X3l,b1,b2]
       by_cases hk:x=k
       . subst hk;simp[he]
       . have:¬k=x:=λe=>hk e.symm
         simp[hk,this]
theorem Xuh(ls:List (List Ser))(l:List Ser)(k:Str):XuQ (ls++[l]) k=X4f (XuQ ls k) (X4M l k):=by simp[XuQ,YbG]
theorem XvL{ls:List (List Ser)}{k:Str}(h:∀l∈ls,X8F l k=false):XuQ ls k=[]:=by
 have:∀(ls:List (List Ser)) (o:List Pt),(∀l∈ls,X8F l k=false)->ls.foldl (λo l=>X4f o (X4M l k)) o=o:=by
  intro ls
  induction ls with
  | nil=>intro o _;rfl
  | cons t ls ih=>
    intro o h
    rw[Ybp,XeS (h t (by simp)),Xgf]
    exact ih o λl hl=>h l (by simp[hl])
 exact this ls [] h
theorem XrG{ls:List (List Ser)}(h:∀l∈ls,Xd0 l)(f:Int):XoB ls f=X0X (X4w ls) f:=by
 obtain⟨k1,k2⟩:=Xq9 ls
 obtain⟨a1,a2⟩:=XxD (XaZ ls f) k1
 have hR:Xd0 (X4w ls):=XdJ ls [] Xgk h
 have hp:∀k,X4M (X4w ls) k=XuQ ls k:=λk=>by rw[X4w,Xh2 ls [] Xgk h];rfl
 have hno:∀k,k∉X8E ls->XaZ ls f k=[]:=λk hk=>by
  unfold XaZ
  rw[XvL (λl hl=>by rw[Ybk];intro hh;exact hk ((k2 k).2 ⟨l,hl,hh⟩)),XgN]
 have b1:∀k,X8F (XoB ls f) k=(decide (k∈X8E ls)&&!(XaZ ls f k).isEmpty):=λk=>(a2 k).1
 have b2:∀k,X4M (XoB ls f) k=if k∈X8E ls then XaZ ls f k else []:=λk=>(a2 k).2
 refine XlD a1 (X5t hR.1 f) (λk=>?_) (λk=>?_)
 . rw[b1,(X4E hR.1 f k).2,hp]
   show _=!(XaZ ls f k).isEmpty
   by_cases hk:k∈X8E ls
   . simp[hk]
   . simp[hk,hno k hk]
 . rw[b2,(X4E hR.1 f k).1,hp]
   show _=XaZ ls f k
   split
   . rfl
   . rename_i hk;exact(hno k hk).symm
theorem Xj3(fs:List Str):∀l∈XaL fs,Xd0 l:=λl hl=>by
 obtain⟨f,_,rfl⟩:=YaM.1 hl
 exact(Xj6 f).1
theorem XxU{e:Eng}(hc:Xd0 e.2.1):∀l∈XaL e.2.2++[e.2.1],Xd0 l:=λl hl=>by
 rcases Yaf.1 hl with h | h
 . exact Xj3 _ l h
 . rw[YaN.1 h];exact hc
theorem XtX{e:Eng}(hc:Xd0 e.2.1)(ho:okF e.2.2=true):XoB (XaL e.2.2++[e.2.1]) e.1=(X0k e).1:=by
 rw[XrG (XxU hc)]
 unfold X0k
 rw[Yah ho]
 simp only[X4w,YbG,Ybp,YcG]
theorem XvY(fs:List Str):cL tot (XaL fs)<=305*fs.length:=by
 induction fs with
 | nil=>simp[XaL,cL]
 | cons f fs ih=>
   have h1:=(Xj6 f).2.1
   show cL tot ((X0l f).1::XaL fs)<=_
   rw[X4y,Yad];omega
theorem XfS(e:Eng):cL tot (XaL e.2.2++[e.2.1])<=305*e.2.2.length+tot e.2.1:=by
 have:=XvY e.2.2
 rw[XcO,X4y,XwT];omega
theorem Xm1(e:Eng):(X0k e).2=okF e.2.2:=by
 unfold X0k;split
 . rename_i h;rw[h]
 . rename_i h;simp at h;simp[h]
structure ekI (e:Eng) (i fl:Int) (ca:List Ser) (fi:List Str):Prop where
 h0:((fl,(ca,fi)):Eng)=e
 h1:0<=i
 h2:i<=e.2.1.length
 h3:∀j,j<i.toNat->Xoi e (e.2.1.getD j ([],[]))=false
def ekM(e:Eng)(i fl:Int)(ca:List Ser)(fi:List Str):Nat:=(e.2.1.length - i).toNat
theorem XxH{e:Eng}{i fl:Int}{ca:List Ser}{fi:List Str}(h:ekI e i fl ca fi)(hi:¬i<e.2.1.length):Xlk e.2.1 e=false:=by
 obtain⟨h0,h1,h2,h3⟩:=h
 rw[Ybk];intro hh
 obtain⟨x,hx,hd⟩:=Ydo.1 hh
 obtain⟨j,hj,e2⟩:=YaQ hx
 have:=h3 j (by omega)
 rw[X0O hj,e2,hd]at this;cases this
theorem ek_no{e:Eng}{j:Nat}(hj:j<e.2.1.length)(hd:Xoi e (e.2.1.getD j ([],[]))=true):Xlk e.2.1 e=true:=
 Ydo.2 ⟨_,X1a hj,hd⟩
def X8S:Con:=cQ T8q [.agg 3] .bool [(false,1)] (λa=>(Xg8 a)) λa=>(X3t a)
def X2E.F(a0:X5E):Prop:=(True/\∀r1,(Eq r1 ((fIn a0.1 0 1099511627776),((),())))->(X00 (!r1.1) (Eq (false,((),())) ((X3t a0),((),()))) ((X3s a0.2.1)/\∀r2,(Eq r2 ((X0M a0.2.1),((),())))->(X00 (!r2.1) (Eq (false,((),())) ((X3t a0),((),()))) ((Xoq a0.2.1)/\∀r3,(Eq r3 ((Xf0 a0.2.1),((),())))->(X00 (decide (r3.1>(40:Int))) (Eq (false,((),())) ((X3t a0),((),()))) (X00 (decide ((ln a0.2.2)>(4:Int))) (Eq (false,((),())) ((X3t a0),((),()))) (eS [(1,.box 2 0)] [(1,.box 2 0)]/\((ekI a0 0 a0.1 a0.2.1 a0.2.2)/\∀(y4:(Int×X5E)),(ekI a0 y4.1 y4.2.1 y4.2.2.1 y4.2.2.2)->(X00 (decide (y4.1<(ln y4.2.2.1))) (0<=y4.1/\(y4.1<(ln y4.2.2.1)/\(0<=(0:Int)/\((0:Int)<(ln ((List.getD y4.2.2.1 (tN y4.1) ([],[])).2))/\(X00 (decide (((List.getD ((List.getD y4.2.2.1 (tN y4.1) ([],[])).2) (tN (0:Int)) (0,0)).1)<y4.2.1)) (Eq (false,((),())) ((X3t a0),((),()))) (eS [(1,.box 2 0)] [(1,.box 2 0)]/\(ekI a0 (wI (y4.1+(1:Int))) y4.2.1 y4.2.2.1 y4.2.2.2)/\(ekM a0 (wI (y4.1+(1:Int))) y4.2.1 y4.2.2.1 y4.2.2.2)<(ekM a0 y4.1 y4.2.1 y4.2.2.1 y4.2.2.2))))))) ((Xrm (y4.2.1,(y4.2.2.1,y4.2.2.2)))/\∀r5,(Eq r5 ((XhX (y4.2.1,(y4.2.2.1,y4.2.2.2))),((),())))->(X00 r5.1.2 ((XrA r5.1.1 y4.2.1)/\∀r6,(Eq r6 ((XoB r5.1.1 y4.2.1),((),())))->((X3s r6.1)/\∀r7,(Eq r7 ((X0M r6.1),((),())))->(Eq (r7.1,((),())) ((X3t a0),((),()))))) (Eq (false,((),())) ((X3t a0),((),())))))))))))))))
def X2E.L(a0:X5E):Nat->Option X0e:=XLK [(58,⟨⟨[1],[3],[2],[]⟩,(.pair (.int .i64) T8q),λst y=>ekI a0 y.1 y.2.1 y.2.2.1 y.2.2.2,λst y=>ekM a0 y.1 y.2.1 y.2.2.1 y.2.2.2⟩)]
theorem X2E.p(a0:X5E)(h:(Xg8 a0)):X2E.F a0:=by
 delta X2E.F ln tN wI eS
 simp only[Bs,B0,B1,Yaa,X01,YaA,Xoq]
 obtain⟨hk,hf⟩:=h
 have no:XcZ a0=false->false=X3t a0:=λh=>by unfold X3t X3R;rw[Yae (by rw[h];decide)]
 refine⟨λh1=>no (by unfold XcZ Xau;rw[h1];rfl),λh1=>⟨hk,λh2=>no (by unfold XcZ;rw[h2];simp),λh2=>?_⟩⟩
 obtain⟨s1,s2,s3,s4⟩:=X39 h2
 refine⟨by omega,λh3=>no ?_,λh3=>⟨λh4=>no ?_,λh4=>?_⟩⟩
 . have:decide (Xf0 a0.2.1<=40)=false:=Yaw (by omega)
   unfold XcZ;rw[this];simp
 . have:decide (a0.2.2.length<=4)=false:=Yaw (by omega)
   unfold XcZ;rw[this];simp
 refine⟨⟨rfl,by omega,by omega,λj hj=>absurd hj (by simp)⟩,?_⟩
 rintro⟨i,fl,ca,fi⟩ hI
 simp only at hI ⊢
 have q1:=hI.h1
 have q2:=hI.h2
 have q3:=hI.h3
 have hen:=XxH hI
 obtain rfl:=hI.h0
 simp only at*
 refine⟨λhi=>?_,λhi=>?_⟩
 . have hm:=X1a (d:=(([]:List UInt8),([]:List Pt))) (by omega:i.toNat<ca.length)
   have hp:0<(ca.getD i.toNat ([],[])).2.length:=Ybh.2 (s4 _ hm).2.1
   rw[w64 (x:=i+1) (by omega) (by omega)]
   refine⟨q1,hi,by omega,by omega,λh5=>no ?_,λh5=>⟨⟨rfl,by omega,by simp only;omega,λj hj=>?_⟩,by unfold ekM;simp only;omega⟩⟩
   . have hd:Xoi (fl,ca,fi) (ca.getD i.toNat ([],[]))=true:=by unfold Xoi;exact Yaz h5
     have:=ek_no (e:=(fl,ca,fi)) (j:=i.toNat) (by simp only;omega) hd
     unfold XcZ;simp only;rw[this];simp
   . by_cases e:j=i.toNat
     . rw[e];unfold Xoi;exact Yaw h5
     . exact q3 j (by omega)
 . have h5:=hen hi
   have hh:XcZ (fl,ca,fi)=true:=by
    unfold XcZ Xau
    simp only
    rw[h1,h2,h5,Yaz (by omega:Xf0 ca<=40),Yaz (by omega:fi.length<=4)];rfl
   have ho:=Xm1 (fl,ca,fi)
   have ht:=XfS (fl,ca,fi)
   simp only at ho ht
   refine⟨⟨hf,by simp only;omega⟩,λh6=>?_,λh6=>?_⟩
   . have h7:okF fi=true:=by
      unfold XhX at h6;simp only at h6;split at h6
      . assumption
      . cases h6
     have e1:(XhX (fl,ca,fi)).1=XaL fi++[ca]:=by unfold XhX;simp only;rw[Yah h7]
     have e2:=XtX (e:=(fl,ca,fi)) s1 h7
     simp only at e2
     rw[e1,e2]
     refine⟨by unfold XrA;omega,XkS (XmA (e:=(fl,ca,fi)) λx hx=>(s4 x hx).1),?_⟩
     unfold X3t X3R
     rw[Yah hh,Yah (by rw[ho];exact h7)]
   . have h7:okF fi=false:=by
      unfold XhX at h6;simp only at h6;split at h6
      . cases h6
      . simpa using ‹¬okF fi=true›
     unfold X3t X3R
     rw[Yah hh,Yae (by rw[ho,h7];decide)]
def X2E.e:GE:=mE X8S func29 [4] [X29.e,X0W.e,X1z.e,X21.e,X1A.e] [] (λi x=>X2E.L x) (λi x=>X2E.F x) λi x h _ _=>X2E.p x h
abbrev Ans:=XjL
abbrev XfC:=U7q
abbrev Bkt:=Int×Int
abbrev Stt:=U1q
def X9E(a:Ans):Bool:=fIn a.1 0 4&&(fIn a.2.1 0 100000&&(Xau a.2.2.1&&decide (a.2.2.2.length<=900)))
def Xds(n mark:Int):Bool:=decide (IntKind.wrap .i64 (IntKind.wrap .i64 (n+1)*100)<=mark)
def ss1(x:XfC):Bool:=fIn x.1 1 4&&(fIn x.2.1 1 1000000&&X9E x.2.2)
def XlH:XfC:=(0,(0,(0,(0,(0,[])))))
def Xqv(l:List XfC)(i:Nat):Bool:=ss1 (l.getD i XlH)&&(decide (i=0)||decide ((l.getD (i - 1) XlH).1<(l.getD i XlH).1))
def X4R(l:List XfC):Bool:=Xha (Xqv l) l.length
def sxI(l:List XfC)(i:Int):Prop:=0<=i/\i<=l.length/\∀j,j<i.toNat->Xqv l j=true
def sxM(l:List XfC)(i:Int):Nat:=(l.length - i).toNat
def bk1(mark:Int)(b:Bkt):Bool:=fIn b.1 0 10995116277&&(!Xds b.1 mark&&fIn b.2 0 1)
def XsY(l:List Bkt)(mark:Int)(i:Nat):Bool:=bk1 mark (l.getD i (0,0))&&(decide (i=0)||decide ((l.getD (i - 1) (0,0)).1<(l.getD i (0,0)).1))
def X6h(l:List Bkt)(mark:Int):Bool:=decide (l.length<=12)&&Xha (XsY l mark) l.length
def bkI(l:List Bkt)(mark i:Int):Prop:=0<=i/\i<=l.length/\∀j,j<i.toNat->XsY l mark j=true
def bkM(l:List Bkt)(mark i:Int):Nat:=(l.length - i).toNat
def XdS(e:Eng):Bool:=decide (e.1=0)&&(decide (e.2.1.length=0)&&decide (e.2.2.length=0))
def X2W(s:Stt):Bool:=X4R s.2.2.2.2.2&&(if s.1=1 then fIn s.2.1 0 100000&&(Xau s.2.2.1&&(X6h s.2.2.2.1 s.2.2.1&&XdS s.2.2.2.2.1)) else if s.1=2 then decide (s.2.1=0)&&(decide (s.2.2.1=0)&&(decide (s.2.2.2.1.length=0)&&X3t s.2.2.2.2.1)) else false)
def pSt(s:Stt):Prop:=Xg8 s.2.2.2.2.1/\s.2.2.2.2.1.2.1.length<=1000000000/\s.2.2.2.2.1.2.2.length<=1000000000
theorem Xp4{l:List XfC}(h:X4R l=true):∀j,j<l.length->Xqv l j=true:=λj hj=>by
 simp only[X4R,Xha,Ya6,YbQ]at h;exact h j hj
theorem XoY{l:List XfC}(h:X4R l=true):l.length<=4:=by
 have key:∀j,j<l.length->(j:Int)+1<=(l.getD j XlH).1/\(l.getD j XlH).1<=4:=by
  intro j
  induction j with
  | zero=>
    intro hj
    have:=Xp4 h 0 hj
    simp only[Xqv,ss1,fIn,Yac,Yaj]at this
    omega
  | succ j ih=>
    intro hj
    have h1:=ih (by omega)
    have:=Xp4 h (j+1) hj
    simp only[Xqv,ss1,fIn,Yac,Ya7,Yaj,YcE]at this
    omega
 by_cases hc:l.length<=4
 . exact hc
 . have:=key 4 (by omega);omega
theorem XsV{l:List Bkt}{mark i:Int}(h:bkI l mark i)(hi:¬i<l.length):decide ((l.length:Int)<=12)=X6h l mark:=by
 obtain⟨h1,h2,h3⟩:=h
 unfold X6h
 rw[Xcs λj hj=>h3 j (by omega),Ybt]
 exact Ydr.2 (by omega)
theorem Xul{l:List XfC}{i:Int}(h:sxI l i)(hi:¬i<l.length):true=X4R l:=by
 obtain⟨h1,h2,h3⟩:=h
 exact(Xcs λj hj=>h3 j (by omega)).symm
structure SsK (l:List XfC) (i:Int) (x y:XfC):Prop where
 n1:fIn x.1 1 4=false->X4R l=false
 n2:fIn x.2.1 1 1000000=false->X4R l=false
 n3:X9E x.2.2=false->X4R l=false
 n4:0<i->y.1>=x.1->X4R l=false
 ok:fIn x.1 1 4=true->fIn x.2.1 1 1000000=true->X9E x.2.2=true->(¬0<i\/¬y.1>=x.1)->sxI l (i+1)
theorem Xuz{l:List XfC}{i:Int}(h:sxI l i)(hi:i<l.length):SsK l i (l.getD i.toNat XlH) (l.getD (i.toNat - 1) XlH):=by
 obtain⟨h1,h2,h3⟩:=h
 have no:Xqv l i.toNat=false->X4R l=false:=λhp=>Xnh (p:=Xqv l) (n:=l.length) (by omega) hp
 refine⟨λh=>no (by unfold Xqv ss1;simp only[h,Ybs,YbK]),λh=>no (by unfold Xqv ss1;simp only[h,Ybs,YbK]),λh=>no (by unfold Xqv ss1;simp only[h,Ybs,YbK]),λh h'=>no ?_,λc1 c2 c3 c4=>⟨by omega,by omega,XbG h1 h3 ?_⟩⟩
 . unfold Xqv
   rw[Yaw (by omega:¬i.toNat=0),Yaw (by omega:¬(l.getD (i.toNat - 1) XlH).1<(l.getD i.toNat XlH).1)];simp
 . unfold Xqv ss1
   rw[c1,c2,c3]
   simp only[Ybt,YaT,Ya7,Yaj]
   omega
structure BkK (l:List Bkt) (mark i:Int) (x y:Bkt):Prop where
 n1:fIn x.1 0 10995116277=false->X6h l mark=false
 n2:Xds x.1 mark=true->X6h l mark=false
 n3:fIn x.2 0 1=false->X6h l mark=false
 n4:0<i->y.1>=x.1->X6h l mark=false
 ok:fIn x.1 0 10995116277=true->Xds x.1 mark=false->fIn x.2 0 1=true->(¬0<i\/¬y.1>=x.1)->bkI l mark (i+1)
theorem XuJ{l:List Bkt}{mark i:Int}(h:bkI l mark i)(hi:i<l.length):BkK l mark i (l.getD i.toNat (0,0)) (l.getD (i.toNat - 1) (0,0)):=by
 obtain⟨h1,h2,h3⟩:=h
 have no:XsY l mark i.toNat=false->X6h l mark=false:=λhp=>by
  unfold X6h;rw[Xnh (p:=XsY l mark) (n:=l.length) (by omega) hp,YbK]
 refine⟨λh=>no (by unfold XsY bk1;simp only[h,Yde,Ybs,YbK]),λh=>no (by unfold XsY bk1;simp only[h,Yde,Ybs,YbK]),λh=>no (by unfold XsY bk1;simp only[h,Yde,Ybs,YbK]),λh h'=>no ?_,λc1 c2 c3 c4=>⟨by omega,by omega,XbG h1 h3 ?_⟩⟩
 . unfold XsY
   rw[Yaw (by omega:¬i.toNat=0),Yaw (by omega:¬(l.getD (i.toNat - 1) (0,0)).1<(l.getD i.toNat (0,0)).1)];simp
 . unfold XsY bk1
   rw[c1,c2,c3]
   simp only[Ybt,YaT,Bool.not_false,Ya7,Yaj]
   omega
theorem Xkw:X6A 1099511627776=10995116277:=by decide
def stI(a:Stt)(i k h m:Int)(b:List Bkt)(f:Int)(c:List Ser)(g:List Str)(s:List XfC):Prop:=a=(k,(h,(m,(b,((f,(c,g)),s)))))/\sxI s i
def stM(a:Stt)(i k h m:Int)(b:List Bkt)(f:Int)(c:List Ser)(g:List Str)(s:List XfC):Nat:=sxM s i
def suI(a:Stt)(i k h m:Int)(b:List Bkt)(f:Int)(c:List Ser)(g:List Str)(s:List XfC):Prop:=a=(k,(h,(m,(b,((f,(c,g)),s)))))/\bkI b m i
def suM(a:Stt)(i k h m:Int)(b:List Bkt)(f:Int)(c:List Ser)(g:List Str)(s:List XfC):Nat:=bkM b m i
def X8M:Con:=cQ (.int .i64) [.one] (.int .i64) [(false,1)] (λ_=>True) λa=>(X6A a)
def X3L.F(a0:Int):Prop:=(True/\∀r1,(Eq r1 ((fIn a0 0 1099511627776),((),())))->(X00 (!r1.1) (Eq ((-1),((),())) ((X6A a0),((),()))) ((100:Int)≠0/\(Eq ((wI (Int.tdiv a0 (100:Int))),((),())) ((X6A a0),((),()))))))
theorem X3L.p(a0:Int)(h:True):X3L.F a0:=by
 unfold X3L.F X6A
 simp only[YbJ,Ybw,Ybn,X01,Yaa,YaP,Ybl]
 refine⟨λh1=>by simp[h1],λh1=>⟨by omega,?_⟩⟩
 have h2:=h1
 simp only[fIn,Yac,Yaj]at h2
 rw[Yah h1,Ya9 h2.1]
 exact Yau _ (by omega)
def X3L.e:GE:=mE X8M func31 [3] [X0V.e] [] noL (λi x=>X3L.F x) λi x h _ _=>X3L.p x h
def X8W:Con:=cQ XkE [.agg 4] .bool [(false,1)] (λ_=>True) λa=>(X9E a)
def X3C.F(a0:XjL):Prop:=(True/\∀r1,(Eq r1 ((fIn a0.1 0 4),((),())))->(X00 r1.1 (True/\∀r2,(Eq r2 ((fIn a0.2.1 0 100000),((),())))->(X00 r2.1 (True/\∀r3,(Eq r3 ((fIn a0.2.2.1 0 1099511627776),((),())))->(X00 r3.1 (Eq ((decide ((ln a0.2.2.2)<=(900:Int))),((),())) ((X9E a0),((),()))) (Eq (false,((),())) ((X9E a0),((),()))))) (Eq (false,((),())) ((X9E a0),((),()))))) (Eq (false,((),())) ((X9E a0),((),())))))
theorem X3C.p(a0:XjL)(h:True):X3C.F a0:=by
 delta X3C.F ln
 simp only[Bs,B0,B1,Yaa,X01]
 unfold X9E Xau
 refine⟨λh1=>⟨λh2=>⟨λh3=>?_,λh3=>?_⟩,λh2=>?_⟩,λh1=>?_⟩
 . try unfold Xau at h3
   rw[h1,h2,h3,YaT,YaT,YaT];exact Ydr.2 (by omega)
 . try unfold Xau at h3
   rw[h3];simp
 . rw[h2];simp
 . rw[h1];simp
def X3C.e:GE:=mE X8W func25 [4] [X29.e] [] noL (λi x=>X3C.F x) λi x h _ _=>X3C.p x h
def X9l:Con:=cQ XkE [.agg 4] .bool [(false,1)] (λ_=>True) λa=>(X9E a)
def X3M.F(a0:XjL):Prop:=(True/\∀r1,(Eq r1 ((fIn a0.1 0 4),((),())))->(X00 r1.1 (True/\∀r2,(Eq r2 ((fIn a0.2.1 0 100000),((),())))->(X00 r2.1 (True/\∀r3,(Eq r3 ((Xau a0.2.2.1),((),())))->(X00 r3.1 (Eq ((decide ((ln a0.2.2.2)<=(900:Int))),((),())) ((X9E a0),((),()))) (Eq (false,((),())) ((X9E a0),((),()))))) (Eq (false,((),())) ((X9E a0),((),()))))) (Eq (false,((),())) ((X9E a0),((),())))))
theorem X3M.p(a0:XjL)(h:True):X3M.F a0:=by
 delta X3M.F ln
 simp only[Bs,B0,B1,Yaa,X01]
 unfold X9E Xau
 refine⟨λh1=>⟨λh2=>⟨λh3=>?_,λh3=>?_⟩,λh2=>?_⟩,λh1=>?_⟩
 . try unfold Xau at h3
   rw[h1,h2,h3,YaT,YaT,YaT];exact Ydr.2 (by omega)
 . try unfold Xau at h3
   rw[h3];simp
 . rw[h2];simp
 . rw[h1];simp
def X3M.e:GE:=mE X9l func89 [4] [X0V.e,X4d.e] [] noL (λi x=>X3M.F x) λi x h _ _=>X3M.p x h
def Xai:Con:=cQ T0q [.one,.one] .bool [(false,1)] (λ_=>True) λa=>(Xds a.1 a.2)
def X2Q.F(a0:Int)(a1:Int):Prop:=(Eq ((decide ((wI ((wI (a0+(1:Int)))*(100:Int)))<=a1)),((),())) ((Xds a0 a1),((),())))
theorem X2Q.p(a0:Int)(a1:Int)(h:True):X2Q.F a0 a1:=by
 delta X2Q.F wI
 simp only[Bs,B0,B1,Yaa,X01,Xds]
def X2Q.e:GE:=mE Xai func28 [4] [] [] noL (λi x=>X2Q.F x.1 x.2) λi x h _ _=>X2Q.p x.1 x.2 h
def Xdt:Con:=cQ T0q [.one,.one] .bool [(false,1)] (λ_=>True) λa=>(Xds a.1 a.2)
def X5x.F(a0:Int)(a1:Int):Prop:=(Eq ((decide ((wI ((wI (a0+(1:Int)))*(100:Int)))<=a1)),((),())) ((Xds a0 a1),((),())))
theorem X5x.p(a0:Int)(a1:Int)(h:True):X5x.F a0 a1:=by
 delta X5x.F wI
 simp only[Bs,B0,B1,Yaa,X01,Xds]
def X5x.e:GE:=mE Xdt func90 [4] [] [] noL (λi x=>X5x.F x.1 x.2) λi x h _ _=>X5x.p x.1 x.2 h
def X9j:Con:=cQ (.int .i64) [.one] .bool [(false,1)] (λ_=>True) λa=>((λa=>fIn a 1 4) a)
def X3y.F(a0:Int):Prop:=(True/\∀r1,(Eq r1 ((fIn a0 1 4),((),())))->(Eq (r1.1,((),())) (((λa=>fIn a 1 4) a0),((),()))))
theorem X3y.p(a0:Int)(h:True):X3y.F a0:=by
 unfold X3y.F
 simp only[Bs,B0,B1,Yaa,X01]
def X3y.e:GE:=mE X9j func87 [4] [X0V.e] [] noL (λi x=>X3y.F x) λi x h _ _=>X3y.p x h
def X91:Con:=cQ (.int .i64) [.one] .bool [(false,1)] (λ_=>True) λa=>((λa=>fIn a 1 1000000) a)
def X3K.F(a0:Int):Prop:=(True/\∀r1,(Eq r1 ((fIn a0 1 1000000),((),())))->(Eq (r1.1,((),())) (((λa=>fIn a 1 1000000) a0),((),()))))
theorem X3K.p(a0:Int)(h:True):X3K.F a0:=by
 unfold X3K.F
 simp only[Bs,B0,B1,Yaa,X01]
def X3K.e:GE:=mE X91 func88 [4] [X0V.e] [] noL (λi x=>X3K.F x) λi x h _ _=>X3K.p x h
def X6V:Con:=cQ (.list T2q) [.one] .bool [(false,1)] (λ_=>True) λa=>(X4R a)
def X1H.F(a0:(List U7q)):Prop:=(eS [(0,.val false [.lst T2q a0 none]),(5,.val false [.lst T2q a0 none]),(6,.val false [.int .i64 (ln a0)])] [(0,.val false [.lst T2q a0 none]),(5,.val false [.lst T2q a0 none]),(6,.val false [.int .i64 (ln a0)])]/\((sxI a0 0)/\∀(y1:Int),(sxI a0 y1)->(X00 (decide (y1<(ln a0))) (0<=y1/\(y1<(ln a0)/\(True/\∀r2,(Eq r2 (((λa=>fIn a 1 4) ((List.getD a0 (tN y1) (0,(0,(0,(0,(0,[])))))).1)),((),())))->(X00 (!r2.1) (Eq (false,((),())) ((X4R a0),((),()))) (True/\∀r3,(Eq r3 (((λa=>fIn a 1 1000000) ((List.getD a0 (tN y1) (0,(0,(0,(0,(0,[])))))).2.1)),((),())))->(X00 (!r3.1) (Eq (false,((),())) ((X4R a0),((),()))) (True/\∀r4,(Eq r4 ((X9E ((List.getD a0 (tN y1) (0,(0,(0,(0,(0,[])))))).2.2.1,((List.getD a0 (tN y1) (0,(0,(0,(0,(0,[])))))).2.2.2.1,((List.getD a0 (tN y1) (0,(0,(0,(0,(0,[])))))).2.2.2.2.1,(List.getD a0 (tN y1) (0,(0,(0,(0,(0,[])))))).2.2.2.2.2)))),((),())))->(X00 (!r4.1) (Eq (false,((),())) ((X4R a0),((),()))) (X00 (decide (y1>(0:Int))) (0<=(wI (y1 - (1:Int)))/\((wI (y1 - (1:Int)))<(ln a0)/\(X00 (decide (((List.getD a0 (tN (wI (y1 - (1:Int)))) (0,(0,(0,(0,(0,[])))))).1)>=((List.getD a0 (tN y1) (0,(0,(0,(0,(0,[])))))).1))) (Eq (false,((),())) ((X4R a0),((),()))) (eS [(0,.val false [.lst T2q a0 none]),(5,.val false [.lst T2q a0 none]),(6,.val false [.int .i64 (ln a0)])] [(0,.val false [.lst T2q a0 none]),(5,.val false [.lst T2q a0 none]),(6,.val false [.int .i64 (ln a0)])]/\(sxI a0 (wI (y1+(1:Int))))/\(sxM a0 (wI (y1+(1:Int))))<(sxM a0 y1))))) (eS [(0,.val false [.lst T2q a0 none]),(5,.val false [.lst T2q a0 none]),(6,.val false [.int .i64 (ln a0)])] [(0,.val false [.lst T2q a0 none]),(5,.val false [.lst T2q a0 none]),(6,.val false [.int .i64 (ln a0)])]/\(sxI a0 (wI (y1+(1:Int))))/\(sxM a0 (wI (y1+(1:Int))))<(sxM a0 y1))))))))))) (Eq (true,((),())) ((X4R a0),((),()))))))
def X1H.L(a0:(List U7q)):Nat->Option X0e:=XLK [(26,⟨⟨[0,5,6],[7],[],[]⟩,(.int .i64),λst y=>sxI a0 y,λst y=>sxM a0 y⟩)]
theorem X1H.p(a0:(List U7q))(h:True)(hw:Wf X6V.A a0):X1H.F a0:=by
 delta X1H.F ln tN wI eS
 simp only[Bs,B0,B1,Yaa,X01,YaA]
 have hl:a0.length<=9223372036854775807:=hw.1
 refine⟨⟨by omega,by omega,λj hj=>absurd hj (by simp)⟩,?_⟩
 rintro i hI
 have q1:=hI.1
 have q2:=hI.2.1
 refine⟨λhi=>?_,λhi=>Xul hI hi⟩
 have K:=Xuz hI hi
 have dn:sxM a0 (i+1)<sxM a0 i:=by unfold sxM;omega
 rw[w64 (x:=i+1) (by omega) (by omega),w64 (x:=i - 1) (by omega) (by omega),show(i - 1).toNat=i.toNat - 1 by omega]
 refine⟨q1,hi,λc=>(K.n1 c).symm,λc1=>⟨λc=>(K.n2 c).symm,λc2=>⟨λc=>(K.n3 c).symm,λc3=>⟨λc4=>⟨by omega,by omega,λc=>(K.n4 c4 c).symm,λc=>⟨K.ok c1 c2 c3 (.inr c),dn⟩⟩,λc=>⟨K.ok c1 c2 c3 (.inl c),dn⟩⟩⟩⟩⟩
def X1H.e:GE:=mE X6V func47 [4] [X3y.e,X3K.e,X3M.e] [] (λi x=>X1H.L x) (λi x=>X1H.F x) λi x h _ hw=>X1H.p x h hw
def X7K:Con:=cQ (.pair X7m (.int .i64)) [.one,.one] .bool [(false,1)] (λ_=>True) λa=>(X6h a.1 a.2)
def X2e.F(a0:U9q)(a1:Int):Prop:=(eS [(0,.val false [.lst T0q a0 none]),(1,.val false [.int .i64 a1]),(7,.val false [.lst T0q a0 none]),(8,.val false [.int .i64 (ln a0)])] [(0,.val false [.lst T0q a0 none]),(1,.val false [.int .i64 a1]),(7,.val false [.lst T0q a0 none]),(8,.val false [.int .i64 (ln a0)])]/\((bkI a0 a1 0)/\∀(y1:Int),(bkI a0 a1 y1)->(X00 (decide (y1<(ln a0))) (0<=y1/\(y1<(ln a0)/\(True/\∀r2,(Eq r2 ((X6A 1099511627776),((),())))->(True/\∀r3,(Eq r3 ((fIn ((List.getD a0 (tN y1) (0,0)).1) 0 r2.1),((),())))->(X00 (!r3.1) (Eq (false,((),())) ((X6h a0 a1),((),()))) (True/\∀r4,(Eq r4 ((Xds ((List.getD a0 (tN y1) (0,0)).1) a1),((),())))->(X00 r4.1 (Eq (false,((),())) ((X6h a0 a1),((),()))) (True/\∀r5,(Eq r5 ((fIn ((List.getD a0 (tN y1) (0,0)).2) 0 1),((),())))->(X00 (!r5.1) (Eq (false,((),())) ((X6h a0 a1),((),()))) (X00 (decide (y1>(0:Int))) (0<=(wI (y1 - (1:Int)))/\((wI (y1 - (1:Int)))<(ln a0)/\(X00 (decide (((List.getD a0 (tN (wI (y1 - (1:Int)))) (0,0)).1)>=((List.getD a0 (tN y1) (0,0)).1))) (Eq (false,((),())) ((X6h a0 a1),((),()))) (eS [(0,.val false [.lst T0q a0 none]),(1,.val false [.int .i64 a1]),(7,.val false [.lst T0q a0 none]),(8,.val false [.int .i64 (ln a0)])] [(0,.val false [.lst T0q a0 none]),(1,.val false [.int .i64 a1]),(7,.val false [.lst T0q a0 none]),(8,.val false [.int .i64 (ln a0)])]/\(bkI a0 a1 (wI (y1+(1:Int))))/\(bkM a0 a1 (wI (y1+(1:Int))))<(bkM a0 a1 y1))))) (eS [(0,.val false [.lst T0q a0 none]),(1,.val false [.int .i64 a1]),(7,.val false [.lst T0q a0 none]),(8,.val false [.int .i64 (ln a0)])] [(0,.val false [.lst T0q a0 none]),(1,.val false [.int .i64 a1]),(7,.val false [.lst T0q a0 none]),(8,.val false [.int .i64 (ln a0)])]/\(bkI a0 a1 (wI (y1+(1:Int))))/\(bkM a0 a1 (wI (y1+(1:Int))))<(bkM a0 a1 y1)))))))))))) (Eq ((decide ((ln a0)<=(12:Int))),((),())) ((X6h a0 a1),((),()))))))
def X2e.L(a0:U9q)(a1:Int):Nat->Option X0e:=XLK [(26,⟨⟨[0,1,7,8],[9],[],[]⟩,(.int .i64),λst y=>bkI a0 a1 y,λst y=>bkM a0 a1 y⟩)]
theorem X2e.p(a0:U9q)(a1:Int)(h:True)(hw:Wf X7K.A (a0,a1)):X2e.F a0 a1:=by
 delta X2e.F ln tN wI eS
 simp only[Bs,B0,B1,Yaa,X01,YaA,Xkw]
 have hl:a0.length<=9223372036854775807:=hw.1.1
 refine⟨⟨by omega,by omega,λj hj=>absurd hj (by simp)⟩,?_⟩
 rintro i hI
 have q1:=hI.1
 have q2:=hI.2.1
 refine⟨λhi=>?_,λhi=>XsV hI hi⟩
 have K:=XuJ hI hi
 have dn:bkM a0 a1 (i+1)<bkM a0 a1 i:=by unfold bkM;omega
 rw[w64 (x:=i+1) (by omega) (by omega),w64 (x:=i - 1) (by omega) (by omega),show(i - 1).toNat=i.toNat - 1 by omega]
 refine⟨q1,hi,λc=>(K.n1 c).symm,λc1=>⟨λc=>(K.n2 c).symm,λc2=>⟨λc=>(K.n3 c).symm,λc3=>⟨λc4=>⟨by omega,by omega,λc=>(K.n4 c4 c).symm,λc=>⟨K.ok c1 c2 c3 (.inr c),dn⟩⟩,λc=>⟨K.ok c1 c2 c3 (.inl c),dn⟩⟩⟩⟩⟩
def X2e.e:GE:=mE X7K func50 [4] [X3L.e,X0V.e,X5x.e] [] (λi x=>X2e.L x.1 x.2) (λi x=>X2e.F x.1 x.2) λi x h _ hw=>X2e.p x.1 x.2 h hw
def X5r:Con:=cQ T8q [.agg 3] .bool [(false,1)] (λ_=>True) λa=>(XdS a)
def X1o.F(a0:X5E):Prop:=(X00 (a0.1==(0:Int)) (X00 ((ln a0.2.1)==(0:Int)) (Eq (((ln a0.2.2)==(0:Int)),((),())) ((XdS a0),((),()))) (Eq (false,((),())) ((XdS a0),((),())))) (Eq (false,((),())) ((XdS a0),((),()))))
theorem X1o.p(a0:X5E)(h:True):X1o.F a0:=by
 delta X1o.F ln
 simp only[Bs,B0,B1,Yaa,X01]
 unfold XdS
 refine⟨λh1=>⟨λh2=>?_,λh2=>?_⟩,λh1=>?_⟩
 . rw[Yaz h1,Yaz (by omega:a0.2.1.length=0),YaT,YaT,YbI];simp
 . rw[Yaw (by omega:¬a0.2.1.length=0)];simp
 . rw[Yaw h1];simp
def X1o.e:GE:=mE X5r func26 [4] [] [] noL (λi x=>X1o.F x) λi x h _ _=>X1o.p x h
def Xaa:Con:=cQ T4q [.agg 8] .bool [(false,1)] (λa=>(pSt a)) λa=>(X2W a)
def X4q.F(a0:U1q):Prop:=(True/\∀r1,(Eq r1 ((X4R a0.2.2.2.2.2),((),())))->(X00 (!r1.1) (Eq (false,((),())) ((X2W a0),((),()))) (X00 (a0.1==(1:Int)) (True/\∀r2,(Eq r2 ((fIn a0.2.1 0 100000),((),())))->(X00 r2.1 (True/\∀r3,(Eq r3 ((Xau a0.2.2.1),((),())))->(X00 r3.1 (True/\∀r4,(Eq r4 ((X6h a0.2.2.2.1 a0.2.2.1),((),())))->(X00 r4.1 (X00 (a0.2.2.2.2.1.1==(0:Int)) (Eq (((wI ((ln a0.2.2.2.2.1.2.1)+(ln a0.2.2.2.2.1.2.2)))==(0:Int)),((),())) ((X2W a0),((),()))) (Eq (false,((),())) ((X2W a0),((),())))) (Eq (false,((),())) ((X2W a0),((),()))))) (Eq (false,((),())) ((X2W a0),((),()))))) (Eq (false,((),())) ((X2W a0),((),()))))) (X00 (a0.1==(2:Int)) (X00 (a0.2.1==(0:Int)) (X00 (a0.2.2.1==(0:Int)) (X00 ((ln a0.2.2.2.1)==(0:Int)) ((Xg8 (a0.2.2.2.2.1.1,(a0.2.2.2.2.1.2.1,a0.2.2.2.2.1.2.2)))/\∀r5,(Eq r5 ((X3t (a0.2.2.2.2.1.1,(a0.2.2.2.2.1.2.1,a0.2.2.2.2.1.2.2))),((),())))->(Eq (r5.1,((),())) ((X2W a0),((),())))) (Eq (false,((),())) ((X2W a0),((),())))) (Eq (false,((),())) ((X2W a0),((),())))) (Eq (false,((),())) ((X2W a0),((),())))) (Eq (false,((),())) ((X2W a0),((),())))))))
theorem X4q.p(a0:U1q)(h:(pSt a0)):X4q.F a0:=by
 delta X4q.F ln wI
 simp only[Bs,B0,B1,Yaa,X01,YaA]
 obtain⟨hp,hl1,hl2⟩:=h
 have no:∀b,X4R a0.2.2.2.2.2=true->a0.1=1->(fIn a0.2.1 0 100000&&(Xau a0.2.2.1&&(X6h a0.2.2.2.1 a0.2.2.1&&XdS a0.2.2.2.2.1)))=b->b=X2W a0:=λb h h1 h2=>by unfold X2W;rw[h,Yah h1,h2,YaT]
 have no2:∀b,X4R a0.2.2.2.2.2=true->a0.1=2->(decide (a0.2.1=0)&&(decide (a0.2.2.1=0)&&(decide (a0.2.2.2.1.length=0)&&X3t a0.2.2.2.2.1)))=b->b=X2W a0:=λb h h1 h2=>by unfold X2W;rw[h,Yae (by omega),Yah h1,h2,YaT]
 have no3:¬a0.1=1->¬a0.1=2->false=X2W a0:=λh1 h2=>by unfold X2W;rw[Yae h1,Yae h2,YbK]
 have no0:X4R a0.2.2.2.2.2=false->false=X2W a0:=λh=>by unfold X2W;rw[h,Ybs]
 rw[w64 (x:=(a0.2.2.2.2.1.2.1.length:Int)+a0.2.2.2.2.1.2.2.length) (by omega) (by omega)]
 refine⟨no0,λh0=>⟨λh1=>⟨λh2=>⟨λh3=>⟨λh4=>⟨λh5=>no _ h0 h1 ?_,λh5=>no _ h0 h1 ?_⟩,λh4=>no _ h0 h1 (by simp[h4])⟩,λh3=>no _ h0 h1 (by simp[h3])⟩,λh2=>no _ h0 h1 (by simp[h2])⟩,λh1=>⟨λh1b=>⟨λh2=>⟨λh3=>⟨λh4=>⟨hp,no2 _ h0 h1b ?_⟩,λh4=>no2 _ h0 h1b ?_⟩,λh3=>no2 _ h0 h1b (by simp[h3])⟩,λh2=>no2 _ h0 h1b (by simp[h2])⟩,λh1b=>no3 h1 h1b⟩⟩⟩
 . rw[h2,h3,h4]
   unfold XdS
   rw[Yaz h5]
   simp only[YaT]
   rw[YbI]
   simp only[YbS,Yac,Yaj]
   omega
 . rw[h2,h3,h4];unfold XdS;rw[Yaw h5];rfl
 . rw[Yaz h2,Yaz h3,Yaz (by omega:a0.2.2.2.1.length=0)];simp
 . rw[Yaw (by omega:¬a0.2.2.2.1.length=0)];simp
def X4q.e:GE:=mE Xaa func20 [4] [X1H.e,X0V.e,X4d.e,X2e.e,X2H.e] [] noL (λi x=>X4q.F x) λi x h _ _=>X4q.p x h
def Xa4:Con:=cQ T4q [.agg 8] .bool [(false,1)] (λa=>(pSt a)) λa=>(X2W a)
def X3f.F(a0:U1q):Prop:=(X00 (decide ((ln a0.2.2.2.2.2)>(4:Int))) (Eq (false,((),())) ((X2W a0),((),()))) (eS [(1,.box 2 0)] [(1,.box 2 0)]/\((stI a0 0 a0.1 a0.2.1 a0.2.2.1 a0.2.2.2.1 a0.2.2.2.2.1.1 a0.2.2.2.2.1.2.1 a0.2.2.2.2.1.2.2 a0.2.2.2.2.2)/\∀(y1:(Int×(Int×(Int×(Int×(U9q×(Int×((List U3q)×((List U6q)×(List U7q)))))))))),(stI a0 y1.1 y1.2.1 y1.2.2.1 y1.2.2.2.1 y1.2.2.2.2.1 y1.2.2.2.2.2.1 y1.2.2.2.2.2.2.1 y1.2.2.2.2.2.2.2.1 y1.2.2.2.2.2.2.2.2)->(X00 (decide (y1.1<(ln y1.2.2.2.2.2.2.2.2))) (0<=y1.1/\(y1.1<(ln y1.2.2.2.2.2.2.2.2)/\(True/\∀r2,(Eq r2 ((fIn ((List.getD y1.2.2.2.2.2.2.2.2 (tN y1.1) (0,(0,(0,(0,(0,[])))))).1) 1 4),((),())))->(X00 (!r2.1) (Eq (false,((),())) ((X2W a0),((),()))) (X00 (decide (y1.1>(0:Int))) (0<=(wI (y1.1 - (1:Int)))/\((wI (y1.1 - (1:Int)))<(ln y1.2.2.2.2.2.2.2.2)/\(X00 (decide (((List.getD y1.2.2.2.2.2.2.2.2 (tN (wI (y1.1 - (1:Int)))) (0,(0,(0,(0,(0,[])))))).1)>=((List.getD y1.2.2.2.2.2.2.2.2 (tN y1.1) (0,(0,(0,(0,(0,[])))))).1))) (Eq (false,((),())) ((X2W a0),((),()))) (True/\∀r3,(Eq r3 ((fIn ((List.getD y1.2.2.2.2.2.2.2.2 (tN y1.1) (0,(0,(0,(0,(0,[])))))).2.1) 1 1000000),((),())))->(X00 (!r3.1) (Eq (false,((),())) ((X2W a0),((),()))) (True/\∀r4,(Eq r4 ((X9E ((List.getD y1.2.2.2.2.2.2.2.2 (tN y1.1) (0,(0,(0,(0,(0,[])))))).2.2.1,((List.getD y1.2.2.2.2.2.2.2.2 (tN y1.1) (0,(0,(0,(0,(0,[])))))).2.2.2.1,((List.getD y1.2.2.2.2.2.2.2.2 (tN y1.1) (0,(0,(0,(0,(0,[])))))).2.2.2.2.1,(List.getD y1.2.2.2.2.2.2.2.2 (tN y1.1) (0,(0,(0,(0,(0,[])))))).2.2.2.2.2)))),((),())))->(X00 (!r4.1) (Eq (false,((),())) ((X2W a0),((),()))) (eS [(1,.box 2 0)] [(1,.box 2 0)]/\(stI a0 (wI (y1.1+(1:Int))) y1.2.1 y1.2.2.1 y1.2.2.2.1 y1.2.2.2.2.1 y1.2.2.2.2.2.1 y1.2.2.2.2.2.2.1 y1.2.2.2.2.2.2.2.1 y1.2.2.2.2.2.2.2.2)/\(stM a0 (wI (y1.1+(1:Int))) y1.2.1 y1.2.2.1 y1.2.2.2.1 y1.2.2.2.2.1 y1.2.2.2.2.2.1 y1.2.2.2.2.2.2.1 y1.2.2.2.2.2.2.2.1 y1.2.2.2.2.2.2.2.2)<(stM a0 y1.1 y1.2.1 y1.2.2.1 y1.2.2.2.1 y1.2.2.2.2.1 y1.2.2.2.2.2.1 y1.2.2.2.2.2.2.1 y1.2.2.2.2.2.2.2.1 y1.2.2.2.2.2.2.2.2))))))))) (True/\∀r5,(Eq r5 ((fIn ((List.getD y1.2.2.2.2.2.2.2.2 (tN y1.1) (0,(0,(0,(0,(0,[])))))).2.1) 1 1000000),((),())))->(X00 (!r5.1) (Eq (false,((),())) ((X2W a0),((),()))) (True/\∀r6,(Eq r6 ((X9E ((List.getD y1.2.2.2.2.2.2.2.2 (tN y1.1) (0,(0,(0,(0,(0,[])))))).2.2.1,((List.getD y1.2.2.2.2.2.2.2.2 (tN y1.1) (0,(0,(0,(0,(0,[])))))).2.2.2.1,((List.getD y1.2.2.2.2.2.2.2.2 (tN y1.1) (0,(0,(0,(0,(0,[])))))).2.2.2.2.1,(List.getD y1.2.2.2.2.2.2.2.2 (tN y1.1) (0,(0,(0,(0,(0,[])))))).2.2.2.2.2)))),((),())))->(X00 (!r6.1) (Eq (false,((),())) ((X2W a0),((),()))) (eS [(1,.box 2 0)] [(1,.box 2 0)]/\(stI a0 (wI (y1.1+(1:Int))) y1.2.1 y1.2.2.1 y1.2.2.2.1 y1.2.2.2.2.1 y1.2.2.2.2.2.1 y1.2.2.2.2.2.2.1 y1.2.2.2.2.2.2.2.1 y1.2.2.2.2.2.2.2.2)/\(stM a0 (wI (y1.1+(1:Int))) y1.2.1 y1.2.2.1 y1.2.2.2.1 y1.2.2.2.2.1 y1.2.2.2.2.2.1 y1.2.2.2.2.2.2.1 y1.2.2.2.2.2.2.2.1 y1.2.2.2.2.2.2.2.2)<(stM a0 y1.1 y1.2.1 y1.2.2.1 y1.2.2.2.1 y1.2.2.2.2.1 y1.2.2.2.2.2.1 y1.2.2.2.2.2.2.1 y1.2.2.2.2.2.2.2.1 y1.2.2.2.2.2.2.2.2))))))))))) (X00 (y1.2.1==(1:Int)) (True/\∀r7,(Eq r7 ((fIn y1.2.2.1 0 100000),((),())))->(X00 (!r7.1) (Eq (false,((),())) ((X2W a0),((),()))) (True/\∀r8,(Eq r8 ((fIn y1.2.2.2.1 0 1099511627776),((),())))->(X00 (!r8.1) (Eq (false,((),())) ((X2W a0),((),()))) (X00 (decide ((ln y1.2.2.2.2.1)>(12:Int))) (Eq (false,((),())) ((X2W a0),((),()))) (True/\∀r9,(Eq r9 ((XdS (y1.2.2.2.2.2.1,(y1.2.2.2.2.2.2.1,y1.2.2.2.2.2.2.2.1))),((),())))->(X00 (!r9.1) (Eq (false,((),())) ((X2W a0),((),()))) (eS [(1,.box 2 0)] [(1,.box 2 0)]/\((suI a0 0 y1.2.1 y1.2.2.1 y1.2.2.2.1 y1.2.2.2.2.1 y1.2.2.2.2.2.1 y1.2.2.2.2.2.2.1 y1.2.2.2.2.2.2.2.1 y1.2.2.2.2.2.2.2.2)/\∀(y10:(Int×(Int×(Int×(Int×(U9q×(Int×((List U3q)×((List U6q)×(List U7q)))))))))),(suI a0 y10.1 y10.2.1 y10.2.2.1 y10.2.2.2.1 y10.2.2.2.2.1 y10.2.2.2.2.2.1 y10.2.2.2.2.2.2.1 y10.2.2.2.2.2.2.2.1 y10.2.2.2.2.2.2.2.2)->(X00 (decide (y10.1<(ln y10.2.2.2.2.1))) (0<=y10.1/\(y10.1<(ln y10.2.2.2.2.1)/\(True/\∀r11,(Eq r11 ((X6A 1099511627776),((),())))->(True/\∀r12,(Eq r12 ((fIn ((List.getD y10.2.2.2.2.1 (tN y10.1) (0,0)).1) 0 r11.1),((),())))->(X00 (!r12.1) (Eq (false,((),())) ((X2W a0),((),()))) (X00 (decide (y10.1>(0:Int))) (0<=(wI (y10.1 - (1:Int)))/\((wI (y10.1 - (1:Int)))<(ln y10.2.2.2.2.1)/\(X00 (decide (((List.getD y10.2.2.2.2.1 (tN (wI (y10.1 - (1:Int)))) (0,0)).1)>=((List.getD y10.2.2.2.2.1 (tN y10.1) (0,0)).1))) (Eq (false,((),())) ((X2W a0),((),()))) (True/\∀r13,(Eq r13 ((Xds ((List.getD y10.2.2.2.2.1 (tN y10.1) (0,0)).1) y10.2.2.2.1),((),())))->(X00 r13.1 (Eq (false,((),())) ((X2W a0),((),()))) (True/\∀r14,(Eq r14 ((fIn ((List.getD y10.2.2.2.2.1 (tN y10.1) (0,0)).2) 0 1),((),())))->(X00 (!r14.1) (Eq (false,((),())) ((X2W a0),((),()))) (eS [(1,.box 2 0)] [(1,.box 2 0)]/\(suI a0 (wI (y10.1+(1:Int))) y10.2.1 y10.2.2.1 y10.2.2.2.1 y10.2.2.2.2.1 y10.2.2.2.2.2.1 y10.2.2.2.2.2.2.1 y10.2.2.2.2.2.2.2.1 y10.2.2.2.2.2.2.2.2)/\(suM a0 (wI (y10.1+(1:Int))) y10.2.1 y10.2.2.1 y10.2.2.2.1 y10.2.2.2.2.1 y10.2.2.2.2.2.1 y10.2.2.2.2.2.2.1 y10.2.2.2.2.2.2.2.1 y10.2.2.2.2.2.2.2.2)<(suM a0 y10.1 y10.2.1 y10.2.2.1 y10.2.2.2.1 y10.2.2.2.2.1 y10.2.2.2.2.2.1 y10.2.2.2.2.2.2.1 y10.2.2.2.2.2.2.2.1 y10.2.2.2.2.2.2.2.2))))))))) (True/\∀r15,(Eq r15 ((Xds ((List.getD y10.2.2.2.2.1 (tN y10.1) (0,0)).1) y10.2.2.2.1),((),())))->(X00 r15.1 (Eq (false,((),())) ((X2W a0),((),()))) (True/\∀r16,(Eq r16 ((fIn ((List.getD y10.2.2.2.2.1 (tN y10.1) (0,0)).2) 0 1),((),())))->(X00 (!r16.1) (Eq (false,((),())) ((X2W a0),((),()))) (eS [(1,.box 2 0)] [(1,.box 2 0)]/\(suI a0 (wI (y10.1+(1:Int))) y10.2.1 y10.2.2.1 y10.2.2.2.1 y10.2.2.2.2.1 y10.2.2.2.2.2.1 y10.2.2.2.2.2.2.1 y10.2.2.2.2.2.2.2.1 y10.2.2.2.2.2.2.2.2)/\(suM a0 (wI (y10.1+(1:Int))) y10.2.1 y10.2.2.1 y10.2.2.2.1 y10.2.2.2.2.1 y10.2.2.2.2.2.1 y10.2.2.2.2.2.2.1 y10.2.2.2.2.2.2.2.1 y10.2.2.2.2.2.2.2.2)<(suM a0 y10.1 y10.2.1 y10.2.2.1 y10.2.2.2.1 y10.2.2.2.2.1 y10.2.2.2.2.2.1 y10.2.2.2.2.2.2.1 y10.2.2.2.2.2.2.2.1 y10.2.2.2.2.2.2.2.2)))))))))))) (Eq (true,((),())) ((X2W a0),((),()))))))))))))) (X00 (y1.2.1==(2:Int)) (X00 (y1.2.2.1==(0:Int)) (X00 (y1.2.2.2.1==(0:Int)) (X00 ((ln y1.2.2.2.2.1)==(0:Int)) ((Xg8 (y1.2.2.2.2.2.1,(y1.2.2.2.2.2.2.1,y1.2.2.2.2.2.2.2.1)))/\∀r17,(Eq r17 ((X3t (y1.2.2.2.2.2.1,(y1.2.2.2.2.2.2.1,y1.2.2.2.2.2.2.2.1))),((),())))->(Eq (r17.1,((),())) ((X2W a0),((),())))) (Eq (false,((),())) ((X2W a0),((),())))) (Eq (false,((),())) ((X2W a0),((),())))) (Eq (false,((),())) ((X2W a0),((),())))) (Eq (false,((),())) ((X2W a0),((),())))))))))
def X3f.L(a0:U1q):Nat->Option X0e:=XLK [(58,⟨⟨[1],[3],[2],[]⟩,T17q,λst y=>stI a0 y.1 y.2.1 y.2.2.1 y.2.2.2.1 y.2.2.2.2.1 y.2.2.2.2.2.1 y.2.2.2.2.2.2.1 y.2.2.2.2.2.2.2.1 y.2.2.2.2.2.2.2.2,λst y=>stM a0 y.1 y.2.1 y.2.2.1 y.2.2.2.1 y.2.2.2.2.1 y.2.2.2.2.2.1 y.2.2.2.2.2.2.1 y.2.2.2.2.2.2.2.1 y.2.2.2.2.2.2.2.2⟩),(7850,⟨⟨[1],[5],[2],[]⟩,T17q,λst y=>suI a0 y.1 y.2.1 y.2.2.1 y.2.2.2.1 y.2.2.2.2.1 y.2.2.2.2.2.1 y.2.2.2.2.2.2.1 y.2.2.2.2.2.2.2.1 y.2.2.2.2.2.2.2.2,λst y=>suM a0 y.1 y.2.1 y.2.2.1 y.2.2.2.1 y.2.2.2.2.1 y.2.2.2.2.2.1 y.2.2.2.2.2.2.1 y.2.2.2.2.2.2.2.1 y.2.2.2.2.2.2.2.2⟩)]
theorem X3f.p(a0:U1q)(h:(pSt a0))(hw:Wf Xa4.A a0):X3f.F a0:=by
 delta X3f.F ln tN wI eS
 simp only[Bs,B0,B1,Yaa,X01,YaA,Xkw]
 obtain⟨hp,hl1,hl2⟩:=h
 have no:∀b,X4R a0.2.2.2.2.2=true->a0.1=1->(fIn a0.2.1 0 100000&&(Xau a0.2.2.1&&(X6h a0.2.2.2.1 a0.2.2.1&&XdS a0.2.2.2.2.1)))=b->b=X2W a0:=λb h h1 h2=>by unfold X2W;rw[h,Yah h1,h2,YaT]
 have no2:∀b,X4R a0.2.2.2.2.2=true->a0.1=2->(decide (a0.2.1=0)&&(decide (a0.2.2.1=0)&&(decide (a0.2.2.2.1.length=0)&&X3t a0.2.2.2.2.1)))=b->b=X2W a0:=λb h h1 h2=>by unfold X2W;rw[h,Yae (by omega),Yah h1,h2,YaT]
 have no3:¬a0.1=1->¬a0.1=2->false=X2W a0:=λh1 h2=>by unfold X2W;rw[Yae h1,Yae h2,YbK]
 have no0:X4R a0.2.2.2.2.2=false->false=X2W a0:=λh=>by unfold X2W;rw[h,Ybs]
 have hw1:a0.2.2.2.2.2.length<=9223372036854775807:=hw.2.2.2.2.2.1
 have hw2:a0.2.2.2.1.length<=9223372036854775807:=hw.2.2.2.1.1
 refine⟨λh0=>no0 ?_,λh0=>⟨⟨rfl,by omega,by omega,λj hj=>absurd hj (by simp)⟩,?_⟩⟩
 . rw[Ybk];intro hs;have:=XoY hs;omega
 rintro⟨i,k,hh,m,b,f,c,g,s⟩ ⟨ea,hI⟩
 simp only at ea hI ⊢
 subst ea
 simp only at*
 have q1:=hI.1
 have q2:=hI.2.1
 refine⟨λhi=>?_,λhi=>?_⟩
 . have K:=Xuz hI hi
   have st:∀{P:Prop},P->sxM s (i+1)<sxM s i/\P:=λh=>⟨by unfold sxM;omega,h⟩
   have dn:sxM s (i+1)<sxM s i:=by unfold sxM;omega
   rw[w64 (x:=i+1) (by omega) (by omega),w64 (x:=i - 1) (by omega) (by omega),show(i - 1).toNat=i.toNat - 1 by omega]
   refine⟨q1,hi,λc=>no0 (K.n1 c),λc1=>⟨λc4=>⟨by omega,by omega,λc=>no0 (K.n4 c4 c),λc5=>⟨λc=>no0 (K.n2 c),λc2=>⟨λc=>no0 (K.n3 c),λc3=>⟨⟨rfl,K.ok c1 c2 c3 (.inr c5)⟩,dn⟩⟩⟩⟩,λc4=>⟨λc=>no0 (K.n2 c),λc2=>⟨λc=>no0 (K.n3 c),λc3=>⟨⟨rfl,K.ok c1 c2 c3 (.inl c4)⟩,dn⟩⟩⟩⟩⟩
 have hs:X4R s=true:=(Xul hI hi).symm
 refine⟨λh1=>⟨λh2=>no _ hs h1 (by simp[h2]),λh2=>⟨λh3=>no _ hs h1 (by unfold Xau;simp[h3]),λh3=>⟨λh4=>no _ hs h1 ?_,λh4=>⟨λh5=>no _ hs h1 (by simp[h5]),λh5=>⟨⟨rfl,by omega,by omega,λj hj=>absurd hj (by simp)⟩,?_⟩⟩⟩⟩⟩,λh1=>⟨λh1b=>⟨λh2=>⟨λh3=>⟨λh4=>⟨hp,no2 _ hs h1b ?_⟩,λh4=>no2 _ hs h1b ?_⟩,λh3=>no2 _ hs h1b (by simp[h3])⟩,λh2=>no2 _ hs h1b (by simp[h2])⟩,λh1b=>no3 h1 h1b⟩⟩
 . unfold X6h;rw[Yaw (by omega:¬b.length<=12)];simp
 . rintro⟨i',k',hh',m',b',f',c',g',s'⟩ ⟨ea,hJ⟩
   simp only at ea hJ ⊢
   obtain⟨rfl,rfl,rfl,rfl,⟨rfl,rfl,rfl⟩,rfl⟩:k=k'/\hh=hh'/\m=m'/\b=b'/\(f=f'/\c=c'/\g=g')/\s=s':=by
    simp only[Yaa]at ea;exact⟨ea.1,ea.2.1,ea.2.2.1,ea.2.2.2.1,⟨ea.2.2.2.2.1.1,ea.2.2.2.2.1.2.1,ea.2.2.2.2.1.2.2⟩,ea.2.2.2.2.2⟩
   have r1:=hJ.1
   have r2:=hJ.2.1
   refine⟨λhi'=>?_,λhi'=>?_⟩
   . have K:=XuJ hJ hi'
     have bad:X6h b m=false->false=X2W (k,hh,m,b,(f,c,g),s):=λh=>no _ hs h1 (by simp[h])
     have dn:bkM b m (i'+1)<bkM b m i':=by unfold bkM;omega
     rw[w64 (x:=i'+1) (by omega) (by omega),w64 (x:=i' - 1) (by omega) (by omega),show(i' - 1).toNat=i'.toNat - 1 by omega]
     refine⟨r1,hi',λc=>bad (K.n1 c),λc1=>⟨λc4=>⟨by omega,by omega,λc=>bad (K.n4 c4 c),λc5=>⟨λc=>bad (K.n2 c),λc2=>⟨λc=>bad (K.n3 c),λc3=>⟨⟨rfl,K.ok c1 c2 c3 (.inr c5)⟩,dn⟩⟩⟩⟩,λc4=>⟨λc=>bad (K.n2 c),λc2=>⟨λc=>bad (K.n3 c),λc3=>⟨⟨rfl,K.ok c1 c2 c3 (.inl c4)⟩,dn⟩⟩⟩⟩⟩
   . have hb:X6h b m=true:=by rw[<-XsV hJ hi'];exact Yaz (by omega)
     exact no _ hs h1 (by rw[h2,hb,h5];unfold Xau;rw[h3];rfl)
 . rw[Yaz h2,Yaz h3,Yaz (by omega:b.length=0)];simp
 . rw[Yaw (by omega:¬b.length=0)];simp
def X3f.e:GE:=mE Xa4 func10 [4] [X29.e,X3C.e,X1o.e,X3a.e,X2Q.e,X2E.e] [] (λi x=>X3f.L x) (λi x=>X3f.F x) λi x h _ hw=>X3f.p x h hw
theorem Xor{α:Type}(n:α->Nat)(l:List α):l.length<=nL n l:=Nat.le_add_right ..
theorem XwS{s:Stt}(h:WfD T4q s)(hn:Xcx s<=1048576):pSt s:=by
 unfold Xcx at hn
 refine⟨⟨λx hx=>(h.2.2.2.2.1.2.1.2 x hx).1,λf hf=>h.2.2.2.2.1.2.2.2 f hf⟩,?_,?_⟩
 . have he:X7G s.2.2.2.2.1<=1048576:=by omega
   have:s.2.2.2.2.1.2.1.length<=X7G s.2.2.2.2.1:=Ya5 (Xor X35 s.2.2.2.2.1.2.1) (Nat.le_add_right _ _)
   omega
 . have he:X7G s.2.2.2.2.1<=1048576:=by omega
   have:s.2.2.2.2.1.2.2.length<=X7G s.2.2.2.2.1:=Ya5 (Xor _ s.2.2.2.2.1.2.2) (Nat.le_add_left _ (nL X35 s.2.2.2.2.1.2.1))
   omega
def Xeo(e:Eng)(k:Str)(a b:Int):List Pt:=if X3t e=true then X1Z (X4M (X0k e).1 k) a b else []
theorem Xd4{e:Eng}(h:XcZ e=true):(0<=e.1/\e.1<=1099511627776)/\X0M e.2.1=true/\Xf0 e.2.1<=40/\e.2.2.length<=4/\Xlk e.2.1 e=false:=by
 unfold XcZ Xau fIn at h
 simp only[Yac,Yaj,YaP]at h
 exact⟨h.1,h.2.1,h.2.2.1,h.2.2.2.1,h.2.2.2.2⟩
theorem X8j{e:Eng}(h:X3t e=true):XcZ e=true/\okF e.2.2=true/\X3R e=((X0k e).1,true)/\X0M (X0k e).1=true:=by
 have h0:=h
 unfold X3t X3R at h
 split at h
 . rename_i h1
   split at h
   . rename_i h2
     refine⟨h1,by rw[<-Xm1];exact h2,?_,h⟩
     unfold X3R;rw[Yah h1,Yah h2,show X0M (X0k e).1=true from h]
   . cases h
 . cases h
theorem Xi6(e:Eng):(X3R e).2=X3t e:=rfl
theorem XfL{e:Eng}(h:okF e.2.2=true):XhX e=(XaL e.2.2++[e.2.1],true):=by unfold XhX;rw[Yah h]
theorem XqY{e:Eng}(hc:Xd0 e.2.1):Xd0 (X0k e).1:=by
 unfold X0k;split
 . exact Xpw (X7l (XdJ _ [] Xgk (Xj3 _)) hc.2) _
 . exact Xgk
theorem Xsn{e:Eng}(hc:Xd0 e.2.1)(ho:okF e.2.2=true)(k:Str):X4M (X0k e).1 k=XaZ (XaL e.2.2++[e.2.1]) e.1 k:=by
 have hR:Xd0 (X4w (XaL e.2.2)):=XdJ _ [] Xgk (Xj3 _)
 unfold X0k
 rw[Yah ho]
 rw[(X4E (X7l hR hc.2).1 _ k).1,X7n hR.1 (λx hx=>(hc.2 x hx).1) hc.1]
 unfold XaZ
 rw[Xuh]
 congr 2
 rw[show X4w (XaL e.2.2)=(XaL e.2.2).foldl X4D [] from rfl,Xh2 _ [] Xgk (Xj3 _)];rfl
theorem XxZ{l:List Ser}(h:Xgt l){k:Str}(hk:X8F l k=true):(l.getD (pos Op.bytesLess Prod.fst k l) ([],[])).2=X4M l k:=by
 obtain⟨p1,p2⟩:=XgL h hk
 have hm:=X1a (d:=(([]:Str),([]:List Pt))) p1
 have:=((XdX h).1 hm).2
 rw[p2]at this;exact this.symm
theorem Xvr{l:List Ser}(h:X0M l=true):tot l<=305:=(X39 h).2.1
def Xs7(e:Eng)(k:Str)(a b:Int):Prop:=Xg8 e
def Xc2:Con:=cW (.pair T8q (.pair .str T0q)) [.agg 3,.one,.one,.one] X7m [(false,1)] [(0,107)] (λa=>(Xs7 a.1 a.2.1 a.2.2.1 a.2.2.2)) λa=>(Xeo a.1 a.2.1 a.2.2.1 a.2.2.2)
def X5y.F(a0:X5E)(a1:U6q)(a2:Int)(a3:Int):Prop:=((Xg8 (a0.1,(a0.2.1,a0.2.2)))/\∀r1,(Eq r1 ((X3R (a0.1,(a0.2.1,a0.2.2))),((),())))->(X00 (!r1.1.2) (Eq (([]:U9q),((),())) ((Xeo a0 a1 a2 a3),((),()))) ((pSf r1.1.1 a1)/\∀r2,(Eq r2 ((fSf r1.1.1 a1),((),())))->(X00 (!r2.1.2) (Eq (([]:U9q),((),())) ((Xeo a0 a1 a2 a3),((),()))) (0<=r2.1.1/\(r2.1.1<(ln r1.1.1)/\((X8g ((List.getD r1.1.1 (tN r2.1.1) ([],[])).2) a2 a3)/\∀r3,(Eq r3 ((X1Z ((List.getD r1.1.1 (tN r2.1.1) ([],[])).2) a2 a3),((),())))->(Eq (r3.1,((),())) ((Xeo a0 a1 a2 a3),((),()))))))))))
theorem X5y.p(a0:X5E)(a1:U6q)(a2:Int)(a3:Int)(h:(Xs7 a0 a1 a2 a3)):X5y.F a0 a1 a2 a3:=by
 delta X5y.F ln tN
 simp only[Bs,B0,B1,Yaa,X01,YaA,pSf,Xwy]
 have hp:Xg8 a0:=h
 refine⟨hp,λh1=>?_,λh1=>?_⟩
 . unfold Xeo;rw[Yae (by rw[<-Xi6,h1];decide)]
 have h1:X3t a0=true:=h1
 obtain⟨g1,g2,g3,g4⟩:=X8j h1
 obtain⟨s1,s2,s3,s4⟩:=X39 g4
 rw[g3]
 simp only
 refine⟨⟨s1.1,by omega⟩,λh2=>?_,λh2=>?_⟩
 . have h3:X8F (X0k a0).1 a1=false:=h2
   unfold Xeo;rw[Yah h1,XeS h3,XgN]
 . have h3:X8F (X0k a0).1 a1=true:=h2
   obtain⟨p1,p2⟩:=XgL s1.1 h3
   have e1:(fSf (X0k a0).1 a1).1=((pos Op.bytesLess Prod.fst a1 (X0k a0).1:Nat):Int):=rfl
   have e2:=XxZ s1.1 h3
   have e3:=XnJ (X0k a0).1 a1
   rw[e1,YaE,e2]
   refine⟨by omega,by omega,by unfold X8g;omega,?_⟩
   unfold Xeo;rw[Yah h1]
def X5y.e:GE:=mE Xc2 func103 [91] [X1O.e,X2B.e,X4L.e] [] noL (λi x=>X5y.F x.1 x.2.1 x.2.2.1 x.2.2.2) λi x h _ _=>X5y.p x.1 x.2.1 x.2.2.1 x.2.2.2 h
theorem Xvp{n:Nat}(h:¬fSz n 1048576<0):fSz n 1048576=1048576 - (n:Int):=Xe4 (by have:=Xs8 h;omega)
theorem Xvk{n:Nat}{l:Int}(h:¬fSz n l<0):(n:Int)<=l:=by
 by_cases hc:l<(n:Int)
 . rw[XdQ hc]at h;exact absurd (by decide) h
 . omega
theorem Xwj{α:Type}(n:α->Nat)(x:α)(l:List α):nL n (x::l)=1+n x+nL n l:=by
 unfold nL Xqb;rw[Yat,Yat,Yaq,List.sum_cons,Yad];omega
theorem Xs3:∀l:List (Int×Int),cL X1u l=2*l.length
 | []=>by simp[cL]
 | x::l=>by rw[X4y,Xs3 l,show X1u x=2 from rfl,Yad];omega
theorem Xr8:∀l:List Ser,0<=cL X0v l/\cL X0v l<=2*tot l
 | []=>by simp[cL,tot]
 | x::l=>by
   have h1:=Xr8 l
   have h2:=Xs3 x.2
   have h3:tot (x::l)=cS x+tot l:=X4y ..
   have h4:X0v x=1+cL X1u x.2:=rfl
   have h5:cS x=(x.2.length:Int)+1:=rfl
   rw[X4y];omega
theorem XuF:∀l:List Ser,tot l<=nL X35 l
 | []=>by simp[nL,tot,cL,Xqb]
 | x::l=>by
   have h1:=XuF l
   have h2:X35 x=x.1.length+x.2.length:=rfl
   have h3:tot (x::l)=cS x+tot l:=X4y ..
   have h5:cS x=(x.2.length:Int)+1:=rfl
   rw[Xwj];omega
theorem XuI:∀l:List Str,cL XdE l=l.length
 | []=>by simp[cL]
 | x::l=>by rw[X4y,XuI l,show XdE x=1 from rfl,Yad];omega
def Xww(l:List Str):List Str:=l
def XxP(l:List Str):Prop:=l.length<=1099511627776
def fIdS(l:List Ser):List Ser:=l
def pIdS(l:List Ser):Prop:=tot l<=100000000
structure cqI (l:List Ser) (i:Int) (out:List Ser):Prop where
 h1:0<=i
 h2:i<=l.length
 h3:out=l.take i.toNat
 h4:(out.length:Int)=i
def cqM(l:List Ser)(i:Int)(out:List Ser):Nat:=(l.length - i).toNat
theorem Xsb{l:List Ser}{i:Int}{out o':List Ser}(h:cqI l i out)(hi:i<l.length)(ho:o'=out++[l.getD i.toNat ([],[])]):cqI l (i+1) o':=by
 obtain⟨h1,h2,h3,h4⟩:=h
 subst ho
 refine⟨by omega,by omega,?_,by simp;omega⟩
 rw[tn1 h1,X0J ([],[]) (by omega),h3]
theorem Xux{l:List Ser}{i:Int}{out:List Ser}(h:cqI l i out)(hi:¬i<l.length):out=l:=by
 obtain⟨h1,h2,h3,h4⟩:=h
 rw[h3,show i.toNat=l.length by omega,Yat]
def Xoc(e:Eng):Eng:=e
def XpU(e:Eng):Prop:=tot e.2.1<=100000000/\e.2.2.length<=100000000
theorem Xoz{e:Eng}(h:X3t e=true):XpU e:=by
 obtain⟨g1,g2,g3,g4⟩:=X8j h
 obtain⟨k1,k2,k3,k4,k5⟩:=Xd4 g1
 obtain⟨s1,s2,s3,s4⟩:=X39 k2
 exact⟨by omega,by omega⟩
def XaJ(e:Eng)(t:Int):Eng:=if e.1<t/\t<=1099511627776 then(t,X0X e.2.1 t,e.2.2) else e
def Xom(e:Eng)(t:Int):Prop:=tot e.2.1<=100000000
def Xbu(e:Eng)(t:Int):Eng:=if X3t e=true then XaJ e t else(0,[],[])
def Xsd(e:Eng)(t:Int):Prop:=Xg8 e
theorem Xru(e:Eng)(t:Int):tot (Xbu e t).2.1<=2000000/\(Xbu e t).2.2.length<=2000000:=by
 unfold Xbu;split
 . rename_i h
   obtain⟨g1,g2,g3,g4⟩:=X8j h
   obtain⟨k1,k2,k3,k4,k5⟩:=Xd4 g1
   obtain⟨s1,s2,s3,s4⟩:=X39 k2
   have:=XkK e.2.1 t
   unfold XaJ;split
   . exact⟨by show tot (X0X e.2.1 t)<=_;omega,by show e.2.2.length<=_;omega⟩
   . exact⟨by omega,by omega⟩
 . simp[tot,cL]
def X3n:Con:=cW Xf4 [.one] Xf4 [(false,1)] [(0,9)] (λa=>(XxP a)) λa=>(Xww a)
def X0y.F(a0:(List U6q)):Prop:=(∀(b1:Bool),(b1=true->a0=[])->(X00 b1 (Eq (([]:(List U6q)),((),())) ((Xww a0),((),()))) (List.length ([]:List U6q)+List.length a0<=9223372036854775807/\((List.length ([]:List U6q)+List.length a0)*16<=140737488355328/\(Eq ((([]:List U6q)++a0),((),())) ((Xww a0),((),())))))))
theorem X0y.p(a0:(List U6q))(h:(XxP a0))(hw:Wf X3n.A a0):X0y.F a0:=by
 unfold X0y.F
 have hp:a0.length<=1099511627776:=h
 simp only[Bs,B0,B1,Yaa,X01,Xww,XxP]
 repeat' (with_reducible (first | (refine And.intro ?_ ?_) | intro _))
 all_goals (try simp (disch:=omega) only[w64,wu8,tn0,tn1,tm1,tm2,Yab,Yad,Yai]at*)
 all_goals (try simp (disch:=omega) only[w64,wu8,tn0,tn1,tm1,tm2,Yab,Yad,Yai]at*)
 all_goals (try omega)
 all_goals (try grind[])
 all_goals (try simp_all)
def X0y.e:GE:=mE X3n func139 [26] [] [] noL (λi x=>X0y.F x) λi x h _ hw=>X0y.p x h hw
def X73:Con:=cW X5m [.one] X5m [(false,1)] [(0,109)] (λa=>(pIdS a)) λa=>(fIdS a)
def X1F.F(a0:(List U3q)):Prop:=(eS [(7,.val false [.lst T5q a0 none]),(8,.val false [.int .i64 (ln a0)])] [(7,.val false [.lst T5q a0 none]),(8,.val false [.int .i64 (ln a0)])]/\((cqI a0 0 ([]:List U3q))/\∀(y1:(Int×(List U3q))),(cqI a0 y1.1 y1.2)->(X00 (decide (y1.1<(ln a0))) (0<=y1.1/\(y1.1<(ln a0)/\((XjG ((List.getD a0 (tN y1.1) ([],[])).2))/\∀r2,(Eq r2 ((Xqz ((List.getD a0 (tN y1.1) ([],[])).2)),((),())))->(List.length y1.2+List.length ([((List.getD a0 (tN y1.1) ([],[])).1,r2.1)]:List U3q)<=9223372036854775807/\((List.length y1.2+List.length ([((List.getD a0 (tN y1.1) ([],[])).1,r2.1)]:List U3q))*40<=140737488355328/\(eS [(7,.val false [.lst T5q a0 none]),(8,.val false [.int .i64 (ln a0)])] [(7,.val false [.lst T5q a0 none]),(8,.val false [.int .i64 (ln a0)])]/\(cqI a0 (wI (y1.1+(1:Int))) (y1.2++[((List.getD a0 (tN y1.1) ([],[])).1,r2.1)]))/\(cqM a0 (wI (y1.1+(1:Int))) (y1.2++[((List.getD a0 (tN y1.1) ([],[])).1,r2.1)]))<(cqM a0 y1.1 y1.2))))))) (Eq (y1.2,((),())) ((fIdS a0),((),()))))))
def X1F.L(a0:(List U3q)):Nat->Option X0e:=XLK [(58,⟨⟨[7,8],[3,9],[],[kC 3 0 1000387 109]⟩,(.pair (.int .i64) X5m),λst y=>cqI a0 y.1 y.2,λst y=>cqM a0 y.1 y.2⟩)]
theorem X1F.p(a0:(List U3q))(h:(pIdS a0)):X1F.F a0:=by
 delta X1F.F ln tN wI eS
 simp only[Bs,B0,B1,Yaa,X01,Xqz,XjG,YaA]
 have hn:tot a0<=100000000:=h
 have k1:=XaG a0
 refine⟨⟨by omega,by omega,rfl,rfl⟩,?_⟩
 rintro⟨i,out⟩ hI
 simp only at hI ⊢
 have q1:=hI.h1
 have q2:=hI.h2
 have q4:=hI.h4
 refine⟨λhi=>?_,λhi=>Xux hI hi⟩
 have dn:∀o,cqM a0 (i+1) o<cqM a0 i out:=λo=>by unfold cqM;omega
 rw[w64 (x:=i+1) (by omega) (by omega)]
 have k2:=Xft (X1a (d:=(([]:List UInt8),([]:List Pt))) (by omega:i.toNat<a0.length))
 exact⟨q1,hi,by omega,by omega,by omega,Xsb hI hi rfl,dn _⟩
def X1F.e:GE:=mE X73 func138 [25] [X0f.e] [] (λi x=>X1F.L x) (λi x=>X1F.F x) λi x h _ _=>X1F.p x h
def X7j:Con:=cW T8q [.agg 3] T8q [(true,3)] [(1,109),(2,9)] (λa=>(XpU a)) λa=>(Xoc a)
def X1l.F(a0:X5E):Prop:=((pIdS a0.2.1)/\∀r1,(Eq r1 ((fIdS a0.2.1),((),())))->((XxP a0.2.2)/\∀r2,(Eq r2 ((Xww a0.2.2),((),())))->(Eq ((a0.1,(r1.1,r2.1)),((),())) ((Xoc a0),((),())))))
theorem X1l.p(a0:X5E)(h:(XpU a0)):X1l.F a0:=by
 unfold X1l.F
 simp only[Bs,B0,B1,Yaa,X01,Xww,XxP,fIdS,pIdS,Xoc]
 obtain⟨h1,h2⟩:=h
 exact⟨h1,by omega⟩
def X1l.e:GE:=mE X7j func93 [28] [X1F.e,X0y.e] [] noL (λi x=>X1l.F x) λi x h _ _=>X1l.p x h
structure lcI (a:Eng) (i f:Int) (c:List Ser) (g:List Str) (z0:Int) (z2:List Str) (o0:Int) (z1 o1:List Ser) (o2:List Str):Prop where
 ec:c=a.2.1
 e0:o0=a.1
 e2:o2=a.2.2
 I:cqI a.2.1 i o1
def lcM(a:Eng)(i f:Int)(c:List Ser)(g:List Str)(z0:Int)(z2:List Str)(o0:Int)(z1 o1:List Ser)(o2:List Str):Nat:=cqM a.2.1 i o1
def Xa7:Con:=cW T8q [.agg 3] T8q [(true,3)] [(1,109),(2,9)] (λa=>(XpU a)) λa=>(Xoc a)
def X3g.F(a0:X5E):Prop:=(List.length ([]:List U6q)+List.length a0.2.2<=9223372036854775807/\((List.length ([]:List U6q)+List.length a0.2.2)*16<=140737488355328/\(eS [(1,.box 2 0),(2,.box 3 0),(3,.box 4 0)] [(1,.box 2 0),(2,.box 3 0),(3,.box 4 0)]/\((lcI a0 0 a0.1 a0.2.1 a0.2.2 0 ([]:List U6q) a0.1 ([]:List U3q) ([]:List U3q) (([]:List U6q)++a0.2.2))/\∀(y1:(Int×(Int×((List U3q)×((List U6q)×(Int×((List U6q)×(Int×((List U3q)×((List U3q)×(List U6q))))))))))),(lcI a0 y1.1 y1.2.1 y1.2.2.1 y1.2.2.2.1 y1.2.2.2.2.1 y1.2.2.2.2.2.1 y1.2.2.2.2.2.2.1 y1.2.2.2.2.2.2.2.1 y1.2.2.2.2.2.2.2.2.1 y1.2.2.2.2.2.2.2.2.2)->(X00 (decide (y1.1<(ln y1.2.2.1))) (0<=y1.1/\(y1.1<(ln y1.2.2.1)/\(0<=y1.1/\(y1.1<(ln y1.2.2.1)/\(List.length ([]:List (Int×Int))+List.length ((List.getD y1.2.2.1 (tN y1.1) ([],[])).2)<=9223372036854775807/\((List.length ([]:List (Int×Int))+List.length ((List.getD y1.2.2.1 (tN y1.1) ([],[])).2))*16<=140737488355328/\(List.length y1.2.2.2.2.2.2.2.2.1+List.length [((List.getD y1.2.2.1 (tN y1.1) ([],[])).1,(([]:List (Int×Int))++((List.getD y1.2.2.1 (tN y1.1) ([],[])).2)))]<=9223372036854775807/\((List.length y1.2.2.2.2.2.2.2.2.1+List.length [((List.getD y1.2.2.1 (tN y1.1) ([],[])).1,(([]:List (Int×Int))++((List.getD y1.2.2.1 (tN y1.1) ([],[])).2)))])*40<=140737488355328/\(eS [(1,.box 2 0),(2,.box 3 0),(3,.box 4 0)] [(1,.box 2 0),(2,.box 3 0),(3,.box 4 0)]/\(lcI a0 (wI (y1.1+(1:Int))) y1.2.1 y1.2.2.1 y1.2.2.2.1 y1.2.2.2.2.1 y1.2.2.2.2.2.1 y1.2.2.2.2.2.2.1 y1.2.2.2.2.2.2.2.1 (y1.2.2.2.2.2.2.2.2.1++[((List.getD y1.2.2.1 (tN y1.1) ([],[])).1,(([]:List (Int×Int))++((List.getD y1.2.2.1 (tN y1.1) ([],[])).2)))]) y1.2.2.2.2.2.2.2.2.2)/\(lcM a0 (wI (y1.1+(1:Int))) y1.2.1 y1.2.2.1 y1.2.2.2.1 y1.2.2.2.2.1 y1.2.2.2.2.2.1 y1.2.2.2.2.2.2.1 y1.2.2.2.2.2.2.2.1 (y1.2.2.2.2.2.2.2.2.1++[((List.getD y1.2.2.1 (tN y1.1) ([],[])).1,(([]:List (Int×Int))++((List.getD y1.2.2.1 (tN y1.1) ([],[])).2)))]) y1.2.2.2.2.2.2.2.2.2)<(lcM a0 y1.1 y1.2.1 y1.2.2.1 y1.2.2.2.1 y1.2.2.2.2.1 y1.2.2.2.2.2.1 y1.2.2.2.2.2.2.1 y1.2.2.2.2.2.2.2.1 y1.2.2.2.2.2.2.2.2.1 y1.2.2.2.2.2.2.2.2.2)))))))))) (Eq ((y1.2.2.2.2.2.2.1,(y1.2.2.2.2.2.2.2.2.1,y1.2.2.2.2.2.2.2.2.2)),((),())) ((Xoc a0),((),()))))))))
def X3g.L(a0:X5E):Nat->Option X0e:=XLK [(58,⟨⟨[1,2,3],[4],[2,3,4],[kA 3 1 13800389 109,kA 4 1 13800517 109,kA 4 2 13800519 9]⟩,(.pair (.int .i64) (.pair (.int .i64) (.pair X5m (.pair Xf4 (.pair (.int .i64) (.pair Xf4 (.pair (.int .i64) (.pair X5m (.pair X5m Xf4))))))))),λst y=>lcI a0 y.1 y.2.1 y.2.2.1 y.2.2.2.1 y.2.2.2.2.1 y.2.2.2.2.2.1 y.2.2.2.2.2.2.1 y.2.2.2.2.2.2.2.1 y.2.2.2.2.2.2.2.2.1 y.2.2.2.2.2.2.2.2.2,λst y=>lcM a0 y.1 y.2.1 y.2.2.1 y.2.2.2.1 y.2.2.2.2.1 y.2.2.2.2.2.1 y.2.2.2.2.2.2.1 y.2.2.2.2.2.2.2.1 y.2.2.2.2.2.2.2.2.1 y.2.2.2.2.2.2.2.2.2⟩)]
theorem X3g.p(a0:X5E)(h:(XpU a0)):X3g.F a0:=by
 delta X3g.F ln tN wI eS
 simp only[Bs,B0,B1,Yaa,X01,YaA]
 obtain⟨hn,hl⟩:=h
 have k1:=XaG a0.2.1
 simp only[YaW]
 refine⟨by omega,by omega,⟨rfl,rfl,rfl,by omega,by omega,rfl,rfl⟩,?_⟩
 rintro⟨i,f,c,g,z0,z2,o0,z1,o1,o2⟩ ⟨ec,e0,e2,hI⟩
 simp only at ec e0 e2 hI ⊢
 subst ec e0 e2
 have q1:=hI.h1
 have q2:=hI.h2
 have q4:=hI.h4
 refine⟨λhi=>?_,λhi=>?_⟩
 . have k2:=Xft (X1a (d:=(([]:List UInt8),([]:List Pt))) (by omega:i.toNat<a0.2.1.length))
   rw[w64 (x:=i+1) (by omega) (by omega)]
   exact⟨q1,hi,q1,hi,by omega,by omega,by omega,by omega,⟨rfl,rfl,rfl,Xsb hI hi rfl⟩,by unfold lcM cqM;omega⟩
 . rw[Xux hI hi];rfl
def X3g.e:GE:=mE Xa7 func66 [28] [] [] (λi x=>X3g.L x) (λi x=>X3g.F x) λi x h _ _=>X3g.p x h
structure lrI (a:Eng) (t i f z0:Int) (z2:List Str) (out c:List Ser) (g:List Str) (z1:List Ser):Prop where
 ec:c=a.2.1
 eg:g=a.2.2
 I:raI a.2.1 t i out
def lrM(a:Eng)(t i f z0:Int)(z2:List Str)(out c:List Ser)(g:List Str)(z1:List Ser):Nat:=raM a.2.1 t i out
def X8Q:Con:={A:=(.pair T8q (.int .i64)),shA:=[.agg 3,.one],ownA:=[(1,109),(2,9)],R:=T8q,shR:=[(true,3)],fresh:=[(1,109),(2,9)],pre:=λ_ a=>(Xom a.1 a.2),f:=some λ_ a=>((XaJ a.1 a.2),((),()))}
def X2u.F(a0:X5E)(a1:Int):Prop:=(X00 (decide (a1<=a0.1)) (Eq ((a0.1,(a0.2.1,a0.2.2)),((),())) ((XaJ a0 a1),((),()))) (X00 (decide (a1>(1099511627776:Int))) (Eq ((a0.1,(a0.2.1,a0.2.2)),((),())) ((XaJ a0 a1),((),()))) (eS [(1,.val false [.int .i64 a1]),(2,.box 3 0),(4,.box 5 0)] [(1,.val false [.int .i64 a1]),(2,.box 3 0),(4,.box 5 0)]/\((lrI a0 a1 0 a0.1 0 ([]:List U6q) ([]:List U3q) a0.2.1 a0.2.2 ([]:List U3q))/\∀(y1:(Int×(Int×(Int×((List U6q)×((List U3q)×((List U3q)×((List U6q)×(List U3q))))))))),(lrI a0 a1 y1.1 y1.2.1 y1.2.2.1 y1.2.2.2.1 y1.2.2.2.2.1 y1.2.2.2.2.2.1 y1.2.2.2.2.2.2.1 y1.2.2.2.2.2.2.2)->(X00 (decide (y1.1<(ln y1.2.2.2.2.2.1))) (0<=y1.1/\(y1.1<(ln y1.2.2.2.2.2.1)/\((X8g ((List.getD y1.2.2.2.2.2.1 (tN y1.1) ([],[])).2) a1 1099511627777)/\∀r2,(Eq r2 ((X1Z ((List.getD y1.2.2.2.2.2.1 (tN y1.1) ([],[])).2) a1 1099511627777),((),())))->(X00 (decide ((ln r2.1)>(0:Int))) (0<=y1.1/\(y1.1<(ln y1.2.2.2.2.2.1)/\(List.length y1.2.2.2.2.1+List.length ([((List.getD y1.2.2.2.2.2.1 (tN y1.1) ([],[])).1,r2.1)]:List U3q)<=9223372036854775807/\((List.length y1.2.2.2.2.1+List.length ([((List.getD y1.2.2.2.2.2.1 (tN y1.1) ([],[])).1,r2.1)]:List U3q))*40<=140737488355328/\(eS [(1,.val false [.int .i64 a1]),(2,.box 3 0),(4,.box 5 0)] [(1,.val false [.int .i64 a1]),(2,.box 3 0),(4,.box 5 0)]/\(lrI a0 a1 (wI (y1.1+(1:Int))) y1.2.1 y1.2.2.1 y1.2.2.2.1 (y1.2.2.2.2.1++[((List.getD y1.2.2.2.2.2.1 (tN y1.1) ([],[])).1,r2.1)]) y1.2.2.2.2.2.1 y1.2.2.2.2.2.2.1 y1.2.2.2.2.2.2.2)/\(lrM a0 a1 (wI (y1.1+(1:Int))) y1.2.1 y1.2.2.1 y1.2.2.2.1 (y1.2.2.2.2.1++[((List.getD y1.2.2.2.2.2.1 (tN y1.1) ([],[])).1,r2.1)]) y1.2.2.2.2.2.1 y1.2.2.2.2.2.2.1 y1.2.2.2.2.2.2.2)<(lrM a0 a1 y1.1 y1.2.1 y1.2.2.1 y1.2.2.2.1 y1.2.2.2.2.1 y1.2.2.2.2.2.1 y1.2.2.2.2.2.2.1 y1.2.2.2.2.2.2.2)))))) (eS [(1,.val false [.int .i64 a1]),(2,.box 3 0),(4,.box 5 0)] [(1,.val false [.int .i64 a1]),(2,.box 3 0),(4,.box 5 0)]/\(lrI a0 a1 (wI (y1.1+(1:Int))) y1.2.1 y1.2.2.1 y1.2.2.2.1 y1.2.2.2.2.1 y1.2.2.2.2.2.1 y1.2.2.2.2.2.2.1 y1.2.2.2.2.2.2.2)/\(lrM a0 a1 (wI (y1.1+(1:Int))) y1.2.1 y1.2.2.1 y1.2.2.2.1 y1.2.2.2.2.1 y1.2.2.2.2.2.1 y1.2.2.2.2.2.2.1 y1.2.2.2.2.2.2.2)<(lrM a0 a1 y1.1 y1.2.1 y1.2.2.1 y1.2.2.2.1 y1.2.2.2.2.1 y1.2.2.2.2.2.1 y1.2.2.2.2.2.2.1 y1.2.2.2.2.2.2.2)))))) (Eq ((a1,(y1.2.2.2.2.1,y1.2.2.2.2.2.2.1)),((),())) ((XaJ a0 a1),((),()))))))))
def X2u.L(a0:X5E)(a1:Int):Nat->Option X0e:=XLK [(122,⟨⟨[1,2,4],[5,6],[3,5],[kC 5 0 1000643 109,kA 3 1 13800389 109,kA 3 2 13800391 9,kA 5 1 13800645 109]⟩,(.pair (.int .i64) (.pair (.int .i64) (.pair (.int .i64) (.pair Xf4 (.pair X5m (.pair X5m (.pair Xf4 X5m))))))),λst y=>lrI a0 a1 y.1 y.2.1 y.2.2.1 y.2.2.2.1 y.2.2.2.2.1 y.2.2.2.2.2.1 y.2.2.2.2.2.2.1 y.2.2.2.2.2.2.2,λst y=>lrM a0 a1 y.1 y.2.1 y.2.2.1 y.2.2.2.1 y.2.2.2.2.1 y.2.2.2.2.2.1 y.2.2.2.2.2.2.1 y.2.2.2.2.2.2.2⟩)]
theorem X2u.p(a0:X5E)(a1:Int)(h:(Xom a0 a1)):X2u.F a0 a1:=by
 delta X2u.F ln tN wI eS
 simp only[Bs,B0,B1,Yaa,X01,X8g,YaA]
 have hn:tot a0.2.1<=100000000:=h
 have k1:=XaG a0.2.1
 refine⟨λh1=>?_,λh1=>⟨λh2=>?_,λh2=>⟨⟨rfl,rfl,by omega,by omega,by simp[X0X],by simp⟩,?_⟩⟩⟩
 . unfold XaJ;rw[Yae (by omega)]
 . unfold XaJ;rw[Yae (by omega)]
 rintro⟨i,f,z0,z2,out,c,g,z1⟩ ⟨ec,eg,hI⟩
 simp only at ec eg hI ⊢
 subst ec eg
 have q1:=hI.h1
 have q2:=hI.h2
 have q4:=hI.h4
 refine⟨λhi=>?_,λhi=>?_⟩
 . have dn:∀o,raM a0.2.1 a1 (i+1) o<raM a0.2.1 a1 i out:=λo=>by unfold raM;omega
   rw[w64 (x:=i+1) (by omega) (by omega)]
   have k2:=Xft (X1a (d:=(([]:List UInt8),([]:List Pt))) (by omega:i.toNat<a0.2.1.length))
   refine⟨q1,hi,by omega,λh6=>⟨q1,hi,by omega,by omega,⟨rfl,rfl,XuC hI hi (by omega)⟩,dn _⟩,λh6=>⟨⟨rfl,rfl,Xxt hI hi (by omega)⟩,dn _⟩⟩
 . unfold XaJ;rw[Yah (by omega),XuV hI hi]
def X2u.e:GE:=mE X8Q func64 [28] [X2r.e] [] (λi x=>X2u.L x.1 x.2) (λi x=>X2u.F x.1 x.2) λi x h _ _=>X2u.p x.1 x.2 h
def XbL:Con:=cW (.pair T8q (.int .i64)) [.agg 3,.one] T8q [(true,3)] [(1,109),(2,9)] (λa=>(Xsd a.1 a.2)) λa=>(Xbu a.1 a.2)
def X5B.F(a0:X5E)(a1:Int):Prop:=((Xg8 (a0.1,(a0.2.1,a0.2.2)))/\∀r1,(Eq r1 ((X3t (a0.1,(a0.2.1,a0.2.2))),((),())))->(X00 (!r1.1) (Eq ((0,(([]:(List U3q)),([]:(List U6q)))),((),())) ((Xbu a0 a1),((),()))) ((XpU (a0.1,(a0.2.1,a0.2.2)))/\∀r2,(Eq r2 ((Xoc (a0.1,(a0.2.1,a0.2.2))),((),())))->(X00 (decide (a1>r2.1.1)) (X00 (decide (a1<=(1099511627776:Int))) ((XiO r2.1.2.1 a1)/\∀r3,(Eq r3 ((X0X r2.1.2.1 a1),((),())))->(Eq ((a1,(r3.1,r2.1.2.2)),((),())) ((Xbu a0 a1),((),())))) (Eq ((r2.1.1,(r2.1.2.1,r2.1.2.2)),((),())) ((Xbu a0 a1),((),())))) (Eq ((r2.1.1,(r2.1.2.1,r2.1.2.2)),((),())) ((Xbu a0 a1),((),())))))))
theorem X5B.p(a0:X5E)(a1:Int)(h:(Xsd a0 a1)):X5B.F a0 a1:=by
 unfold X5B.F
 simp only[Bs,B0,B1,Yaa,X01,YaA,XpU,Xoc]
 have hp:Xg8 a0:=h
 refine⟨hp,λh1=>?_,λh1=>?_⟩
 . unfold Xbu;rw[Yae (by rw[h1];decide)]
 obtain⟨i1,i2⟩:=Xoz h1
 have e1:Xbu a0 a1=XaJ a0 a1:=by unfold Xbu;rw[Yah h1]
 rw[e1]
 unfold XaJ
 refine⟨⟨i1,i2⟩,λh2=>⟨λh3=>⟨i1,?_⟩,λh3=>?_⟩,λh2=>?_⟩
 . rw[Yah (by omega)]
 . rw[Yae (by omega)]
 . rw[Yae (by omega)]
def X5B.e:GE:=mE XbL func104 [28] [X2H.e,X1l.e,X3Z.e] [] noL (λi x=>X5B.F x.1 x.2) λi x h _ _=>X5B.p x.1 x.2 h
def XlV(l:List Ser):List Str:=if l=[] then [] else [X0x l]
def XhK(e:Eng):Eng:=if e.2.1=[] then e else(e.1,[],e.2.2++[X0x e.2.1])
def Xej(e:Eng):Eng:=(e.1,e.2.1,XlV (X0k e).1)
def fFl(e:Eng):Eng:=if 4<(XhK e).2.2.length then Xej (XhK e) else XhK e
def eng0:Eng:=(0,[],[])
def XcQ(e:Eng):Eng:=if X3t e=true then fFl e else eng0
structure Xez (n:Nat) (e:Eng):Prop where
 fl:0<=e.1/\e.1<=1099511627776
 ca:X0M e.2.1=true
 le:e.2.2.length<=n
 ok:okF e.2.2=true
 pl:X0M (X0k e).1=true
 st:∀f∈e.2.2,Xnu f
theorem Xe9{e:Eng}(h:X3t e=true)(hp:Xg8 e):Xez 4 e:=by
 obtain⟨g1,g2,g3,g4⟩:=X8j h
 obtain⟨k1,k2,k3,k4,k5⟩:=Xd4 g1
 exact⟨k1,k2,k4,g2,g4,hp.2⟩
theorem Xez.R{n:Nat}{e:Eng}(h:Xez n e):Xd0 e.2.1:=(X39 h.ca).1
theorem Xez.E{n:Nat}{e:Eng}(h:Xez n e)(hn:n<=5):Xgr e:=by
 have:=X39 h.ca
 have:=h.le
 exact⟨h.st,h.R,by omega,by omega⟩
theorem XgD{l:List Ser}(h:X0M l=true)(hn:l≠[]):X0l (X0x l)=(l,true):=(Xix ⟨⟨h,hn⟩,rfl⟩).symm
theorem Xg3{l:List Ser}(h:X0M l=true):X3s l:=XkS λx hx=>((X39 h).2.2.2 x hx).1
theorem Xkj:∀(l:List Ser) (n:Nat),(∀x∈l,x.1.length<=8)->(ixF l n).length<=100*l.length
 | [],n,_=>by simp[ixF]
 | x::l,n,h=>by
   have h1:=Xkj l (n+(X04 x.2).length) λy hy=>h y (by simp[hy])
   have h2:=h x (by simp)
   have v1:=X0w x.1.length
   have v2:=X0w n
   have v3:=X0w (X04 x.2).length
   have v4:=X0w (x.2.getD 0 (0,0)).1
   have v5:=X0w (x.2.getD (x.2.length - 1) (0,0)).1
   rw[ixF,Yab,Yad]
   simp only[X7k,Yab]
   omega
theorem XnY{l:List Ser}(h:X0M l=true):(X0x l).length<=20000:=by
 by_cases hn:l=[]
 . subst hn;simp[X0x]
 . have L:=RF.lay (s:=X0x l) (l:=l) ⟨⟨h,hn⟩,rfl⟩
   have h1:=L.len
   have h2:=Xe1 l
   have h3:=XeE l
   have h4:=L.five
   have h5:=Xkj l 4 λx hx=>((X39 h).2.2.2 x hx).1
   omega
theorem XoP{l:List Ser}(h:X0M l=true):Xnu (X0x l):=Ya5 (XnY h) (by decide)
theorem XoA{l:List Ser}(h:X0M l=true):X0x l=[]↔l=[]:=by
 constructor
 . intro e
   by_cases hn:l=[]
   . exact hn
   . have L:=RF.lay (s:=X0x l) (l:=l) ⟨⟨h,hn⟩,rfl⟩
     have h1:=L.len
     rw[e]at h1;simp at h1
 . rintro rfl;simp[X0x]
theorem XtN(a:List Str)(f:Str):XaL (a++[f])=XaL a++[(X0l f).1]:=by simp[XaL]
theorem Xo5(a:List (List Ser))(l:List Ser):X4w (a++[l])=X4D (X4w a) l:=by simp[X4w,YbG]
theorem XvG(a:List Str)(f:Str):okF (a++[f])=(okF a&&(X0l f).2):=by simp[okF,List.all_append]
theorem Xoo(l:List Ser):X4D l []=l:=rfl
theorem Xjg:∀{t l:List Ser},Xgt l->(∀x∈t,Xjn x.2)->∀k,X8F (X4D l t) k=(X8F l k||X8F t k)
 | [],_,_,_,k=>by simp[X4D,X8F]
 | s::t,l,h,ht,k=>by
   obtain⟨a1,a2,_⟩:=Xih h (ht s (by simp))
   rw[XgT,Xjg a1 (λx hx=>ht x (by simp[hx])),a2,X8Y,Bool.or_assoc]
theorem Xtq{l:List Ser}(h:Xd0 l):X4D [] l=l:=
 XlD (X7l Xgk h.2).1 h.1 (λk=>by rw[Xjg Xgk.1 (λx hx=>(h.2 x hx).1)];rfl)
  (λk=>by rw[X7n Xgk.1 (λx hx=>(h.2 x hx).1) h.1,XmC,Xn1 (XkX h.2 k).1])
theorem Xjt(l:List Pt)(a b:Int):X1Z (X1Z l a b) a b=X1Z l a b:=by
 unfold X1Z;rw[List.filter_filter];simp
theorem XlE{l:List Ser}(h:Xd0 l)(f:Int):X0X (X0X l f) f=X0X l f:=
 XlD (X5t (X5t h.1 f) f) (X5t h.1 f)
  (λk=>by rw[(X4E (X5t h.1 f) f k).2,(X4E h.1 f k).1,Xjt,(X4E h.1 f k).2])
  (λk=>by rw[(X4E (X5t h.1 f) f k).1,(X4E h.1 f k).1,Xjt])
theorem Xbl{e:Eng}(h:okF e.2.2=true):X0k e=(X0X (X4D (X4w (XaL e.2.2)) e.2.1) e.1,true):=by unfold X0k;rw[Yah h]
theorem Xl3{e:Eng}(h:Xez 4 e):Xez 5 (XhK e)/\(XhK e).2.1=[]/\X0k (XhK e)=X0k e:=by
 unfold XhK
 split
 . rename_i hn
   exact⟨⟨h.fl,h.ca,Nat.le_succ_of_le h.le,h.ok,h.pl,h.st⟩,hn,rfl⟩
 . rename_i hn
   have hr:=XgD h.ca hn
   have ho:okF (e.2.2++[X0x e.2.1])=true:=by rw[XvG,h.ok,hr];rfl
   have hp:X0k (e.1,[],e.2.2++[X0x e.2.1])=X0k e:=by
    rw[Xbl (e:=(e.1,[],e.2.2++[X0x e.2.1])) ho,Xbl h.ok]
    simp only
    rw[XtN,hr,Xo5,Xoo]
   refine⟨⟨h.fl,rfl,?_,ho,?_,λf hf=>?_⟩,rfl,hp⟩
   . have:=h.le;simp only[Yab,Yad,Yai];omega
   . rw[hp];exact h.pl
   . rcases Yaf.1 hf with hf | hf
     . exact h.st f hf
     . rw[YaN.1 hf];exact XoP h.ca
theorem XtY{e:Eng}(h:Xez 5 e)(hc:e.2.1=[]):Xez 4 (Xej e)/\(Xej e).2.1=[]/\X0k (Xej e)=X0k e:=by
 have hR:=XqY h.R
 have hok:okF (XlV (X0k e).1)=true:=by
  unfold XlV;split
  . rfl
  . rename_i hn
    have:=XgD h.pl hn
    simp[okF,this]
 have hp:X0k (Xej e)=X0k e:=by
  rw[Xbl (e:=Xej e) hok]
  have e0:=Xbl h.ok
  have e1:X4w (XaL (XlV (X0k e).1))=(X0k e).1:=by
   unfold XlV;split
   . rename_i hn;rw[hn];rfl
   . rename_i hn
     have:=XgD h.pl hn
     show X4w [(X0l (X0x (X0k e).1)).1]=_
     rw[this]
     show X4D [] _=_
     exact Xtq hR
  show(X0X (X4D (X4w (XaL (XlV (X0k e).1))) e.2.1) e.1,true)=_
  rw[e1,hc,Xoo]
  have e2:X0X (X0k e).1 e.1=(X0k e).1:=by
   rw[e0]
   exact XlE (X7l (XdJ _ [] Xgk (Xj3 _)) h.R.2) _
  rw[e2,e0]
 refine⟨⟨h.fl,h.ca,?_,hok,by rw[hp];exact h.pl,λf hf=>?_⟩,hc,hp⟩
 . show(XlV (X0k e).1).length<=4
   unfold XlV;split<;>simp
 . have hf':f∈XlV (X0k e).1:=hf
   unfold XlV at hf'
   split at hf'
   . cases hf'
   . rw[YaN.1 hf'];exact XoP h.pl
theorem Xoh{e:Eng}(h:Xez 4 e):Xez 4 (fFl e)/\(fFl e).2.1=[]/\X0k (fFl e)=X0k e:=by
 obtain⟨a,b,c⟩:=Xl3 h
 unfold fFl
 split
 . obtain⟨d,e',f⟩:=XtY a b
   exact⟨d,e',f.trans c⟩
 . rename_i hn
   exact⟨⟨a.fl,a.ca,by omega,a.ok,a.pl,a.st⟩,b,c⟩
theorem Xez.mono{n k:Nat}{e:Eng}(h:Xez n e)(hk:n<=k):Xez k e:=⟨h.fl,h.ca,Ya5 h.le hk,h.ok,h.pl,h.st⟩
theorem XrE{n:Nat}{e:Eng}(h:Xez n e)(hn:n<=5):Xrm e/\XhX e=(XaL e.2.2++[e.2.1],true)/\XrA (XaL e.2.2++[e.2.1]) e.1/\XoB (XaL e.2.2++[e.2.1]) e.1=(X0k e).1:=by
 have ht:=XfS e
 have hs:=X39 h.ca
 have hl:=h.le
 refine⟨⟨h.st,by omega⟩,XfL h.ok,?_,XtX h.R h.ok⟩
 unfold XrA;omega
theorem Xw7{e:Eng}(h:Xez 4 e):XpU e:=by
 have:=X39 h.ca
 have:=h.le
 exact⟨by omega,by omega⟩
theorem Xsk{e:Eng}(hp:Xg8 e):tot (XcQ e).2.1<=2000000/\(XcQ e).2.2.length<=2000000:=by
 unfold XcQ;split
 . rename_i h
   obtain⟨g1,g2,g3⟩:=Xoh (Xe9 h hp)
   have:=g1.le
   rw[g2];exact⟨by simp[tot,cL],by omega⟩
 . simp[eng0,tot,cL]
def Xap:Con:=cW X5m [.one] Xf4 [(false,1)] [(0,9)] (λa=>(X3s a)) λa=>(XlV a)
def X4n.F(a0:(List U3q)):Prop:=(X00 ((ln a0)==(0:Int)) (Eq (([]:(List U6q)),((),())) ((XlV a0),((),()))) ((X3s a0)/\∀r1,(Eq r1 ((X0x a0),((),())))->(Eq ([r1.1],((),())) ((XlV a0),((),())))))
theorem X4n.p(a0:(List U3q))(h:(X3s a0)):X4n.F a0:=by
 delta X4n.F ln
 simp only[Bs,B0,B1,Yaa,X01,YaA]
 have hp:X3s a0:=h
 refine⟨λh1=>?_,λh1=>⟨hp,?_⟩⟩
 . have:a0=[]:=YaL.1 (by omega)
   rw[this];rfl
 . unfold XlV;rw[Yae (λe=>h1 (by rw[e];rfl))]
def X4n.e:GE:=mE Xap func197 [26] [X23.e] [] noL (λi x=>X4n.F x) λi x h _ _=>X4n.p x h
def pFl(e:Eng):Prop:=Xez 4 e
def pOne(e:Eng):Prop:=Xez 5 e
def Xa3:Con:=cW T8q [.agg 3] T8q [(true,3)] [(1,109),(2,9)] (λa=>(pFl a)) λa=>(fFl a)
def X43.F(a0:X5E):Prop:=((XpU (a0.1,(a0.2.1,a0.2.2)))/\∀r1,(Eq r1 ((Xoc (a0.1,(a0.2.1,a0.2.2))),((),())))->(X00 (decide ((ln r1.1.2.1)>(0:Int))) ((X3s r1.1.2.1)/\∀r2,(Eq r2 ((X0x r1.1.2.1),((),())))->(List.length r1.1.2.2+List.length [r2.1]<=9223372036854775807/\((List.length r1.1.2.2+List.length [r2.1])*16<=140737488355328/\(X00 (decide ((ln (r1.1.2.2++[r2.1]))>(4:Int))) ((Xgr (r1.1.1,(([]:(List U3q)),(r1.1.2.2++[r2.1]))))/\∀r3,(Eq r3 ((X0k (r1.1.1,(([]:(List U3q)),(r1.1.2.2++[r2.1])))),((),())))->((X3s r3.1.1)/\∀r4,(Eq r4 ((XlV r3.1.1),((),())))->(Eq ((r1.1.1,(([]:(List U3q)),r4.1)),((),())) ((fFl a0),((),()))))) (Eq ((r1.1.1,(([]:(List U3q)),(r1.1.2.2++[r2.1]))),((),())) ((fFl a0),((),()))))))) (X00 (decide ((ln r1.1.2.2)>(4:Int))) ((Xgr (r1.1.1,(r1.1.2.1,r1.1.2.2)))/\∀r5,(Eq r5 ((X0k (r1.1.1,(r1.1.2.1,r1.1.2.2))),((),())))->((X3s r5.1.1)/\∀r6,(Eq r6 ((XlV r5.1.1),((),())))->(Eq ((r1.1.1,(r1.1.2.1,r6.1)),((),())) ((fFl a0),((),()))))) (Eq ((r1.1.1,(r1.1.2.1,r1.1.2.2)),((),())) ((fFl a0),((),()))))))
theorem X43.p(a0:X5E)(h:(pFl a0)):X43.F a0:=by
 delta X43.F ln
 simp only[Bs,B0,B1,Yaa,X01,YaA,Xoc]
 have G:Xez 4 a0:=h
 obtain⟨f1,f2,f3⟩:=Xl3 G
 have P:=f1.E (by omega)
 have S5:=Xg3 f1.pl
 have hle:=G.le
 have yes:4<(XhK a0).2.2.length->Xej (XhK a0)=fFl a0:=λh=>by unfold fFl;rw[Yah h]
 have no:¬4<(XhK a0).2.2.length->XhK a0=fFl a0:=λh=>by unfold fFl;rw[Yae h]
 have e1:a0.2.1≠[]->XhK a0=(a0.1,[],a0.2.2++[X0x a0.2.1]):=λh=>by unfold XhK;rw[Yae h]
 have e2:a0.2.1=[]->XhK a0=a0:=λh=>by unfold XhK;rw[Yah h]
 refine⟨Xw7 G,λh1=>?_,λh1=>?_⟩
 . have hne:a0.2.1≠[]:=λe=>by rw[e]at h1;simp at h1
   rw[e1 hne]at f1 P S5 yes no
   simp only[Yab,Yad,Yai]at yes no
   refine⟨Xg3 G.ca,by omega,by omega,λh2=>?_,λh2=>no (by omega)⟩
   exact⟨P,S5,yes (by omega)⟩
 . have he:a0.2.1=[]:=YaL.1 (by omega)
   rw[e2 he]at yes no
   refine⟨λh2=>?_,λh2=>no (by omega)⟩
   exfalso;omega
def X43.e:GE:=mE Xa3 func159 [28] [X1l.e,X4I.e,X23.e,X4n.e] [] noL (λi x=>X43.F x) λi x h _ _=>X43.p x h
def XaS:Con:=cW T8q [.agg 3] T8q [(true,3)] [(2,9)] (λa=>(pOne a)) λa=>(Xej a)
def X52.F(a0:X5E):Prop:=((Xrm (a0.1,(a0.2.1,a0.2.2)))/\∀r1,(Eq r1 ((XhX (a0.1,(a0.2.1,a0.2.2))),((),())))->((XrA r1.1.1 a0.1)/\∀r2,(Eq r2 ((XoB r1.1.1 a0.1),((),())))->((X3s r2.1)/\∀r3,(Eq r3 ((X0x r2.1),((),())))->(X00 (!(r3.1==[])) (List.length ([]:List U6q)+List.length [r3.1]<=9223372036854775807/\((List.length ([]:List U6q)+List.length [r3.1])*16<=140737488355328/\(Eq ((a0.1,(a0.2.1,(([]:List U6q)++[r3.1]))),((),())) ((Xej a0),((),()))))) (Eq ((a0.1,(a0.2.1,([]:(List U6q)))),((),())) ((Xej a0),((),())))))))
theorem X52.p(a0:X5E)(h:(pOne a0)):X52.F a0:=by
 unfold X52.F
 simp only[Bs,B0,B1,Yaa,X01,YaA]
 have G:Xez 5 a0:=h
 obtain⟨l1,l2,l3,l4⟩:=XrE G (by omega)
 rw[l2];simp only;rw[l4]
 refine⟨l1,l3,Xg3 G.pl,λh1=>?_,λh1=>?_⟩
 . have X:(a0.1,a0.2.1,[X0x (X0k a0).1])=Xej a0:=by
    unfold Xej XlV;rw[Yae (λe=>h1 ((XoA G.pl).2 e))]
   first | exact X | exact⟨by omega,by omega,X⟩
 . unfold Xej XlV;rw[Yah ((XoA G.pl).1 h1)]
def X52.e:GE:=mE XaS func124 [28] [X0W.e,X1A.e,X25.e] [] noL (λi x=>X52.F x) λi x h _ _=>X52.p x h
def X8H:Con:={A:=T8q,shA:=[.agg 3],ownA:=[(2,9)],R:=T8q,shR:=[(true,3)],fresh:=[(2,9)],pre:=λ_ a=>(pFl a),f:=some λ_ a=>((fFl a),((),()))}
def X2F.F(a0:X5E):Prop:=(X00 (decide ((ln a0.2.1)>(0:Int))) ((X3s a0.2.1)/\∀r1,(Eq r1 ((X0x a0.2.1),((),())))->(List.length a0.2.2+List.length [r1.1]<=9223372036854775807/\((List.length a0.2.2+List.length [r1.1])*16<=140737488355328/\(X00 (decide ((ln (a0.2.2++[r1.1]))>(4:Int))) ((pOne (a0.1,(([]:(List U3q)),(a0.2.2++[r1.1]))))/\∀r2,(Eq r2 ((Xej (a0.1,(([]:(List U3q)),(a0.2.2++[r1.1])))),((),())))->(Eq ((r2.1.1,(r2.1.2.1,r2.1.2.2)),((),())) ((fFl a0),((),())))) (Eq ((a0.1,(([]:(List U3q)),(a0.2.2++[r1.1]))),((),())) ((fFl a0),((),()))))))) (X00 (decide ((ln a0.2.2)>(4:Int))) ((pOne (a0.1,(a0.2.1,a0.2.2)))/\∀r3,(Eq r3 ((Xej (a0.1,(a0.2.1,a0.2.2))),((),())))->(Eq ((r3.1.1,(r3.1.2.1,r3.1.2.2)),((),())) ((fFl a0),((),())))) (Eq ((a0.1,(a0.2.1,a0.2.2)),((),())) ((fFl a0),((),())))))
theorem X2F.p(a0:X5E)(h:(pFl a0)):X2F.F a0:=by
 delta X2F.F ln
 simp only[Bs,B0,B1,Yaa,X01,YaA]
 have G:Xez 4 a0:=h
 obtain⟨f1,f2,f3⟩:=Xl3 G
 have P:=f1.E (by omega)
 have S5:=Xg3 f1.pl
 have hle:=G.le
 have yes:4<(XhK a0).2.2.length->Xej (XhK a0)=fFl a0:=λh=>by unfold fFl;rw[Yah h]
 have no:¬4<(XhK a0).2.2.length->XhK a0=fFl a0:=λh=>by unfold fFl;rw[Yae h]
 have e1:a0.2.1≠[]->XhK a0=(a0.1,[],a0.2.2++[X0x a0.2.1]):=λh=>by unfold XhK;rw[Yae h]
 have e2:a0.2.1=[]->XhK a0=a0:=λh=>by unfold XhK;rw[Yah h]
 refine⟨λh1=>?_,λh1=>?_⟩
 . have hne:a0.2.1≠[]:=λe=>by rw[e]at h1;simp at h1
   rw[e1 hne]at f1 P S5 yes no
   simp only[Yab,Yad,Yai]at yes no
   refine⟨Xg3 G.ca,by omega,by omega,λh2=>?_,λh2=>no (by omega)⟩
   exact⟨f1,yes (by omega)⟩
 . have he:a0.2.1=[]:=YaL.1 (by omega)
   rw[e2 he]at yes no
   refine⟨λh2=>?_,λh2=>no (by omega)⟩
   exfalso;omega
def X2F.e:GE:=mE X8H func65 [28] [X25.e,X52.e] [] noL (λi x=>X2F.F x) λi x h _ _=>X2F.p x h
def XbS:Con:=cW T8q [.agg 3] T8q [(true,3)] [(1,109),(2,9)] (λa=>(Xg8 a)) λa=>(XcQ a)
def X5u.F(a0:X5E):Prop:=((Xg8 (a0.1,(a0.2.1,a0.2.2)))/\∀r1,(Eq r1 ((X3t (a0.1,(a0.2.1,a0.2.2))),((),())))->(X00 (!r1.1) (Eq ((0,(([]:(List U3q)),([]:(List U6q)))),((),())) ((XcQ a0),((),()))) ((pFl (a0.1,(a0.2.1,a0.2.2)))/\∀r2,(Eq r2 ((fFl (a0.1,(a0.2.1,a0.2.2))),((),())))->(Eq ((r2.1.1,(r2.1.2.1,r2.1.2.2)),((),())) ((XcQ a0),((),()))))))
theorem X5u.p(a0:X5E)(h:(Xg8 a0)):X5u.F a0:=by
 unfold X5u.F
 simp only[Bs,B0,B1,Yaa,X01,YaA]
 have hp:Xg8 a0:=h
 refine⟨hp,λh1=>?_,λh1=>?_⟩
 . unfold XcQ;rw[Yae (by rw[h1];decide)];rfl
 have G:=Xe9 h1 hp
 obtain⟨g1,g2,g3⟩:=Xoh G
 have X:XcQ a0=fFl a0:=by unfold XcQ;rw[Yah h1]
 rw[X]
 exact⟨G,rfl⟩
def X5u.e:GE:=mE XbS func105 [28] [X2H.e,X43.e] [] noL (λi x=>X5u.F x) λi x h _ _=>X5u.p x h
theorem Xlg{α K:Type}{lt:K->K->Bool}(o:Xwp lt){key:α->K}:∀{w v:List α},Asc lt key v->Asc lt key w->(∀x∈v,x∈w)->v.length<=w.length
 | [],v,_,_,h=>by
   cases v with
   | nil=>simp
   | cons a v=>have:=h a (by simp);cases this
 | b::w,[],_,_,_=>by simp
 | b::w,a::v,hv,hw,h=>by
   obtain⟨v1,v2⟩:=YaR.1 hv
   obtain⟨w1,w2⟩:=YaR.1 hw
   have key_ne:∀x∈v,lt (key a) (key x)=true:=v1
   rcases Yak.1 (h a (by simp)) with e | ha
   . subst e
     have:=Xlg o v2 w2 λx hx=>by
      rcases Yak.1 (h x (by simp[hx])) with e | h2
      . have:=v1 x hx;rw[e,o.irr]at this;cases this
      . exact h2
     simp;omega
   . have:=Xlg o hv w2 λx hx=>by
      rcases Yak.1 (h x hx) with e | h2
      . subst e
        rcases Yak.1 hx with e2 | h3
        . subst e2;exact ha
        . have p1:=v1 x h3
          have p2:=w1 a ha
          have:=o.tr _ _ _ p1 p2
          rw[o.irr]at this;cases this
      . exact h2
     simp at this ⊢;omega
theorem Xmc{A C q:List Pt}{f:Int}(hA:Xjn A)(hC:Xjn C)(hq:Xjn q)(h:∀y∈q,f<=y.1/\y.1<1099511627777):
 X4f (X1Z (X4f A C) f 1099511627777) q=X1Z (X4f A (X4f C q)) f 1099511627777:=by
 have hCq:=X8C (b:=q) hC
 refine Xif XmE (X8C (XgU (X8C hA) _ _)) (XgU (X8C hA) _ _) λx=>?_
 rw[X40 hq,XeU,XeU,X40 hC,X40 hCq,X40 hq]
 constructor
 . rintro (h1 | ⟨⟨h1 | ⟨h1,h2⟩,h3⟩,h4⟩)
   . exact⟨.inl (.inl h1),h x h1⟩
   . exact⟨.inl (.inr ⟨h1,h4⟩),h3⟩
   . refine⟨.inr ⟨h1,λy hy=>?_⟩,h3⟩
     rcases(X40 hq).1 hy with hy | ⟨hy,_⟩
     . exact h4 y hy
     . exact h2 y hy
 . rintro⟨(h1 | ⟨h1,h2⟩) | ⟨h1,h2⟩,h3⟩
   . exact .inl h1
   . exact .inr ⟨⟨.inl h1,h3⟩,h2⟩
   . refine .inr ⟨⟨.inr ⟨h1,λy hy e=>?_⟩,h3⟩,λy hy=>h2 y ((X40 hq).2 (.inl hy))⟩
     by_cases hz:∀z∈q,z.1≠y.1
     . exact h2 y ((X40 hq).2 (.inr ⟨hy,hz⟩)) e
     . simp only[ne_eq,Classical.not_forall,Classical.not_not]at hz
       obtain⟨z,hz1,hz2⟩:=hz
       exact h2 z ((X40 hq).2 (.inl hz1)) (hz2.trans e)
theorem Xrd(k j:Str)(p:List Pt):X4M [(k,p)] j=if k=j then p else []:=by rw[X3l];rfl
def eX(e:Eng)(k:Str)(p:List Pt):Eng:=(e.1,X4D e.2.1 [(k,p)],e.2.2)
theorem XrQ{e:Eng}{k:Str}{p:List Pt}(hc:Xd0 e.2.1)(ho:okF e.2.2=true)(hp:Xf2 p)(hn:p≠[])(hf:∀y∈p,e.1<=y.1):
 X4D (X0k e).1 [(k,p)]=(X0k (eX e k p)).1:=by
 have hX:Xd0 (X4w (XaL e.2.2)):=XdJ _ [] Xgk (Xj3 _)
 have hS:∀x∈[((k,p):Ser)],Xf2 x.2:=λx hx=>by rw[YaN.1 hx];exact hp
 have hSA:∀x∈[((k,p):Ser)],Xjn x.2:=λx hx=>(hS x hx).1
 have a1:Xgt [((k,p):Ser)]:=YcJ _ _
 have hc2:Xd0 (X4D e.2.1 [(k,p)]):=X7l hc hS
 have hX1:=X7l hX hc.2
 have hX2:=X7l hX hc2.2
 rw[Xbl ho,Xbl (e:=eX e k p) ho]
 show X4D (X0X (X4D (X4w (XaL e.2.2)) e.2.1) e.1) [(k,p)]=X0X (X4D (X4w (XaL e.2.2)) (X4D e.2.1 [(k,p)])) e.1
 have hpts:∀j,X4M (X4D (X0X (X4D (X4w (XaL e.2.2)) e.2.1) e.1) [(k,p)]) j=X1Z (X4M (X4D (X4w (XaL e.2.2)) (X4D e.2.1 [(k,p)])) j) e.1 1099511627777:=λj=>by
  rw[X7n (X5t hX1.1 _) hSA a1,(X4E hX1.1 _ j).1,X7n hX.1 (λx hx=>(hc.2 x hx).1) hc.1,X7n hX.1 (λx hx=>(hc2.2 x hx).1) hc2.1,X7n hc.1 hSA a1]
  refine Xmc (XkX hX.2 j).1 (XkX hc.2 j).1 (XkX hS j).1 λy hy=>?_
  rw[Xrd]at hy
  split at hy
  . have:=hp.2 y hy;have:=hf y hy;omega
  . cases hy
 refine XlD (X7l (Xpw hX1 _) hS).1 (X5t hX2.1 _) (λj=>?_) (λj=>by rw[hpts,(X4E hX2.1 _ j).1])
 rw[(X4E hX2.1 _ j).2,<-hpts,Xjg (X5t hX1.1 _) hSA,X7n (X5t hX1.1 _) hSA a1,(X4E hX1.1 _ j).2,<-(X4E hX1.1 _ j).1,Xrd]
 by_cases hj:k=j
 . subst hj
   have:X8F [((k,p):Ser)] k=true:=by simp[X8F]
   rw[this,Ycp,Yah rfl]
   have h1:∃y,y∈p:=Ycx p hn
   obtain⟨y,hy⟩:=h1
   have h2:=(X40 (a:=X4M (X0X (X4D (X4w (XaL e.2.2)) e.2.1) e.1) k) hp.1).2 (.inl hy)
   cases hm:X4f (X4M (X0X (X4D (X4w (XaL e.2.2)) e.2.1) e.1) k) p with
   | nil=>rw[hm]at h2;cases h2
   | cons=>rfl
 . have:X8F [((k,p):Ser)] j=false:=by simp[X8F,hj]
   rw[this,Ydf,Yae hj,Xgf]
theorem XvW{l:List Pt}(h:Xf2 l)(h2:∀x∈l,-1099511627776<=x.2/\x.2<=1099511627776)(h3:l.length<=60):X0K l=true:=by
 unfold X0K
 rw[Yac,Yaj]
 refine⟨h3,Xcs λj hj=>?_⟩
 have m:=X1a (d:=((0,0):Pt)) hj
 have r:=h.2 _ m
 have s:=h2 _ m
 unfold Xhz fIn
 simp only[Yac,Ya7,Yaj]
 refine⟨r,s,?_⟩
 by_cases e:j=0
 . exact .inl e
 . right
   have:=X86 (0,0) h.1 (i:=j - 1) (j:=j) (by omega) hj
   simpa [ltI] using this
theorem XrV{l:List Pt}(h:X0K l=true):∀x∈l,-1099511627776<=x.2/\x.2<=1099511627776:=λx hx=>by
 unfold X0K at h
 simp only[Yac,Yaj,Xha,Ya6,YbQ]at h
 obtain⟨i,hi,e⟩:=YaQ hx
 have:=h.2 i hi
 unfold Xhz fIn at this
 simp only[Yac,Yaj]at this
 rw[X0O hi,e]at this
 exact this.2.1
theorem Xs6{l:List Ser}(h:X0M l=true):∀x∈l,X6w x.1=true:=λx hx=>by
 simp only[X0M,Yac,Yaj,Xha,Ya6,YbQ]at h
 obtain⟨i,hi,e⟩:=YaQ hx
 have:=h.2 i hi
 simp only[Xmd,Yac]at this
 rw[X0O hi,e]at this
 exact this.1
theorem XtJ{l:List Ser}(h:Xgt l)(h5:l.length<=5)(hx:∀x∈l,X6w x.1=true/\x.2≠[]/\X0K x.2=true):X0M l=true:=by
 unfold X0M
 rw[Yac,Yaj]
 refine⟨h5,Xcs λj hj=>?_⟩
 have m:=hx _ (X1a (d:=(([],[]):Ser)) hj)
 unfold Xmd
 simp only[Yac,Ya7,Yaj]
 refine⟨m.1,?_,λe=>m.2.1 (YaL.1 e),m.2.2⟩
 by_cases e:j=0
 . exact .inl e
 . right
   exact X86 ([],[]) h (i:=j - 1) (j:=j) (by omega) hj
theorem XtW{e:Eng}(hc:Xd0 e.2.1)(ho:okF e.2.2=true)(hne:∀x∈e.2.1,x.2≠[])(hf:∀x∈e.2.1,∀y∈x.2,e.1<=y.1)(hp:X0M (X0k e).1=true):X0M e.2.1=true:=by
 have hX:Xd0 (X4w (XaL e.2.2)):=XdJ _ [] Xgk (Xj3 _)
 have hR:=XqY hc
 have hin:∀x∈e.2.1,∀y∈x.2,y∈X4M (X0k e).1 x.1:=λx hx y hy=>by
  have hX1:=X7l hX hc.2
  rw[Xbl ho]
  simp only
  rw[(X4E hX1.1 _ _).1,X7n hX.1 (λx hx=>(hc.2 x hx).1) hc.1,XeU,((XdX hc.1).1 hx).2,X40 (hc.2 x hx).1]
  have h1:=(hc.2 x hx).2 y hy
  have h2:=hf x hx y hy
  exact⟨.inl hy,h2,by omega⟩
 have hm:∀x∈e.2.1,(x.1,X4M (X0k e).1 x.1)∈(X0k e).1:=λx hx=>by
  obtain⟨y,hy⟩:=Ycx _ (hne x hx)
  obtain⟨z,hz,e1,_⟩:=Xrn (hin x hx y hy)
  have:=((XdX hR.1).1 hz).2
  rw[<-e1,this];exact hz
 obtain⟨s1,s2,s3,s4⟩:=X39 hp
 refine XtJ hc.1 ?_ λx hx=>⟨Xs6 hp (x.1,X4M (X0k e).1 x.1) (hm x hx),hne x hx,?_⟩
 . have h1:Asc Op.bytesLess id (e.2.1.map Prod.fst):=Ydl.2 hc.1
   have h2:Asc Op.bytesLess id ((X0k e).1.map Prod.fst):=Ydl.2 hR.1
   have:=Xlg X6B h1 h2 λk hk=>by
    obtain⟨x,hx,rfl⟩:=YaM.1 hk
    exact YaM.2 ⟨_,hm x hx,rfl⟩
   simp only[Ycz]at this
   omega
 . have hq:=(s4 _ (hm x hx)).2.2
   have hr:=hc.2 x hx
   refine XvW hr (λy hy=>XrV hq y (hin x hx y hy)) ?_
   have h1:=Xlg XmE hr.1 (hR.2 _ (hm x hx)).1 (hin x hx)
   have h2:=(Xdw hq).2
   simp only at h1 h2
   omega
theorem XxI{e:Eng}(hc:Xd0 e.2.1)(h:Xlk e.2.1 e=false):∀x∈e.2.1,∀y∈x.2,e.1<=y.1:=λx hx y hy=>by
 have h1:=List.any_eq_false.1 h x hx
 unfold Xoi at h1
 simp only[Yaj,Int.not_lt]at h1
 obtain⟨i,hi,e1⟩:=YaQ hy
 by_cases h0:i=0
 . subst h0
   rw[X0O hi,e1]at h1;exact h1
 . have:=X86 (0,0) (hc.2 x hx).1 (i:=0) (j:=i) (by omega) hi
   rw[X0O hi,e1]at this
   simp only[ltI,Yaj]at this
   omega
theorem XhR{e:Eng}{k:Str}{p:List Pt}(h:X3t e=true)(hq:Xg8 e)(hp:X0K p=true)(hn:p≠[])(hf:¬(p.getD 0 (0,0)).1<e.1):
 X4D (X0k e).1 [(k,p)]=(X0k (eX e k p)).1/\(X0M (X0k (eX e k p)).1=true->Xez 4 (eX e k p)):=by
 have G:=Xe9 h hq
 obtain⟨g1,g2,g3,g4⟩:=X8j h
 obtain⟨k1,k2,k3,k4,k5⟩:=Xd4 g1
 have hpR:=(Xdw hp).1
 have hpl:∀y∈p,e.1<=y.1:=λy hy=>by
  obtain⟨i,hi,e1⟩:=YaQ hy
  by_cases h0:i=0
  . subst h0
    rw[X0O hi,e1]at hf;omega
  . have:=X86 (0,0) hpR.1 (i:=0) (j:=i) (by omega) hi
    rw[X0O hi,e1]at this
    simp only[ltI,Yaj]at this
    omega
 refine⟨XrQ G.R g2 hpR hn hpl,λhs=>?_⟩
 have hS:∀x∈[((k,p):Ser)],Xf2 x.2:=λx hx=>by rw[YaN.1 hx];exact hpR
 have hc2:Xd0 (eX e k p).2.1:=X7l G.R hS
 have hlow:=XxI G.R k5
 have hmem:∀x∈(eX e k p).2.1,x.2≠[]/\∀y∈x.2,e.1<=y.1:=λx hx=>by
  have hx':x∈Xj2 e.2.1 (k,p):=hx
  rcases XlC hx' with h1 | rfl | ⟨z,hz,rfl⟩
  . exact⟨((X39 G.ca).2.2.2 x h1).2.1,hlow x h1⟩
  . exact⟨hn,hpl⟩
  . refine⟨λe2=>?_,λy hy=>?_⟩
    . obtain⟨y,hy⟩:=Ycx p hn
      have:=(X40 (a:=z.2) hpR.1).2 (.inl hy)
      simp only at e2
      rw[e2]at this;cases this
    . rcases(X40 hpR.1).1 hy with h1 | ⟨h1,_⟩
      . exact hpl y h1
      . exact hlow z hz y h1
 exact⟨k1,XtW hc2 g2 (λx hx=>(hmem x hx).1) (λx hx=>(hmem x hx).2) hs,k4,g2,hs,hq.2⟩
def Xfw(k:Str)(p:List Pt):Bool->List Ser->List Ser
 | put,[]=>if put then [] else [(k,p)]
 | put,x::l=>(if put=false/\Op.bytesLess k x.1=true then [(k,p)] else [])++((if x.1=k then(x.1,X4f x.2 p) else x)::Xfw k p (put||(Op.bytesLess k x.1||decide (x.1=k))) l)
def Xdr(l:List Ser)(k:Str)(p:List Pt):List Ser:=Xfw k p false l
theorem Xo6{k:Str}{p:List Pt}:∀{l:List Ser},(∀x∈l,x.1≠k)->Xfw k p true l=l
 | [],_=>rfl
 | x::l,h=>by
   have h1:=h x (by simp)
   simp only[Xfw,Yae h1,Ydn,Xo6 (l:=l) λy hy=>h y (by simp[hy])]
   simp
theorem XlQ{k:Str}{p:List Pt}:∀{l:List Ser},Xgt l->Xdr l k p=Xj2 l (k,p)
 | [],_=>by simp[Xdr,Xfw,Xj2,X8F,pos]
 | x::l,h=>by
   obtain⟨h1,h2⟩:=YaR.1 h
   have ih:=XlQ (k:=k) (p:=p) h2
   have ha:Xgt (x::l):=h
   by_cases hx:Op.bytesLess k x.1=true
   . have hne:∀y∈x::l,y.1≠k:=λy hy e=>by
      rcases Yak.1 hy with rfl | hy
      . rw[e,X6B.irr]at hx;cases hx
      . have:=X6B.tr _ _ _ hx (h1 y hy);rw[e,X6B.irr]at this;cases this
     have hk:X8F (x::l) k=false:=by
      rw[Ybk];intro hh
      obtain⟨z,hz,e⟩:=X7J.1 hh
      exact hne z hz e
     have hxk:Op.bytesLess x.1 k=false:=by
      rw[Ybk];intro hh
      have:=X6B.tr _ _ _ hh hx;rw[X6B.irr]at this;cases this
     have e1:pos Op.bytesLess Prod.fst k (x::l)=0:=by simp[pos,YbE,hxk]
     have hid:Xfw k p true l=l:=Xo6 λy hy=>hne y (Yan _ hy)
     unfold Xj2
     simp only
     rw[Yae (by rw[hk];decide),e1]
     simp only[Xdr,Xfw,hx,Ydn,Ycp,Yae (hne x (by simp)),hid]
     simp
   . have hx':Op.bytesLess k x.1=false:=by simpa using hx
     by_cases he:x.1=k
     . subst he
       have hk:X8F (x::l) x.1=true:=by simp[X8F]
       have e1:pos Op.bytesLess Prod.fst x.1 (x::l)=0:=by simp[pos,YbE,hx']
       have hne:∀y∈l,y.1≠x.1:=λy hy e=>by have:=h1 y hy;rw[e,X6B.irr]at this;cases this
       unfold Xj2
       simp only
       rw[Yah hk,e1]
       simp only[Xdr,Xfw,hx',decide_true,Ycp,Xo6 hne]
       simp
     . have hxk:Op.bytesLess x.1 k=true:=by
        rcases X6B.tri x.1 k with h3 | h3 | h3
        . exact h3
        . exact absurd h3 he
        . rw[hx']at h3;cases h3
       have e0:Xdr (x::l) k p=x::Xdr l k p:=by
        simp only[Xdr,Xfw,hx',Yae he,Yaw he]
        simp
       have e1:pos Op.bytesLess Prod.fst k (x::l)=pos Op.bytesLess Prod.fst k l+1:=by simp[pos,YbE,hxk]
       have e2:X8F (x::l) k=X8F l k:=by rw[X8Y];simp[he]
       rw[e0,ih]
       unfold Xj2
       simp only
       rw[e2,e1]
       split<;>simp
def X9X(e:Eng)(k:Str)(p:List Pt):Eng×Int:=
 if X3t e=true then
  if X6w k=true/\X0K p=true/\p≠[] then
   if (p.getD 0 (0,0)).1<e.1 then(e,2)
   else if X0M (X0k (eX e k p)).1=true then(if 40<Xf0 (eX e k p).2.1 then fFl (eX e k p) else eX e k p,0)
   else(e,3)
  else(e,1)
 else(eng0,1)
def Xtu(l:List Ser)(k:Str)(p:List Pt):Prop:=tot l<=100000000/\p.length<=100000000
structure itI (l:List Ser) (k:Str) (p:List Pt) (out:List Ser) (put:Bool) (i:Int):Prop where
 h1:0<=i
 h2:i<=l.length
 h3:out++Xfw k p put (l.drop i.toNat)=Xdr l k p
 h4:(out.length:Int)<=2*i
def itM(l:List Ser)(k:Str)(p:List Pt)(out:List Ser)(put:Bool)(i:Int):Nat:=(l.length - i).toNat
theorem Xwf{l:List Ser}{k:Str}{p:List Pt}{out o':List Ser}{put put':Bool}{i:Int}(h:itI l k p out put i)(hi:i<l.length)(hl:(o'.length:Int)<=2*i+2)(he:∀r,o'++Xfw k p put' r=out++Xfw k p put (l.getD i.toNat ([],[])::r)):itI l k p o' put' (i+1):=by
 obtain⟨h1,h2,h3,h4⟩:=h
 refine⟨by omega,by omega,?_,by omega⟩
 rw[tn1 h1,he,<-X3U ([],[]) (by omega)];exact h3
theorem XwB{l:List Ser}{k:Str}{p:List Pt}{out:List Ser}{put:Bool}{i:Int}(h:itI l k p out put i)(hi:¬i<l.length):(put=false->out++[(k,p)]=Xdr l k p)/\(put=true->out=Xdr l k p):=by
 obtain⟨h1,h2,h3,h4⟩:=h
 rw[show i.toNat=l.length by omega,YbO]at h3
 refine⟨λe=>?_,λe=>?_⟩
 . subst e;simpa [Xfw] using h3
 . subst e;simpa [Xfw] using h3
theorem Xw2{e:Eng}{k:Str}{p:List Pt}(hp:Xg8 e):tot (X9X e k p).1.2.1<=2000000/\(X9X e k p).1.2.2.length<=2000000:=by
 unfold X9X;split
 . rename_i h
   have G:=Xe9 h hp
   have g1:=X39 G.ca
   have g2:=G.le
   have same:tot e.2.1<=2000000/\e.2.2.length<=2000000:=⟨by omega,by omega⟩
   split
   . rename_i hq
     split
     . exact same
     . rename_i hf
       split
       . rename_i hs
         have X:=(XhR h hp hq.2.1 hq.2.2 hf).2 hs
         have x1:=X39 X.ca
         have x2:=X.le
         split
         . obtain⟨a1,a2,a3⟩:=Xoh X
           have:=a1.le
           simp only
           rw[a2];exact⟨by simp[tot,cL],by omega⟩
         . exact show tot (eX e k p).2.1<=2000000/\(eX e k p).2.2.length<=2000000 from⟨by omega,by omega⟩
       . exact same
   . exact same
 . simp[eng0,tot,cL]
def Xas:Con:=cQ (.pair X5m T5q) [.one,.one,.one] X5m [(false,1)] (λa=>(Xtu a.1 a.2.1 a.2.2)) λa=>(Xdr a.1 a.2.1 a.2.2)
def X2R.F(a0:(List U3q))(a1:U6q)(a2:U9q):Prop:=(eS [(0,.val false [.lst T5q a0 none]),(1,.val false [.str a1]),(2,.val false [.lst T0q a2 none])] [(0,.val false [.lst T5q a0 none]),(1,.val false [.str a1]),(2,.val false [.lst T0q a2 none])]/\((itI a0 a1 a2 ([]:List U3q) false 0)/\∀(y1:((List U3q)×(Bool×Int))),(itI a0 a1 a2 y1.1 y1.2.1 y1.2.2)->(X00 (decide (y1.2.2<(ln a0))) (X00 (!y1.2.1) (0<=y1.2.2/\(y1.2.2<(ln a0)/\(X00 (Op.bytesLess a1 ((List.getD a0 (tN y1.2.2) ([],[])).1)) (List.length ([]:List (Int×Int))+List.length a2<=9223372036854775807/\((List.length ([]:List (Int×Int))+List.length a2)*16<=140737488355328/\(List.length y1.1+List.length [(a1,(([]:List (Int×Int))++a2))]<=9223372036854775807/\((List.length y1.1+List.length [(a1,(([]:List (Int×Int))++a2))])*40<=140737488355328/\(0<=y1.2.2/\(y1.2.2<(ln a0)/\(X00 (((List.getD a0 (tN y1.2.2) ([],[])).1)==a1) ((Xm2 ((List.getD a0 (tN y1.2.2) ([],[])).2) a2)/\∀r2,(Eq r2 ((Xl4 ((List.getD a0 (tN y1.2.2) ([],[])).2) a2),((),())))->(List.length (y1.1++[(a1,(([]:List (Int×Int))++a2))])+List.length ([((List.getD a0 (tN y1.2.2) ([],[])).1,r2.1)]:List U3q)<=9223372036854775807/\((List.length (y1.1++[(a1,(([]:List (Int×Int))++a2))])+List.length ([((List.getD a0 (tN y1.2.2) ([],[])).1,r2.1)]:List U3q))*40<=140737488355328/\(eS [(0,.val false [.lst T5q a0 none]),(1,.val false [.str a1]),(2,.val false [.lst T0q a2 none])] [(0,.val false [.lst T5q a0 none]),(1,.val false [.str a1]),(2,.val false [.lst T0q a2 none])]/\(itI a0 a1 a2 ((y1.1++[(a1,(([]:List (Int×Int))++a2))])++[((List.getD a0 (tN y1.2.2) ([],[])).1,r2.1)]) true (wI (y1.2.2+(1:Int))))/\(itM a0 a1 a2 ((y1.1++[(a1,(([]:List (Int×Int))++a2))])++[((List.getD a0 (tN y1.2.2) ([],[])).1,r2.1)]) true (wI (y1.2.2+(1:Int))))<(itM a0 a1 a2 y1.1 y1.2.1 y1.2.2))))) (List.length (y1.1++[(a1,(([]:List (Int×Int))++a2))])+List.length ([((List.getD a0 (tN y1.2.2) ([],[])).1,(List.getD a0 (tN y1.2.2) ([],[])).2)]:List U3q)<=9223372036854775807/\((List.length (y1.1++[(a1,(([]:List (Int×Int))++a2))])+List.length ([((List.getD a0 (tN y1.2.2) ([],[])).1,(List.getD a0 (tN y1.2.2) ([],[])).2)]:List U3q))*40<=140737488355328/\(eS [(0,.val false [.lst T5q a0 none]),(1,.val false [.str a1]),(2,.val false [.lst T0q a2 none])] [(0,.val false [.lst T5q a0 none]),(1,.val false [.str a1]),(2,.val false [.lst T0q a2 none])]/\(itI a0 a1 a2 ((y1.1++[(a1,(([]:List (Int×Int))++a2))])++[((List.getD a0 (tN y1.2.2) ([],[])).1,(List.getD a0 (tN y1.2.2) ([],[])).2)]) true (wI (y1.2.2+(1:Int))))/\(itM a0 a1 a2 ((y1.1++[(a1,(([]:List (Int×Int))++a2))])++[((List.getD a0 (tN y1.2.2) ([],[])).1,(List.getD a0 (tN y1.2.2) ([],[])).2)]) true (wI (y1.2.2+(1:Int))))<(itM a0 a1 a2 y1.1 y1.2.1 y1.2.2))))))))))) (0<=y1.2.2/\(y1.2.2<(ln a0)/\(X00 (((List.getD a0 (tN y1.2.2) ([],[])).1)==a1) ((Xm2 ((List.getD a0 (tN y1.2.2) ([],[])).2) a2)/\∀r3,(Eq r3 ((Xl4 ((List.getD a0 (tN y1.2.2) ([],[])).2) a2),((),())))->(List.length y1.1+List.length ([((List.getD a0 (tN y1.2.2) ([],[])).1,r3.1)]:List U3q)<=9223372036854775807/\((List.length y1.1+List.length ([((List.getD a0 (tN y1.2.2) ([],[])).1,r3.1)]:List U3q))*40<=140737488355328/\(eS [(0,.val false [.lst T5q a0 none]),(1,.val false [.str a1]),(2,.val false [.lst T0q a2 none])] [(0,.val false [.lst T5q a0 none]),(1,.val false [.str a1]),(2,.val false [.lst T0q a2 none])]/\(itI a0 a1 a2 (y1.1++[((List.getD a0 (tN y1.2.2) ([],[])).1,r3.1)]) true (wI (y1.2.2+(1:Int))))/\(itM a0 a1 a2 (y1.1++[((List.getD a0 (tN y1.2.2) ([],[])).1,r3.1)]) true (wI (y1.2.2+(1:Int))))<(itM a0 a1 a2 y1.1 y1.2.1 y1.2.2))))) (List.length y1.1+List.length ([((List.getD a0 (tN y1.2.2) ([],[])).1,(List.getD a0 (tN y1.2.2) ([],[])).2)]:List U3q)<=9223372036854775807/\((List.length y1.1+List.length ([((List.getD a0 (tN y1.2.2) ([],[])).1,(List.getD a0 (tN y1.2.2) ([],[])).2)]:List U3q))*40<=140737488355328/\(eS [(0,.val false [.lst T5q a0 none]),(1,.val false [.str a1]),(2,.val false [.lst T0q a2 none])] [(0,.val false [.lst T5q a0 none]),(1,.val false [.str a1]),(2,.val false [.lst T0q a2 none])]/\(itI a0 a1 a2 (y1.1++[((List.getD a0 (tN y1.2.2) ([],[])).1,(List.getD a0 (tN y1.2.2) ([],[])).2)]) y1.2.1 (wI (y1.2.2+(1:Int))))/\(itM a0 a1 a2 (y1.1++[((List.getD a0 (tN y1.2.2) ([],[])).1,(List.getD a0 (tN y1.2.2) ([],[])).2)]) y1.2.1 (wI (y1.2.2+(1:Int))))<(itM a0 a1 a2 y1.1 y1.2.1 y1.2.2)))))))))) (0<=y1.2.2/\(y1.2.2<(ln a0)/\(X00 (((List.getD a0 (tN y1.2.2) ([],[])).1)==a1) ((Xm2 ((List.getD a0 (tN y1.2.2) ([],[])).2) a2)/\∀r4,(Eq r4 ((Xl4 ((List.getD a0 (tN y1.2.2) ([],[])).2) a2),((),())))->(List.length y1.1+List.length ([((List.getD a0 (tN y1.2.2) ([],[])).1,r4.1)]:List U3q)<=9223372036854775807/\((List.length y1.1+List.length ([((List.getD a0 (tN y1.2.2) ([],[])).1,r4.1)]:List U3q))*40<=140737488355328/\(eS [(0,.val false [.lst T5q a0 none]),(1,.val false [.str a1]),(2,.val false [.lst T0q a2 none])] [(0,.val false [.lst T5q a0 none]),(1,.val false [.str a1]),(2,.val false [.lst T0q a2 none])]/\(itI a0 a1 a2 (y1.1++[((List.getD a0 (tN y1.2.2) ([],[])).1,r4.1)]) true (wI (y1.2.2+(1:Int))))/\(itM a0 a1 a2 (y1.1++[((List.getD a0 (tN y1.2.2) ([],[])).1,r4.1)]) true (wI (y1.2.2+(1:Int))))<(itM a0 a1 a2 y1.1 y1.2.1 y1.2.2))))) (List.length y1.1+List.length ([((List.getD a0 (tN y1.2.2) ([],[])).1,(List.getD a0 (tN y1.2.2) ([],[])).2)]:List U3q)<=9223372036854775807/\((List.length y1.1+List.length ([((List.getD a0 (tN y1.2.2) ([],[])).1,(List.getD a0 (tN y1.2.2) ([],[])).2)]:List U3q))*40<=140737488355328/\(eS [(0,.val false [.lst T5q a0 none]),(1,.val false [.str a1]),(2,.val false [.lst T0q a2 none])] [(0,.val false [.lst T5q a0 none]),(1,.val false [.str a1]),(2,.val false [.lst T0q a2 none])]/\(itI a0 a1 a2 (y1.1++[((List.getD a0 (tN y1.2.2) ([],[])).1,(List.getD a0 (tN y1.2.2) ([],[])).2)]) y1.2.1 (wI (y1.2.2+(1:Int))))/\(itM a0 a1 a2 (y1.1++[((List.getD a0 (tN y1.2.2) ([],[])).1,(List.getD a0 (tN y1.2.2) ([],[])).2)]) y1.2.1 (wI (y1.2.2+(1:Int))))<(itM a0 a1 a2 y1.1 y1.2.1 y1.2.2)))))))) (X00 (!y1.2.1) (List.length ([]:List (Int×Int))+List.length a2<=9223372036854775807/\((List.length ([]:List (Int×Int))+List.length a2)*16<=140737488355328/\(List.length y1.1+List.length [(a1,(([]:List (Int×Int))++a2))]<=9223372036854775807/\((List.length y1.1+List.length [(a1,(([]:List (Int×Int))++a2))])*40<=140737488355328/\(Eq ((y1.1++[(a1,(([]:List (Int×Int))++a2))]),((),())) ((Xdr a0 a1 a2),((),()))))))) (Eq (y1.1,((),())) ((Xdr a0 a1 a2),((),())))))))
def X2R.L(a0:(List U3q))(a1:U6q)(a2:U9q):Nat->Option X0e:=XLK [(122,⟨⟨[0,1,2],[7,8,9],[],[kD 7 0 1000899 109]⟩,(.pair X5m (.pair .bool (.int .i64))),λst y=>itI a0 a1 a2 y.1 y.2.1 y.2.2,λst y=>itM a0 a1 a2 y.1 y.2.1 y.2.2⟩)]
theorem X2R.p(a0:(List U3q))(a1:U6q)(a2:U9q)(h:(Xtu a0 a1 a2)):X2R.F a0 a1 a2:=by
 delta X2R.F ln tN wI eS
 simp only[Bs,B0,B1,Yaa,X01,Xl4,Xm2,YaA,YaW]
 obtain⟨hn,hl⟩:=h
 have k1:=XaG a0
 refine⟨⟨by omega,by omega,rfl,by simp⟩,?_⟩
 rintro⟨out,put,i⟩ hI
 simp only at hI ⊢
 have q1:=hI.h1
 have q2:=hI.h2
 have q4:=hI.h4
 have hen:=XwB hI
 have hm:i<(a0.length:Int)->((a0.getD i.toNat ([],[])).2.length:Int)+1<=tot a0:=λhi=>Xft (X1a (by omega))
 have st:∀{o' put'},i<(a0.length:Int)->_->_->itI a0 a1 a2 o' put' (i+1):=λhi=>Xwf hI hi
 have dn:∀o p,i<(a0.length:Int)->itM a0 a1 a2 o p (i+1)<itM a0 a1 a2 out put i:=λo p h=>by unfold itM;omega
 generalize hx:a0.getD i.toNat ([],[])=x at st hm ⊢
 repeat' (with_reducible (first | (refine And.intro ?_ ?_) | intro _))
 all_goals (try simp (disch:=omega) only[w64,Yab,Yad,Yai]at*)
 all_goals (try have hm2:=hm ‹_›)
 all_goals (first
  | omega
  | exact dn _ _ ‹_›
  | exact(hen ‹_›).1 ‹_›
  | exact(hen ‹_›).2 ‹_›
  | (refine st ‹_› (by simp only[Yab,Yad,Yai];omega) λr=>?_;simp only[Xfw,Yam,Ybb,YaW];first | (simp[*];done) | (simp_all;done))
  | skip)
def X2R.e:GE:=mE Xas func116 [25] [X2P.e] [] (λi x=>X2R.L x.1 x.2.1 x.2.2) (λi x=>X2R.F x.1 x.2.1 x.2.2) λi x h _ _=>X2R.p x.1 x.2.1 x.2.2 h
def XjN(e:Eng):(List (List Ser)×Bool)×List Str:=(XhX e,e.2.2)
def X7g:Con:={A:=T8q,shA:=[.agg 3],backA:=[(2,9)],B:=Xf4,R:=(.pair (.list X5m) .bool),shR:=[(false,1),(false,1)],pre:=λ_ a=>(Xrm a),f:=some λ_ a=>((XjN a).1,((),(XjN a).2))}
def X1N.F(a0:X5E):Prop:=(eS [(0,.val true [.int .i64 a0.1,.lst T5q a0.2.1 none,.own .str 6]),(1,.box 2 0)] [(0,.val true [.int .i64 a0.1,.lst T5q a0.2.1 none,.own .str 6]),(1,.box 2 0)]/\((lyI a0 ([]:List (List U3q)) 0 a0.1 a0.2.1 a0.2.2)/\∀(y1:((List (List U3q))×(Int×X5E))),(lyI a0 y1.1 y1.2.1 y1.2.2.1 y1.2.2.2.1 y1.2.2.2.2)->(X00 (decide (y1.2.1<(ln y1.2.2.2.2))) (0<=y1.2.1/\(y1.2.1<(ln y1.2.2.2.2)/\((Xnu (List.getD y1.2.2.2.2 (tN y1.2.1) []))/\∀r2,(Eq r2 ((X0l (List.getD y1.2.2.2.2 (tN y1.2.1) [])),((),())))->(X00 (!r2.1.2) (Eq ((y1.1,false),((),y1.2.2.2.2)) ((XjN a0).1,((),(XjN a0).2))) (List.length y1.1+List.length [r2.1.1]<=9223372036854775807/\((List.length y1.1+List.length [r2.1.1])*24<=140737488355328/\(eS [(0,.val true [.int .i64 a0.1,.lst T5q a0.2.1 none,.own .str 6]),(1,.box 2 0)] [(0,.val true [.int .i64 a0.1,.lst T5q a0.2.1 none,.own .str 6]),(1,.box 2 0)]/\(lyI a0 (y1.1++[r2.1.1]) (wI (y1.2.1+(1:Int))) y1.2.2.1 y1.2.2.2.1 y1.2.2.2.2)/\(lyM a0 (y1.1++[r2.1.1]) (wI (y1.2.1+(1:Int))) y1.2.2.1 y1.2.2.2.1 y1.2.2.2.2)<(lyM a0 y1.1 y1.2.1 y1.2.2.1 y1.2.2.2.1 y1.2.2.2.2)))))))) (List.length y1.1+List.length [y1.2.2.2.1]<=9223372036854775807/\((List.length y1.1+List.length [y1.2.2.2.1])*24<=140737488355328/\(Eq (((y1.1++[y1.2.2.2.1]),true),((),y1.2.2.2.2)) ((XjN a0).1,((),(XjN a0).2))))))))
def X1N.L(a0:X5E):Nat->Option X0e:=XLK [(58,⟨⟨[0,1],[4,5],[2],[kD 4 0 1000515 25,kC 0 2 6 9]⟩,(.pair (.list X5m) (.pair (.int .i64) T8q)),λst y=>lyI a0 y.1 y.2.1 y.2.2.1 y.2.2.2.1 y.2.2.2.2,λst y=>lyM a0 y.1 y.2.1 y.2.2.1 y.2.2.2.1 y.2.2.2.2⟩)]
theorem X1N.p(a0:X5E)(h:(Xrm a0)):X1N.F a0:=by
 delta X1N.F ln tN wI eS
 simp only[Bs,B0,B1,Yaa,X01,YaA,XjN]
 obtain⟨hf,hl⟩:=h
 refine⟨⟨rfl,by omega,by omega,by simp[XaL],λj hj=>absurd hj (by simp)⟩,?_⟩
 rintro⟨out,i,fl,ca,fi⟩ hI
 simp only at hI ⊢
 have q1:=hI.h1
 have q2:=hI.h2
 have q3:=Ybo List.length hI.h3
 rw[Xio,Yal]at q3
 have st:=XsU hI
 have no:=Xxb hI
 have en:=XuK hI
 obtain rfl:=hI.h0
 simp only at hf hl q2 q3 st no en ⊢
 refine⟨λhi=>?_,λhi=>⟨by omega,by omega,en hi,trivial⟩⟩
 have hm:=X1a (d:=([]:List UInt8)) (by omega:i.toNat<fi.length)
 rw[w64 (x:=i+1) (by omega) (by omega)]
 exact⟨q1,hi,hf _ hm,λhr=>⟨no hi hr,trivial⟩,λhr=>⟨by omega,by omega,st hi hr,by unfold lyM;simp only;omega⟩⟩
def X1N.e:GE:=mE X7g func60 [96,4] [X37.e] [] (λi x=>X1N.L x) (λi x=>X1N.F x) λi x h _ _=>X1N.p x h
def XbB(e:Eng)(k:Str)(p:List Pt):Eng×Int:=X9X e k p
def Xta(e:Eng)(k:Str)(p:List Pt):Prop:=X3t e=true/\Xg8 e/\XfD k
def pPut(e:Eng)(k:Str)(p:List Pt):Prop:=Xg8 e/\XfD k
def XaW:Con:={A:=(.pair T8q T5q),shA:=[.agg 3,.one,.one],ownA:=[(2,9)],R:=(.pair T8q (.int .i64)),shR:=[(true,3),(false,1)],fresh:=[(2,9)],pre:=λ_ a=>(Xta a.1 a.2.1 a.2.2),f:=some λ_ a=>((XbB a.1 a.2.1 a.2.2),((),()))}
def X51.F(a0:X5E)(a1:U6q)(a2:U9q):Prop:=((XfD a1)/\∀r1,(Eq r1 ((X6w a1),((),())))->(X00 (!r1.1) (Eq (((a0.1,(a0.2.1,a0.2.2)),1),((),())) ((XbB a0 a1 a2),((),()))) (True/\∀r2,(Eq r2 ((X0K a2),((),())))->(X00 (!r2.1) (Eq (((a0.1,(a0.2.1,a0.2.2)),1),((),())) ((XbB a0 a1 a2),((),()))) (X00 ((ln a2)==(0:Int)) (Eq (((a0.1,(a0.2.1,a0.2.2)),1),((),())) ((XbB a0 a1 a2),((),()))) (0<=(0:Int)/\((0:Int)<(ln a2)/\(X00 (decide (((List.getD a2 (tN (0:Int)) (0,0)).1)<a0.1)) (Eq (((a0.1,(a0.2.1,a0.2.2)),2),((),())) ((XbB a0 a1 a2),((),()))) ((Xtu a0.2.1 a1 a2)/\∀r3,(Eq r3 ((Xdr a0.2.1 a1 a2),((),())))->((Xrm (a0.1,(r3.1,a0.2.2)))/\∀r4,(Eq r4 ((XjN (a0.1,(r3.1,a0.2.2))).1,((),(XjN (a0.1,(r3.1,a0.2.2))).2)))->((XrA r4.1.1 a0.1)/\∀r5,(Eq r5 ((XoB r4.1.1 a0.1),((),())))->((X3s r5.1)/\∀r6,(Eq r6 ((X0M r5.1),((),())))->(X00 (!r6.1) (Eq (((a0.1,(a0.2.1,r4.2.2)),3),((),())) ((XbB a0 a1 a2),((),()))) ((Xoq r3.1)/\∀r7,(Eq r7 ((Xf0 r3.1),((),())))->(X00 (decide (r7.1>(40:Int))) ((pFl (a0.1,(r3.1,r4.2.2)))/\∀r8,(Eq r8 ((fFl (a0.1,(r3.1,r4.2.2))),((),())))->(Eq (((r8.1.1,(r8.1.2.1,r8.1.2.2)),0),((),())) ((XbB a0 a1 a2),((),())))) (Eq (((a0.1,(r3.1,r4.2.2)),0),((),())) ((XbB a0 a1 a2),((),()))))))))))))))))))
theorem X51.p(a0:X5E)(a1:U6q)(a2:U9q)(h:(Xta a0 a1 a2)):X51.F a0 a1 a2:=by
 delta X51.F ln tN
 simp only[Bs,B0,B1,Yaa,X01,YaA,XbB,XjN]
 obtain⟨h1,hp,hk⟩:=h
 have G:=Xe9 h1 hp
 have bad:¬(X6w a1=true/\X0K a2=true/\a2≠[])->(a0,(1:Int))=X9X a0 a1 a2:=λh=>by unfold X9X;rw[Yah h1,Yae h]
 have late:(X6w a1=true/\X0K a2=true/\a2≠[])->(a2.getD 0 (0,0)).1<a0.1->(a0,(2:Int))=X9X a0 a1 a2:=λh h'=>by unfold X9X;rw[Yah h1,Yah h,Yah h']
 have full:(X6w a1=true/\X0K a2=true/\a2≠[])->¬(a2.getD 0 (0,0)).1<a0.1->X0M (X0k (eX a0 a1 a2)).1=false->(a0,(3:Int))=X9X a0 a1 a2:=λh h' h2=>by unfold X9X;rw[Yah h1,Yah h,Yae h',Yae (by rw[h2];decide)]
 have big:(X6w a1=true/\X0K a2=true/\a2≠[])->¬(a2.getD 0 (0,0)).1<a0.1->X0M (X0k (eX a0 a1 a2)).1=true->40<Xf0 (eX a0 a1 a2).2.1->(fFl (eX a0 a1 a2),(0:Int))=X9X a0 a1 a2:=λh h' h2 h3=>by unfold X9X;rw[Yah h1,Yah h,Yae h',Yah h2,Yah h3]
 have fine:(X6w a1=true/\X0K a2=true/\a2≠[])->¬(a2.getD 0 (0,0)).1<a0.1->X0M (X0k (eX a0 a1 a2)).1=true->¬40<Xf0 (eX a0 a1 a2).2.1->(eX a0 a1 a2,(0:Int))=X9X a0 a1 a2:=λh h' h2 h3=>by unfold X9X;rw[Yah h1,Yah h,Yae h',Yah h2,Yae h3]
 have ca:=X39 G.ca
 have le:=G.le
 refine⟨hk,λh2=>bad (by simp[h2]),λh2=>⟨λh3=>bad (by simp[h3]),λh3=>⟨λh4=>bad (λhh=>hh.2.2 (YaL.1 (by omega))),λh4=>?_⟩⟩⟩
 have hn:a2≠[]:=λe=>h4 (by rw[e];rfl)
 have hn2:0<a2.length:=Ybh.2 hn
 have hq:X6w a1=true/\X0K a2=true/\a2≠[]:=⟨h2,h3,hn⟩
 have hl:=Xdw h3
 have e0:(0:Int).toNat=0:=rfl
 simp only[e0]
 refine⟨by omega,by omega,λh5=>late hq h5,λh5=>⟨⟨by omega,by omega⟩,?_⟩⟩
 obtain⟨X1,X2⟩:=XhR h1 hp h3 hn h5
 have eX0:(a0.1,Xdr a0.2.1 a1 a2,a0.2.2)=eX a0 a1 a2:=by rw[XlQ G.R.1];rfl
 have eX1:Xdr a0.2.1 a1 a2=(eX a0 a1 a2).2.1:=by rw[<-eX0]
 have hS:∀x∈[((a1,a2):Ser)],Xf2 x.2:=λx hx=>by rw[YaN.1 hx];exact hl.1
 have hc2:Xd0 (eX a0 a1 a2).2.1:=X7l G.R hS
 have ht2:tot (eX a0 a1 a2).2.1<=305+61:=by
  have t1:=Xd1 G.R hS
  have t2:tot [((a1,a2):Ser)]=(a2.length:Int)+1:=by simp[tot,cL,cS]
  have t3:tot (eX a0 a1 a2).2.1=tot (X4D a0.2.1 [(a1,a2)]):=rfl
  omega
 have hy:XhX (eX a0 a1 a2)=(XaL a0.2.2++[(eX a0 a1 a2).2.1],true):=XfL (e:=eX a0 a1 a2) G.ok
 have hpl:XoB (XaL a0.2.2++[(eX a0 a1 a2).2.1]) a0.1=(X0k (eX a0 a1 a2)).1:=XtX (e:=eX a0 a1 a2) hc2 G.ok
 have htt:=XfS (eX a0 a1 a2)
 have htt2:cL tot (XaL (eX a0 a1 a2).2.2++[(eX a0 a1 a2).2.1])=cL tot (XaL a0.2.2++[(eX a0 a1 a2).2.1]):=rfl
 have hle2:(eX a0 a1 a2).2.2.length=a0.2.2.length:=rfl
 have hkey:X3s (X0k (eX a0 a1 a2)).1:=by
  rw[<-X1]
  have hk8:a1.length<=8:=by
   have:=h2;unfold X6w fIn at this;simp only[Yac,Yaj]at this;omega
  refine XkS (Xd5 (λx hx=>((X39 G.pl).2.2.2 x hx).1) λx hx=>?_)
  rw[YaN.1 hx];exact hk8
 rw[eX0,hy]
 simp only
 rw[hpl,eX1]
 refine⟨⟨G.st,by omega⟩,by unfold XrA;omega,hkey,λh6=>full hq h5 h6,λh6=>⟨by unfold Xoq;omega,λh7=>⟨X2 h6,big hq h5 h6 h7⟩,λh7=>fine hq h5 h6 (by omega)⟩⟩
def X51.e:GE:=mE XaW func59 [28,3] [X1N.e,X2F.e,X1z.e,X21.e,X1A.e,X41.e,X1C.e,X2R.e] [] noL (λi x=>X51.F x.1 x.2.1 x.2.2) λi x h _ _=>X51.p x.1 x.2.1 x.2.2 h
def XeI:Con:=cW (.pair T8q T5q) [.agg 3,.one,.one] (.pair T8q (.int .i64)) [(true,3),(false,1)] [(1,109),(2,9)] (λa=>(pPut a.1 a.2.1 a.2.2)) λa=>(X9X a.1 a.2.1 a.2.2)
def X9u.F(a0:X5E)(a1:U6q)(a2:U9q):Prop:=((Xg8 (a0.1,(a0.2.1,a0.2.2)))/\∀r1,(Eq r1 ((X3R (a0.1,(a0.2.1,a0.2.2))),((),())))->(X00 (!r1.1.2) (Eq (((0,(([]:(List U3q)),([]:(List U6q)))),1),((),())) ((X9X a0 a1 a2),((),()))) ((XpU (a0.1,(a0.2.1,a0.2.2)))/\∀r2,(Eq r2 ((Xoc (a0.1,(a0.2.1,a0.2.2))),((),())))->((XfD a1)/\∀r3,(Eq r3 ((X6w a1),((),())))->(X00 (!r3.1) (Eq (((r2.1.1,(r2.1.2.1,r2.1.2.2)),1),((),())) ((X9X a0 a1 a2),((),()))) (True/\∀r4,(Eq r4 ((X0K a2),((),())))->(X00 (!r4.1) (Eq (((r2.1.1,(r2.1.2.1,r2.1.2.2)),1),((),())) ((X9X a0 a1 a2),((),()))) (X00 ((ln a2)==(0:Int)) (Eq (((r2.1.1,(r2.1.2.1,r2.1.2.2)),1),((),())) ((X9X a0 a1 a2),((),()))) (0<=(0:Int)/\((0:Int)<(ln a2)/\(X00 (decide (((List.getD a2 (tN (0:Int)) (0,0)).1)<r2.1.1)) (Eq (((r2.1.1,(r2.1.2.1,r2.1.2.2)),2),((),())) ((X9X a0 a1 a2),((),()))) ((XpP r1.1.1 [(a1,a2)])/\∀r5,(Eq r5 ((X4D r1.1.1 [(a1,a2)]),((),())))->((X3s r5.1)/\∀r6,(Eq r6 ((X0M r5.1),((),())))->(X00 (!r6.1) (Eq (((r2.1.1,(r2.1.2.1,r2.1.2.2)),3),((),())) ((X9X a0 a1 a2),((),()))) ((XpP r2.1.2.1 [(a1,a2)])/\∀r7,(Eq r7 ((X4D r2.1.2.1 [(a1,a2)]),((),())))->((Xoq r7.1)/\∀r8,(Eq r8 ((Xf0 r7.1),((),())))->(X00 (decide (r8.1>(40:Int))) ((pFl (r2.1.1,(r7.1,r2.1.2.2)))/\∀r9,(Eq r9 ((fFl (r2.1.1,(r7.1,r2.1.2.2))),((),())))->(Eq (((r9.1.1,(r9.1.2.1,r9.1.2.2)),0),((),())) ((X9X a0 a1 a2),((),())))) (Eq (((r2.1.1,(r7.1,r2.1.2.2)),0),((),())) ((X9X a0 a1 a2),((),()))))))))))))))))))))
theorem X9u.p(a0:X5E)(a1:U6q)(a2:U9q)(h:(pPut a0 a1 a2)):X9u.F a0 a1 a2:=by
 delta X9u.F ln tN
 simp only[Bs,B0,B1,Yaa,X01,YaA,Xoc]
 obtain⟨hp,hk⟩:=h
 refine⟨hp,λh1=>?_,λh1=>?_⟩
 . unfold X9X;rw[Yae (by rw[<-Xi6,h1];decide)];rfl
 have h1:X3t a0=true:=h1
 have G:=Xe9 h1 hp
 have bad:¬(X6w a1=true/\X0K a2=true/\a2≠[])->(a0,(1:Int))=X9X a0 a1 a2:=λh=>by unfold X9X;rw[Yah h1,Yae h]
 have late:(X6w a1=true/\X0K a2=true/\a2≠[])->(a2.getD 0 (0,0)).1<a0.1->(a0,(2:Int))=X9X a0 a1 a2:=λh h'=>by unfold X9X;rw[Yah h1,Yah h,Yah h']
 have full:(X6w a1=true/\X0K a2=true/\a2≠[])->¬(a2.getD 0 (0,0)).1<a0.1->X0M (X0k (eX a0 a1 a2)).1=false->(a0,(3:Int))=X9X a0 a1 a2:=λh h' h2=>by unfold X9X;rw[Yah h1,Yah h,Yae h',Yae (by rw[h2];decide)]
 have big:(X6w a1=true/\X0K a2=true/\a2≠[])->¬(a2.getD 0 (0,0)).1<a0.1->X0M (X0k (eX a0 a1 a2)).1=true->40<Xf0 (eX a0 a1 a2).2.1->(fFl (eX a0 a1 a2),(0:Int))=X9X a0 a1 a2:=λh h' h2 h3=>by unfold X9X;rw[Yah h1,Yah h,Yae h',Yah h2,Yah h3]
 have fine:(X6w a1=true/\X0K a2=true/\a2≠[])->¬(a2.getD 0 (0,0)).1<a0.1->X0M (X0k (eX a0 a1 a2)).1=true->¬40<Xf0 (eX a0 a1 a2).2.1->(eX a0 a1 a2,(0:Int))=X9X a0 a1 a2:=λh h' h2 h3=>by unfold X9X;rw[Yah h1,Yah h,Yae h',Yah h2,Yae h3]
 have ca:=X39 G.ca
 have le:=G.le
 obtain⟨g1,g2,g3,g4⟩:=X8j h1
 rw[g3]
 simp only
 refine⟨Xoz h1,hk,λh2=>bad (by simp[h2]),λh2=>⟨λh3=>bad (by simp[h3]),λh3=>⟨λh4=>bad (λhh=>hh.2.2 (YaL.1 (by omega))),λh4=>?_⟩⟩⟩
 have hn:a2≠[]:=λe=>h4 (by rw[e];rfl)
 have hn2:0<a2.length:=Ybh.2 hn
 have hq:X6w a1=true/\X0K a2=true/\a2≠[]:=⟨h2,h3,hn⟩
 have hl:=Xdw h3
 have e0:(0:Int).toNat=0:=rfl
 simp only[e0]
 have pl:=X39 G.pl
 have hS:∀x∈[((a1,a2):Ser)],Xf2 x.2:=λx hx=>by rw[YaN.1 hx];exact hl.1
 have t2:tot [((a1,a2):Ser)]=(a2.length:Int)+1:=by simp[tot,cL,cS]
 refine⟨by omega,by omega,λh5=>late hq h5,λh5=>⟨⟨pl.1,hS,by omega⟩,?_⟩⟩
 obtain⟨X1,X2⟩:=XhR h1 hp h3 hn h5
 have hkey:X3s (X0k (eX a0 a1 a2)).1:=by
  rw[<-X1]
  have hk8:a1.length<=8:=by
   have:=h2;unfold X6w fIn at this;simp only[Yac,Yaj]at this;omega
  refine XkS (Xd5 (λx hx=>((X39 G.pl).2.2.2 x hx).1) λx hx=>?_)
  rw[YaN.1 hx];exact hk8
 have t1:=Xd1 (t:=[(a1,a2)]) G.R hS
 rw[X1]
 refine⟨hkey,λh6=>full hq h5 h6,λh6=>⟨⟨G.R,hS,by omega⟩,by unfold Xoq;omega,λh7=>⟨X2 h6,big hq h5 h6 h7⟩,λh7=>fine hq h5 h6 (show ¬40<Xf0 (X4D a0.2.1 [(a1,a2)]) by omega)⟩⟩
def X9u.e:GE:=mE XeI func151 [28,3] [X1O.e,X1l.e,X4c.e,X28.e,X3N.e,X27.e,X43.e,X5e.e] [] noL (λi x=>X9u.F x.1 x.2.1 x.2.2) λi x h _ _=>X9u.p x.1 x.2.1 x.2.2 h
abbrev Op:=Int×(List UInt8×(Int×(Int×List UInt8)))
def XdT(o:Op):Bool:=decide (o.2.2.1>=0)&&(decide (o.2.2.1<o.2.2.2.1)&&decide (o.2.2.2.1<=1099511627776))
def X0L(o:Op):Bool:=
 if o.1=1 then XdT o&&(decide (o.2.1=[])&&decide (o.2.2.2.2=[]))
 else if o.1=2\/o.1=6 then fIn o.2.2.1 0 1099511627776&&(decide (o.2.1=[])&&(decide (o.2.2.2.1=0)&&decide (o.2.2.2.2=[])))
 else if o.1=3 then fIn o.2.2.1 0 100000&&(decide (o.2.1=[])&&(decide (o.2.2.2.1=0)&&decide (o.2.2.2.2=[])))
 else if o.1=4 then X6w o.2.1&&((X0r o.2.2.2.2).2&&(decide (o.2.2.1=0)&&decide (o.2.2.2.1=0)))
 else if o.1=5 then X6w o.2.1&&(XdT o&&decide (o.2.2.2.2=[]))
 else if o.1=7 then decide (o.2.1=[])&&(decide (o.2.2.1=0)&&(decide (o.2.2.2.1=0)&&decide (o.2.2.2.2=[])))
 else false
def pOp(o:Op):Prop:=o.2.1.length<=maxLen
def XaY:Con:=cQ XjH [.agg 5] .bool [(false,1)] (λ_=>True) λa=>(XdT a)
def X54.F(a0:Xc5):Prop:=(X00 (decide (a0.2.2.1>=(0:Int))) (X00 (decide (a0.2.2.1<a0.2.2.2.1)) (Eq ((decide (a0.2.2.2.1<=(1099511627776:Int))),((),())) ((XdT a0),((),()))) (Eq (false,((),())) ((XdT a0),((),())))) (Eq (false,((),())) ((XdT a0),((),()))))
theorem X54.p(a0:Xc5)(h:True)(hw:Wf XaY.A a0):X54.F a0:=by
 unfold X54.F
 simp only[Bs,B0,B1,Yaa,X01]
 repeat' (with_reducible (first | (refine And.intro ?_ ?_) | intro _))
 all_goals (try simp (disch:=omega) only[w64,wu8,tn0,tn1,tm1,tm2,Yab,Yad,Yai]at*)
 all_goals (try simp (disch:=omega) only[w64,wu8,tn0,tn1,tm1,tm2,Yab,Yad,Yai]at*)
 all_goals (try omega)
 all_goals (try grind[XdT])
def X54.e:GE:=mE XaY func95 [4] [] [] noL (λi x=>X54.F x) λi x h _ hw=>X54.p x h hw
def Xdc:Con:=cQ XjH [.agg 5] .bool [(false,1)] (λa=>(pOp a)) λa=>(X0L a)
def X64.F(a0:Xc5):Prop:=(X00 (decide (a0.2.2.1>=(0:Int))) (X00 (decide (a0.2.2.1<a0.2.2.2.1)) (X00 (a0.1==(1:Int)) (X00 (decide (a0.2.2.2.1<=(1099511627776:Int))) (Eq ((a0.1==a0.1&&(([]:List UInt8)==a0.2.1&&(a0.2.2.1==a0.2.2.1&&(a0.2.2.2.1==a0.2.2.2.1&&(([]:List UInt8)==a0.2.2.2.2&&true))))),((),())) ((X0L a0),((),()))) (Eq (false,((),())) ((X0L a0),((),())))) (X00 (a0.1==(2:Int)) (X00 (a0.1==(2:Int)) (True/\∀r1,(Eq r1 ((fIn a0.2.2.1 0 1099511627776),((),())))->(X00 r1.1 (Eq ((a0.1==a0.1&&(([]:List UInt8)==a0.2.1&&(a0.2.2.1==a0.2.2.1&&((0:Int)==a0.2.2.2.1&&(([]:List UInt8)==a0.2.2.2.2&&true))))),((),())) ((X0L a0),((),()))) (Eq (false,((),())) ((X0L a0),((),()))))) (X00 (a0.1==(3:Int)) (True/\∀r2,(Eq r2 ((fIn a0.2.2.1 0 100000),((),())))->(X00 r2.1 (Eq ((a0.1==a0.1&&(([]:List UInt8)==a0.2.1&&(a0.2.2.1==a0.2.2.1&&((0:Int)==a0.2.2.2.1&&(([]:List UInt8)==a0.2.2.2.2&&true))))),((),())) ((X0L a0),((),()))) (Eq (false,((),())) ((X0L a0),((),()))))) (X00 (a0.1==(4:Int)) (True/\∀r3,(Eq r3 ((X0r a0.2.2.2.2),((),())))->((XfD a0.2.1)/\∀r4,(Eq r4 ((X6w a0.2.1),((),())))->(X00 r4.1 (X00 r3.1.2 (Eq ((a0.1==a0.1&&(a0.2.1==a0.2.1&&((0:Int)==a0.2.2.1&&((0:Int)==a0.2.2.2.1&&(a0.2.2.2.2==a0.2.2.2.2&&true))))),((),())) ((X0L a0),((),()))) (Eq (false,((),())) ((X0L a0),((),())))) (Eq (false,((),())) ((X0L a0),((),())))))) (X00 (a0.1==(5:Int)) ((XfD a0.2.1)/\∀r5,(Eq r5 ((X6w a0.2.1),((),())))->(X00 r5.1 (X00 (decide (a0.2.2.2.1<=(1099511627776:Int))) (Eq ((a0.1==a0.1&&(a0.2.1==a0.2.1&&(a0.2.2.1==a0.2.2.1&&(a0.2.2.2.1==a0.2.2.2.1&&(([]:List UInt8)==a0.2.2.2.2&&true))))),((),())) ((X0L a0),((),()))) (Eq (false,((),())) ((X0L a0),((),())))) (Eq (false,((),())) ((X0L a0),((),()))))) (X00 (a0.1==(7:Int)) (Eq ((a0.1==a0.1&&(([]:List UInt8)==a0.2.1&&((0:Int)==a0.2.2.1&&((0:Int)==a0.2.2.2.1&&(([]:List UInt8)==a0.2.2.2.2&&true))))),((),())) ((X0L a0),((),()))) (Eq (false,((),())) ((X0L a0),((),())))))))) (X00 (a0.1==(6:Int)) (True/\∀r6,(Eq r6 ((fIn a0.2.2.1 0 1099511627776),((),())))->(X00 r6.1 (Eq ((a0.1==a0.1&&(([]:List UInt8)==a0.2.1&&(a0.2.2.1==a0.2.2.1&&((0:Int)==a0.2.2.2.1&&(([]:List UInt8)==a0.2.2.2.2&&true))))),((),())) ((X0L a0),((),()))) (Eq (false,((),())) ((X0L a0),((),()))))) (X00 (a0.1==(3:Int)) (True/\∀r7,(Eq r7 ((fIn a0.2.2.1 0 100000),((),())))->(X00 r7.1 (Eq ((a0.1==a0.1&&(([]:List UInt8)==a0.2.1&&(a0.2.2.1==a0.2.2.1&&((0:Int)==a0.2.2.2.1&&(([]:List UInt8)==a0.2.2.2.2&&true))))),((),())) ((X0L a0),((),()))) (Eq (false,((),())) ((X0L a0),((),()))))) (X00 (a0.1==(4:Int)) (True/\∀r8,(Eq r8 ((X0r a0.2.2.2.2),((),())))->((XfD a0.2.1)/\∀r9,(Eq r9 ((X6w a0.2.1),((),())))->(X00 r9.1 (X00 r8.1.2 (Eq ((a0.1==a0.1&&(a0.2.1==a0.2.1&&((0:Int)==a0.2.2.1&&((0:Int)==a0.2.2.2.1&&(a0.2.2.2.2==a0.2.2.2.2&&true))))),((),())) ((X0L a0),((),()))) (Eq (false,((),())) ((X0L a0),((),())))) (Eq (false,((),())) ((X0L a0),((),())))))) (X00 (a0.1==(5:Int)) ((XfD a0.2.1)/\∀r10,(Eq r10 ((X6w a0.2.1),((),())))->(X00 r10.1 (X00 (decide (a0.2.2.2.1<=(1099511627776:Int))) (Eq ((a0.1==a0.1&&(a0.2.1==a0.2.1&&(a0.2.2.1==a0.2.2.1&&(a0.2.2.2.1==a0.2.2.2.1&&(([]:List UInt8)==a0.2.2.2.2&&true))))),((),())) ((X0L a0),((),()))) (Eq (false,((),())) ((X0L a0),((),())))) (Eq (false,((),())) ((X0L a0),((),()))))) (X00 (a0.1==(7:Int)) (Eq ((a0.1==a0.1&&(([]:List UInt8)==a0.2.1&&((0:Int)==a0.2.2.1&&((0:Int)==a0.2.2.2.1&&(([]:List UInt8)==a0.2.2.2.2&&true))))),((),())) ((X0L a0),((),()))) (Eq (false,((),())) ((X0L a0),((),())))))))))) (X00 (a0.1==(1:Int)) (Eq (false,((),())) ((X0L a0),((),()))) (X00 (a0.1==(2:Int)) (X00 (a0.1==(2:Int)) (True/\∀r11,(Eq r11 ((fIn a0.2.2.1 0 1099511627776),((),())))->(X00 r11.1 (Eq ((a0.1==a0.1&&(([]:List UInt8)==a0.2.1&&(a0.2.2.1==a0.2.2.1&&((0:Int)==a0.2.2.2.1&&(([]:List UInt8)==a0.2.2.2.2&&true))))),((),())) ((X0L a0),((),()))) (Eq (false,((),())) ((X0L a0),((),()))))) (X00 (a0.1==(3:Int)) (True/\∀r12,(Eq r12 ((fIn a0.2.2.1 0 100000),((),())))->(X00 r12.1 (Eq ((a0.1==a0.1&&(([]:List UInt8)==a0.2.1&&(a0.2.2.1==a0.2.2.1&&((0:Int)==a0.2.2.2.1&&(([]:List UInt8)==a0.2.2.2.2&&true))))),((),())) ((X0L a0),((),()))) (Eq (false,((),())) ((X0L a0),((),()))))) (X00 (a0.1==(4:Int)) (True/\∀r13,(Eq r13 ((X0r a0.2.2.2.2),((),())))->((XfD a0.2.1)/\∀r14,(Eq r14 ((X6w a0.2.1),((),())))->(X00 r14.1 (X00 r13.1.2 (Eq ((a0.1==a0.1&&(a0.2.1==a0.2.1&&((0:Int)==a0.2.2.1&&((0:Int)==a0.2.2.2.1&&(a0.2.2.2.2==a0.2.2.2.2&&true))))),((),())) ((X0L a0),((),()))) (Eq (false,((),())) ((X0L a0),((),())))) (Eq (false,((),())) ((X0L a0),((),())))))) (X00 (a0.1==(5:Int)) ((XfD a0.2.1)/\∀r15,(Eq r15 ((X6w a0.2.1),((),())))->(X00 r15.1 (Eq (false,((),())) ((X0L a0),((),()))) (Eq (false,((),())) ((X0L a0),((),()))))) (X00 (a0.1==(7:Int)) (Eq ((a0.1==a0.1&&(([]:List UInt8)==a0.2.1&&((0:Int)==a0.2.2.1&&((0:Int)==a0.2.2.2.1&&(([]:List UInt8)==a0.2.2.2.2&&true))))),((),())) ((X0L a0),((),()))) (Eq (false,((),())) ((X0L a0),((),())))))))) (X00 (a0.1==(6:Int)) (True/\∀r16,(Eq r16 ((fIn a0.2.2.1 0 1099511627776),((),())))->(X00 r16.1 (Eq ((a0.1==a0.1&&(([]:List UInt8)==a0.2.1&&(a0.2.2.1==a0.2.2.1&&((0:Int)==a0.2.2.2.1&&(([]:List UInt8)==a0.2.2.2.2&&true))))),((),())) ((X0L a0),((),()))) (Eq (false,((),())) ((X0L a0),((),()))))) (X00 (a0.1==(3:Int)) (True/\∀r17,(Eq r17 ((fIn a0.2.2.1 0 100000),((),())))->(X00 r17.1 (Eq ((a0.1==a0.1&&(([]:List UInt8)==a0.2.1&&(a0.2.2.1==a0.2.2.1&&((0:Int)==a0.2.2.2.1&&(([]:List UInt8)==a0.2.2.2.2&&true))))),((),())) ((X0L a0),((),()))) (Eq (false,((),())) ((X0L a0),((),()))))) (X00 (a0.1==(4:Int)) (True/\∀r18,(Eq r18 ((X0r a0.2.2.2.2),((),())))->((XfD a0.2.1)/\∀r19,(Eq r19 ((X6w a0.2.1),((),())))->(X00 r19.1 (X00 r18.1.2 (Eq ((a0.1==a0.1&&(a0.2.1==a0.2.1&&((0:Int)==a0.2.2.1&&((0:Int)==a0.2.2.2.1&&(a0.2.2.2.2==a0.2.2.2.2&&true))))),((),())) ((X0L a0),((),()))) (Eq (false,((),())) ((X0L a0),((),())))) (Eq (false,((),())) ((X0L a0),((),())))))) (X00 (a0.1==(5:Int)) ((XfD a0.2.1)/\∀r20,(Eq r20 ((X6w a0.2.1),((),())))->(X00 r20.1 (Eq (false,((),())) ((X0L a0),((),()))) (Eq (false,((),())) ((X0L a0),((),()))))) (X00 (a0.1==(7:Int)) (Eq ((a0.1==a0.1&&(([]:List UInt8)==a0.2.1&&((0:Int)==a0.2.2.1&&((0:Int)==a0.2.2.2.1&&(([]:List UInt8)==a0.2.2.2.2&&true))))),((),())) ((X0L a0),((),()))) (Eq (false,((),())) ((X0L a0),((),()))))))))))) (X00 (a0.1==(1:Int)) (Eq (false,((),())) ((X0L a0),((),()))) (X00 (a0.1==(2:Int)) (X00 (a0.1==(2:Int)) (True/\∀r21,(Eq r21 ((fIn a0.2.2.1 0 1099511627776),((),())))->(X00 r21.1 (Eq ((a0.1==a0.1&&(([]:List UInt8)==a0.2.1&&(a0.2.2.1==a0.2.2.1&&((0:Int)==a0.2.2.2.1&&(([]:List UInt8)==a0.2.2.2.2&&true))))),((),())) ((X0L a0),((),()))) (Eq (false,((),())) ((X0L a0),((),()))))) (X00 (a0.1==(3:Int)) (True/\∀r22,(Eq r22 ((fIn a0.2.2.1 0 100000),((),())))->(X00 r22.1 (Eq ((a0.1==a0.1&&(([]:List UInt8)==a0.2.1&&(a0.2.2.1==a0.2.2.1&&((0:Int)==a0.2.2.2.1&&(([]:List UInt8)==a0.2.2.2.2&&true))))),((),())) ((X0L a0),((),()))) (Eq (false,((),())) ((X0L a0),((),()))))) (X00 (a0.1==(4:Int)) (True/\∀r23,(Eq r23 ((X0r a0.2.2.2.2),((),())))->((XfD a0.2.1)/\∀r24,(Eq r24 ((X6w a0.2.1),((),())))->(X00 r24.1 (X00 r23.1.2 (Eq ((a0.1==a0.1&&(a0.2.1==a0.2.1&&((0:Int)==a0.2.2.1&&((0:Int)==a0.2.2.2.1&&(a0.2.2.2.2==a0.2.2.2.2&&true))))),((),())) ((X0L a0),((),()))) (Eq (false,((),())) ((X0L a0),((),())))) (Eq (false,((),())) ((X0L a0),((),())))))) (X00 (a0.1==(5:Int)) ((XfD a0.2.1)/\∀r25,(Eq r25 ((X6w a0.2.1),((),())))->(X00 r25.1 (Eq (false,((),())) ((X0L a0),((),()))) (Eq (false,((),())) ((X0L a0),((),()))))) (X00 (a0.1==(7:Int)) (Eq ((a0.1==a0.1&&(([]:List UInt8)==a0.2.1&&((0:Int)==a0.2.2.1&&((0:Int)==a0.2.2.2.1&&(([]:List UInt8)==a0.2.2.2.2&&true))))),((),())) ((X0L a0),((),()))) (Eq (false,((),())) ((X0L a0),((),())))))))) (X00 (a0.1==(6:Int)) (True/\∀r26,(Eq r26 ((fIn a0.2.2.1 0 1099511627776),((),())))->(X00 r26.1 (Eq ((a0.1==a0.1&&(([]:List UInt8)==a0.2.1&&(a0.2.2.1==a0.2.2.1&&((0:Int)==a0.2.2.2.1&&(([]:List UInt8)==a0.2.2.2.2&&true))))),((),())) ((X0L a0),((),()))) (Eq (false,((),())) ((X0L a0),((),()))))) (X00 (a0.1==(3:Int)) (True/\∀r27,(Eq r27 ((fIn a0.2.2.1 0 100000),((),())))->(X00 r27.1 (Eq ((a0.1==a0.1&&(([]:List UInt8)==a0.2.1&&(a0.2.2.1==a0.2.2.1&&((0:Int)==a0.2.2.2.1&&(([]:List UInt8)==a0.2.2.2.2&&true))))),((),())) ((X0L a0),((),()))) (Eq (false,((),())) ((X0L a0),((),()))))) (X00 (a0.1==(4:Int)) (True/\∀r28,(Eq r28 ((X0r a0.2.2.2.2),((),())))->((XfD a0.2.1)/\∀r29,(Eq r29 ((X6w a0.2.1),((),())))->(X00 r29.1 (X00 r28.1.2 (Eq ((a0.1==a0.1&&(a0.2.1==a0.2.1&&((0:Int)==a0.2.2.1&&((0:Int)==a0.2.2.2.1&&(a0.2.2.2.2==a0.2.2.2.2&&true))))),((),())) ((X0L a0),((),()))) (Eq (false,((),())) ((X0L a0),((),())))) (Eq (false,((),())) ((X0L a0),((),())))))) (X00 (a0.1==(5:Int)) ((XfD a0.2.1)/\∀r30,(Eq r30 ((X6w a0.2.1),((),())))->(X00 r30.1 (Eq (false,((),())) ((X0L a0),((),()))) (Eq (false,((),())) ((X0L a0),((),()))))) (X00 (a0.1==(7:Int)) (Eq ((a0.1==a0.1&&(([]:List UInt8)==a0.2.1&&((0:Int)==a0.2.2.1&&((0:Int)==a0.2.2.2.1&&(([]:List UInt8)==a0.2.2.2.2&&true))))),((),())) ((X0L a0),((),()))) (Eq (false,((),())) ((X0L a0),((),())))))))))))
theorem X64.p(a0:Xc5)(h:(pOp a0))(hw:Wf Xdc.A a0):X64.F a0:=by
 unfold X64.F
 simp only[Bs,B0,B1,Yaa,X01,XfD,YaA]
 have hkl:a0.2.1.length<=maxLen:=h
 obtain⟨k,key,f,t,d⟩:=a0
 simp only[X0L,XdT,BEq.rfl,YaT,Ybt]
 repeat' (with_reducible (first | (refine And.intro ?_ ?_) | intro _))
 all_goals (try simp (disch:=omega) only[w64,wu8,tn0,tn1,tm1,tm2,Yab,Yad,Yai]at*)
 all_goals (try simp (disch:=omega) only[w64,wu8,tn0,tn1,tm1,tm2,Yab,Yad,Yai]at*)
 all_goals (try omega)
 all_goals (try grind[])
def X64.e:GE:=mE Xdc func56 [4] [X29.e,X19.e,X41.e] [] noL (λi x=>X64.F x) λi x h _ hw=>X64.p x h hw
def XdC:Con:=cQ XjH [.agg 5] .bool [(false,1)] (λa=>(pOp a)) λa=>(X0L a)
def X6M.F(a0:Xc5):Prop:=(X00 (a0.1==(1:Int)) (True/\∀r1,(Eq r1 ((XdT (a0.1,(a0.2.1,(a0.2.2.1,(a0.2.2.2.1,a0.2.2.2.2))))),((),())))->(X00 r1.1 (Eq (((0:Int)==(0:Int)&&(a0.2.1==([]:List UInt8)&&((0:Int)==(0:Int)&&((0:Int)==(0:Int)&&(a0.2.2.2.2==([]:List UInt8)&&true))))),((),())) ((X0L a0),((),()))) (Eq (false,((),())) ((X0L a0),((),()))))) (X00 (a0.1==(2:Int)) (X00 (a0.1==(2:Int)) (True/\∀r2,(Eq r2 ((Xau a0.2.2.1),((),())))->(X00 r2.1 (Eq (((0:Int)==(0:Int)&&(a0.2.1==([]:List UInt8)&&((0:Int)==(0:Int)&&(a0.2.2.2.1==(0:Int)&&(a0.2.2.2.2==([]:List UInt8)&&true))))),((),())) ((X0L a0),((),()))) (Eq (false,((),())) ((X0L a0),((),()))))) (X00 (a0.1==(3:Int)) (True/\∀r3,(Eq r3 ((fIn a0.2.2.1 0 100000),((),())))->(X00 r3.1 (Eq (((0:Int)==(0:Int)&&(a0.2.1==([]:List UInt8)&&((0:Int)==(0:Int)&&(a0.2.2.2.1==(0:Int)&&(a0.2.2.2.2==([]:List UInt8)&&true))))),((),())) ((X0L a0),((),()))) (Eq (false,((),())) ((X0L a0),((),()))))) (X00 (a0.1==(4:Int)) (True/\∀r4,(Eq r4 ((X0r a0.2.2.2.2),((),())))->(X00 r4.1.2 ((XfD a0.2.1)/\∀r5,(Eq r5 ((X6w a0.2.1),((),())))->(X00 r5.1 (Eq (((0:Int)==(0:Int)&&(([]:List UInt8)==([]:List UInt8)&&(a0.2.2.1==(0:Int)&&(a0.2.2.2.1==(0:Int)&&(([]:List UInt8)==([]:List UInt8)&&true))))),((),())) ((X0L a0),((),()))) (Eq (false,((),())) ((X0L a0),((),()))))) (Eq (false,((),())) ((X0L a0),((),()))))) (X00 (a0.1==(5:Int)) ((XfD a0.2.1)/\∀r6,(Eq r6 ((X6w a0.2.1),((),())))->(X00 r6.1 (True/\∀r7,(Eq r7 ((XdT (a0.1,(a0.2.1,(a0.2.2.1,(a0.2.2.2.1,a0.2.2.2.2))))),((),())))->(X00 r7.1 (Eq (((0:Int)==(0:Int)&&(([]:List UInt8)==([]:List UInt8)&&((0:Int)==(0:Int)&&((0:Int)==(0:Int)&&(a0.2.2.2.2==([]:List UInt8)&&true))))),((),())) ((X0L a0),((),()))) (Eq (false,((),())) ((X0L a0),((),()))))) (Eq (false,((),())) ((X0L a0),((),()))))) (X00 (a0.1==(7:Int)) (Eq (((0:Int)==(0:Int)&&(a0.2.1==([]:List UInt8)&&(a0.2.2.1==(0:Int)&&(a0.2.2.2.1==(0:Int)&&(a0.2.2.2.2==([]:List UInt8)&&true))))),((),())) ((X0L a0),((),()))) (Eq (false,((),())) ((X0L a0),((),())))))))) (X00 (a0.1==(6:Int)) (True/\∀r8,(Eq r8 ((Xau a0.2.2.1),((),())))->(X00 r8.1 (Eq (((0:Int)==(0:Int)&&(a0.2.1==([]:List UInt8)&&((0:Int)==(0:Int)&&(a0.2.2.2.1==(0:Int)&&(a0.2.2.2.2==([]:List UInt8)&&true))))),((),())) ((X0L a0),((),()))) (Eq (false,((),())) ((X0L a0),((),()))))) (X00 (a0.1==(3:Int)) (True/\∀r9,(Eq r9 ((fIn a0.2.2.1 0 100000),((),())))->(X00 r9.1 (Eq (((0:Int)==(0:Int)&&(a0.2.1==([]:List UInt8)&&((0:Int)==(0:Int)&&(a0.2.2.2.1==(0:Int)&&(a0.2.2.2.2==([]:List UInt8)&&true))))),((),())) ((X0L a0),((),()))) (Eq (false,((),())) ((X0L a0),((),()))))) (X00 (a0.1==(4:Int)) (True/\∀r10,(Eq r10 ((X0r a0.2.2.2.2),((),())))->(X00 r10.1.2 ((XfD a0.2.1)/\∀r11,(Eq r11 ((X6w a0.2.1),((),())))->(X00 r11.1 (Eq (((0:Int)==(0:Int)&&(([]:List UInt8)==([]:List UInt8)&&(a0.2.2.1==(0:Int)&&(a0.2.2.2.1==(0:Int)&&(([]:List UInt8)==([]:List UInt8)&&true))))),((),())) ((X0L a0),((),()))) (Eq (false,((),())) ((X0L a0),((),()))))) (Eq (false,((),())) ((X0L a0),((),()))))) (X00 (a0.1==(5:Int)) ((XfD a0.2.1)/\∀r12,(Eq r12 ((X6w a0.2.1),((),())))->(X00 r12.1 (True/\∀r13,(Eq r13 ((XdT (a0.1,(a0.2.1,(a0.2.2.1,(a0.2.2.2.1,a0.2.2.2.2))))),((),())))->(X00 r13.1 (Eq (((0:Int)==(0:Int)&&(([]:List UInt8)==([]:List UInt8)&&((0:Int)==(0:Int)&&((0:Int)==(0:Int)&&(a0.2.2.2.2==([]:List UInt8)&&true))))),((),())) ((X0L a0),((),()))) (Eq (false,((),())) ((X0L a0),((),()))))) (Eq (false,((),())) ((X0L a0),((),()))))) (X00 (a0.1==(7:Int)) (Eq (((0:Int)==(0:Int)&&(a0.2.1==([]:List UInt8)&&(a0.2.2.1==(0:Int)&&(a0.2.2.2.1==(0:Int)&&(a0.2.2.2.2==([]:List UInt8)&&true))))),((),())) ((X0L a0),((),()))) (Eq (false,((),())) ((X0L a0),((),()))))))))))
theorem X6M.p(a0:Xc5)(h:(pOp a0))(hw:Wf XdC.A a0):X6M.F a0:=by
 unfold X6M.F
 simp only[Bs,B0,B1,Yaa,X01,XfD,YaA,Xau]
 have hkl:a0.2.1.length<=maxLen:=h
 obtain⟨k,key,f,t,d⟩:=a0
 simp only[X0L,XdT,BEq.rfl,YaT,Ybt]
 repeat' (with_reducible (first | (refine And.intro ?_ ?_) | intro _))
 all_goals (try simp (disch:=omega) only[w64,wu8,tn0,tn1,tm1,tm2,Yab,Yad,Yai]at*)
 all_goals (try simp (disch:=omega) only[w64,wu8,tn0,tn1,tm1,tm2,Yab,Yad,Yai]at*)
 all_goals (try omega)
 all_goals (try grind[])
def X6M.e:GE:=mE XdC func53 [4] [X0V.e,X4d.e,X54.e,X1q.e,X4c.e] [] noL (λi x=>X6M.F x) λi x h _ hw=>X6M.p x h hw
end Go.Proofs.YtgmafgmjbaoomaaGreat.B
