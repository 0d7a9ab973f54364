/- Files of series:read. -/
import Derived.Test.YtgmafgmjbaoomaaGreatCFile
import Derived.Test.YtgmafgmjbaoomaaGreatCRBlk
import Derived.Test.YtgmafgmjbaoomaaGreatCRd
set_option linter.unusedVariables false
set_option linter.unusedSimpArgs false
namespace Go.Proofs.YtgmafgmjbaoomaaGreat.B
open Go Go.Proofs.YtgmafgmjbaoomaaGreat.Bv
def ixF:List Ser→Nat→List UInt8
 | [],_=>[]
 | x::r,n=>XaE x n++ixF r (n+(X0c x.2).length)
def txF(l:List Ser):List UInt8:=l.flatMap fun x=>X0c x.2
theorem Xjb:∀(l:List Ser) (t x:List UInt8),l.foldl Xkj (t,x)=(t++txF l,x++ixF l t.length)
 | [],t,x=>by simp[txF,ixF]
 | s::l,t,x=>by
   rw[List.foldl_cons,Xkj,Xjb l]
   simp only[txF,ixF,List.flatMap_cons,List.append_assoc,List.length_append]
theorem Xdv(a b:List Ser):txF (a++b)=txF a++txF b:=by simp[txF]
theorem Xh5(x:Ser)(b:List Ser):txF (x::b)=X0c x.2++txF b:=by simp[txF]
theorem Xaq:∀l:List Ser,(txF l).length≤2014*l.length
 | []=>by simp[txF]
 | x::l=>by
   have h1:=Xaq l
   have h2:=Xav x.2
   rw[Xh5,List.length_append,List.length_cons];omega
def tF(l:List Ser):List UInt8:=[116,115,98,49]++txF l
theorem XfA(l:List Ser):(tF l).length=4+(txF l).length:=by simp[tF];omega
def RF(s:List UInt8)(l:List Ser):Prop:=(X8C l=true∧l≠[])∧X9Z l=s
instance (s:List UInt8) (l:List Ser):Decidable (RF s l):=by unfold RF;infer_instance
theorem XgQ{n:Nat}(h:n<4294967296):X14 n 4=X1Q (fx 4 n):=by
 unfold X14
 rw[if_pos ⟨by decide,by omega,by rw[show(4:Int).toNat=4 from rfl];omega⟩];rfl
structure Lay (s:List UInt8) (l:List Ser):Prop where
 len:s.length=(tF l).length+(ixF l 4).length+8
 five:l.length≤5
 at4:X0q (s.drop ((tF l).length+(ixF l 4).length)) 4=(((tF l).length:Int),true)
 ix:(s.take ((tF l).length+(ixF l 4).length)).drop (tF l).length=ixF l 4
 tx:s.take (tF l).length=tF l
theorem RF.lay{s:List UInt8}{l:List Ser}(h:RF s l):Lay s l:=by
 obtain⟨h0,rfl⟩:=h
 have h5:=(Xjo h0.1).1
 have ht:=Xaq l
 have hl:=XfA l
 have e:Xo1 l=(tF l,ixF l 4):=by
  have:=Xjb l [116,115,98,49] []
  rw[List.nil_append]at this
  exact this
 have e2:X9Z l=(tF l++ixF l 4)++(X14 (tF l).length 4++X14 (XeC (XfF (Xo1 l))) 4):=by
  unfold X9Z
  rw[if_pos h0]
  conv=>lhs;rw[e]
  rw[e]
  simp only[XfF,List.append_assoc]
 have l1:(X14 (tF l).length 4).length=4:=by rw[XgQ (by omega),X74,X7k]
 have l2:=XcA (XfF (Xo1 l))
 have hlen:(X9Z l).length=(tF l).length+(ixF l 4).length+8:=by
  rw[e2];simp only[List.length_append,l1,l2]
 have e3:(tF l).length+(ixF l 4).length=(tF l++ixF l 4).length:=by rw[List.length_append]
 refine⟨hlen,h5,?_,?_,?_⟩
 · rw[e2,e3,List.drop_left]
   unfold X0q
   rw[if_pos ⟨by decide,by rw[List.length_append,l1,l2];decide⟩,show(4:Int).toNat=(X14 (tF l).length 4).length from l1.symm,List.take_left,XgQ (by omega),Xn6 4 _ (by omega)]
 · rw[e2,e3,List.take_left,List.drop_left]
 · rw[e2,List.append_assoc,List.take_left]
theorem XbQ{v:Int}(h:X3K v)(q:List UInt8):X4z (X1H v++q,true)=(v,(q,true)):=by
 have hp:=X5r h
 have e:=XeF h q
 rw[Xny (i:=(X1H v++q,true)) rfl (by rw[e];simp only;omega)]
 simp only
 rw[e]
 simp only[Int.toNat_natCast,List.drop_left]
theorem Xjw{k:List UInt8}(h:k.length≤1000)(q:List UInt8):X8g (X1H k.length++(k++q),true)=(k,(q,true)):=by
 unfold X8g
 rw[XbQ (by unfold X3K;omega)]
 unfold Xmz
 rw[if_pos ⟨rfl,by simp only[List.length_append];omega⟩]
 simp only[Int.toNat_natCast,List.take_left,List.drop_left]
structure At (s:List UInt8) (x:Ser) (p:Nat) (bl:Nat):Prop where
 key:1≤x.1.length∧x.1.length≤8
 eb:bl=(X0c x.2).length
 blk:(s.take (p+bl)).drop p=X0c x.2
 fit:p+bl+8≤s.length
 small:p+bl≤12000
 read:X0t (X0c x.2)=(x.2,true)
 t0:X3K (x.2.getD 0 (0,0)).1
 t1:X3K (x.2.getD (x.2.length - 1) (0,0)).1
theorem XhL{l:List Pt}(h:X1G l=true∧l≠[]):X0t (X0c l)=(l,true):=(Xc5 ⟨h,by unfold X0c;rw[if_pos h];rfl⟩).symm
theorem Xpd{l:List Pt}(h:X1G l=true){i:Nat}(hi:i<l.length):0≤(l.getD i (0,0)).1∧(l.getD i (0,0)).1≤1099511627776:=by
 have:=(Xhx.1 ((Xdt.1 h).2 i hi)).1
 have:=X5Z.1 this
 rw[Xf6]at this
 exact this.1
theorem RF.at{s:List UInt8}{a b:List Ser}{x:Ser}(h:RF s (a++x::b)):At s x (4+(txF a).length) (X0c x.2).length:=by
 have L:=h.lay
 have hs:=(Xjo h.1.1).2 a.length (by simp)
 have ex:(a++x::b).getD a.length ([],[])=x:=by simp[List.getD_eq_getElem?_getD]
 rw[ex]at hs
 obtain⟨q1,q2,q3,q4⟩:=hs
 have q5:0<x.2.length:=by omega
 have q3:x.2≠[]:=List.length_pos_iff.1 q5
 have htl:=XfA (a++x::b)
 have e1:tF (a++x::b)=([116,115,98,49]++txF a)++(X0c x.2++txF b):=by
  simp only[tF,Xdv,Xh5,List.append_assoc]
 have e2:4+(txF a).length=([116,115,98,49]++txF a).length:=by simp;omega
 have e3:(tF (a++x::b)).length=4+(txF a).length+(X0c x.2).length+(txF b).length:=by
  rw[e1];simp only[List.length_append,List.length_cons,List.length_nil];omega
 have e4:s.take (4+(txF a).length+(X0c x.2).length)=([116,115,98,49]++txF a)++X0c x.2:=by
  have:s.take (4+(txF a).length+(X0c x.2).length)=(s.take (tF (a++x::b)).length).take (4+(txF a).length+(X0c x.2).length):=by
   rw[List.take_take];congr 1;omega
  rw[this,L.tx,e1,←List.append_assoc,e2,←List.length_append,List.take_left]
 have p0:=Xpd q4 (i:=0) (by omega)
 have p1:=Xpd q4 (i:=x.2.length - 1) (by omega)
 have h5:=L.five
 have tb:=Xaq (a++x::b)
 have el:=L.len
 refine⟨⟨q2,q1⟩,rfl,?_,by omega,by omega,XhL ⟨q4,q3⟩,by unfold X3K;omega,by unfold X3K;omega⟩
 rw[e4,e2,List.drop_left]
theorem XgP(x:Ser)(p:Nat)(r:List UInt8):XaE x p++r=X1H x.1.length++(x.1++(X1H p++(X1H (X0c x.2).length++(X1H (x.2.getD 0 (0,0)).1++(X1H (x.2.getD (x.2.length - 1) (0,0)).1++r))))):=by
 simp only[XaE,List.append_assoc]
structure Rs (s rest:List UInt8) (x:Ser) (p:Nat) (r:List UInt8):Prop where
 k:(X8g (rest,true)).1=x.1
 b:(X4z (X8g (rest,true)).2).1=(p:Int)
 c:(X4z (X4z (X8g (rest,true)).2).2).1=((X0c x.2).length:Int)
 d:(X4z (X4z (X4z (X4z (X8g (rest,true)).2).2).2).2).2=(r,true)
theorem At.rs{s:List UInt8}{x:Ser}{p:Nat}(h:At s x p (X0c x.2).length)(r:List UInt8):Rs s (XaE x p++r) x p r:=by
 have hk:=h.key
 have hs:=h.small
 have a1:=Xjw (k:=x.1) (by omega) (X1H p++(X1H (X0c x.2).length++(X1H (x.2.getD 0 (0,0)).1++(X1H (x.2.getD (x.2.length - 1) (0,0)).1++r))))
 have a2:=XbQ (v:=(p:Int)) (by unfold X3K;omega) (X1H (X0c x.2).length++(X1H (x.2.getD 0 (0,0)).1++(X1H (x.2.getD (x.2.length - 1) (0,0)).1++r)))
 have a3:=XbQ (v:=((X0c x.2).length:Int)) (by unfold X3K;omega) (X1H (x.2.getD 0 (0,0)).1++(X1H (x.2.getD (x.2.length - 1) (0,0)).1++r))
 have a4:=XbQ h.t0 (X1H (x.2.getD (x.2.length - 1) (0,0)).1++r)
 have a5:=XbQ h.t1 r
 rw[XgP]
 refine⟨?_,?_,?_,?_⟩
 · rw[a1]
 · rw[a1];simp only;rw[a2]
 · rw[a1];simp only;rw[a2];simp only;rw[a3]
 · rw[a1];simp only;rw[a2];simp only;rw[a3];simp only;rw[a4];simp only;rw[a5]
def dcF(s:List UInt8):Nat→Rd→List Ser
 | 0,_=>[]
 | k+1,r=>if r.1=[] then [] else((X8g r).1,(X0t ((s.take ((X4z (X8g r).2).1+(X4z (X4z (X8g r).2).2).1).toNat).drop (X4z (X8g r).2).1.toNat)).1)::dcF s k (X4z (X4z (X4z (X4z (X8g r).2).2).2).2).2
def cF(s:List UInt8):List Ser:=dcF s 6 ((s.take (s.length - 8)).drop (X0q (s.drop (s.length - 8)) 4).1.toNat,true)
theorem Xjq{x:Ser}{p:Nat}(h:1≤x.1.length)(r:List UInt8):XaE x p++r≠[]:=by
 intro e
 have:=congrArg List.length e
 rw[XgP]at this
 simp only[List.length_append,List.length_nil]at this
 omega
theorem Xmf{s:List UInt8}:∀(b a:List Ser) (k:Nat),RF s (a++b)→b.length<k→dcF s k (ixF b (4+(txF a).length),true)=b
 | [],a,k+1,h,hk=>by simp[dcF,ixF]
 | x::b,a,k+1,h,hk=>by
   have A:=h.at
   have R:=A.rs (ixF b (4+(txF a).length+(X0c x.2).length))
   rw[dcF,if_neg (by simp only;rw[ixF];exact Xjq A.key.1 _),ixF,R.d]
   have hn:RF s ((a++[x])++b):=by rw[List.append_assoc];exact h
   have ih:=Xmf b (a++[x]) k hn (by simp at hk;omega)
   rw[Xdv,List.length_append,show txF [x]=X0c x.2 by simp[txF],←Nat.add_assoc]at ih
   rw[ih,R.c,R.b,R.k]
   rw[show((((4+(txF a).length:Nat):Int)+((X0c x.2).length:Int))).toNat=4+(txF a).length+(X0c x.2).length by omega,Int.toNat_natCast,A.blk,A.read]
theorem RF.dec{s:List UInt8}{l:List Ser}(h:RF s l):cF s=l:=by
 have L:=h.lay
 have e:s.length - 8=(tF l).length+(ixF l 4).length:=by rw[L.len];omega
 unfold cF
 rw[e,L.at4]
 simp only[Int.toNat_natCast]
 rw[L.ix]
 have:=Xmf (s:=s) l [] 6 (by simpa using h) (by have:=L.five;omega)
 simpa [txF] using this
def XcC(s:List UInt8):List Ser×Bool:=if RF s (cF s) then(cF s,true) else([],false)
def fI(s rest:List UInt8)(ok:Bool)(out:List Ser):Prop:=(rest.length≤s.length∧(∀x∈out,x.1.length≤maxLen)∧out.length≤6)∧∀l,RF s l→ok=true∧∃b,l=out++b∧rest=ixF b (4+(txF out).length)
def fM(s rest:List UInt8)(ok:Bool)(out:List Ser):Nat:=6 - out.length
def XlR.L(a0:U4q):Nat→Option X0a:=fun p=>Go.Proofs.YtgmafgmjbaoomaaGreat.Bv.look p [(1020,{kp:={hold:=[0,4,7],slots:=[8],boxes:=[35],rows:=[{bx:=false,s:=8,i:=0,k:=1001027,e:=109,hot:=true}]},T:=(.pair .str (.pair .bool X8V)),I:=fun st y=>fI a0 y.1 y.2.1 y.2.2,μ:=fun st y=>fM a0 y.1 y.2.1 y.2.2})]
def lI(s:List UInt8)(at':Int)(out:List Ser):Prop:=(12≤s.length∧0≤at'∧at'≤(s.length:Int) - 8∧(∀x∈out,x.1.length≤maxLen)∧out.length≤5)∧∀l,RF s l→∃b,l=out++b∧(s.take (s.length - 8)).drop at'.toNat=ixF b (4+(txF out).length)
def lM(s:List UInt8)(at':Int)(out:List Ser):Nat:=((s.length:Int) - at').toNat
def Xm5.L(a0:U4q):Nat→Option X0a:=fun p=>Go.Proofs.YtgmafgmjbaoomaaGreat.Bv.look p [(508,{kp:={hold:=[0,7],slots:=[4,5],boxes:=[],rows:=[{bx:=false,s:=4,i:=0,k:=1000515,e:=109,hot:=true}]},T:=(.pair (.int .i64) X8V),I:=fun st y=>lI a0 y.1 y.2,μ:=fun st y=>lM a0 y.1 y.2})]
end Go.Proofs.YtgmafgmjbaoomaaGreat.B
