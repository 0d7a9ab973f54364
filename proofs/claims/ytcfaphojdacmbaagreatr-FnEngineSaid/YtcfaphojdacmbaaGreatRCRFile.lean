/- Files of series:read. -/
import Derived.Test.YtcfaphojdacmbaaGreatRCFile
import Derived.Test.YtcfaphojdacmbaaGreatRCRBlk
import Derived.Test.YtcfaphojdacmbaaGreatRCRd
set_option maxRecDepth 100000
set_option linter.unusedVariables false
set_option linter.unusedSimpArgs false
namespace Go.Proofs.YtcfaphojdacmbaaGreatR.B
open Go Go.Proofs.YtcfaphojdacmbaaGreatR.Bv
def ixF:List Ser→Nat→List UInt8
 | [],_=>[]
 | x::r,n=>X5j x n++ixF r (n+(X04 x.2).length)
def txF(l:List Ser):List UInt8:=l.flatMap fun x=>X04 x.2
theorem XmF:∀(l:List Ser) (t x:List UInt8),l.foldl Xnl (t,x)=(t++txF l,x++ixF l t.length)
 | [],t,x=>by simp[txF,ixF]
 | s::l,t,x=>by
   rw[List.foldl_cons,Xnl,XmF l]
   simp only[txF,ixF,List.flatMap_cons,List.append_assoc,List.length_append]
theorem XaP(a b:List Ser):txF (a++b)=txF a++txF b:=by simp[txF]
theorem Xkk(x:Ser)(b:List Ser):txF (x::b)=X04 x.2++txF b:=by simp[txF]
theorem XaL:∀l:List Ser,(txF l).length≤2014*l.length
 | []=>by simp[txF]
 | x::l=>by
   have h1:=XaL l
   have h2:=X56 x.2
   rw[Xkk,List.length_append,List.length_cons];omega
def tF(l:List Ser):List UInt8:=[116,115,98,49]++txF l
theorem Xa4(l:List Ser):(tF l).length=4+(txF l).length:=by simp[tF];omega
def RF(s:List UInt8)(l:List Ser):Prop:=(X0y l=true∧l≠[])∧X0j l=s
instance (s:List UInt8) (l:List Ser):Decidable (RF s l):=by unfold RF;infer_instance
theorem XjE{n:Nat}(h:n<4294967296):X0D n 4=X2w (fx 4 n):=by
 unfold X0D
 rw[if_pos ⟨by decide,by omega,by rw[show(4:Int).toNat=4 from rfl];omega⟩];rfl
structure Lay (s:List UInt8) (l:List Ser):Prop where
 len:s.length=(tF l).length+(ixF l 4).length+8
 five:l.length≤5
 at4:X0r (s.drop ((tF l).length+(ixF l 4).length)) 4=(((tF l).length:Int),true)
 ix:(s.take ((tF l).length+(ixF l 4).length)).drop (tF l).length=ixF l 4
 tx:s.take (tF l).length=tF l
theorem RF.lay{s:List UInt8}{l:List Ser}(h:RF s l):Lay s l:=by
 obtain⟨h0,rfl⟩:=h
 have h5:=(XdN h0.1).1
 have ht:=XaL l
 have hl:=Xa4 l
 have e:XpX l=(tF l,ixF l 4):=by
  have:=XmF l [116,115,98,49] []
  rw[List.nil_append]at this
  exact this
 have e2:X0j l=(tF l++ixF l 4)++(X0D (tF l).length 4++X0D (Xdg (XhI (XpX l))) 4):=by
  unfold X0j
  rw[if_pos h0]
  conv=>lhs;rw[e]
  rw[e]
  simp only[XhI,List.append_assoc]
 have l1:(X0D (tF l).length 4).length=4:=by rw[XjE (by omega),X90,X9j]
 have l2:=XeH (XhI (XpX l))
 have hlen:(X0j l).length=(tF l).length+(ixF l 4).length+8:=by
  rw[e2];simp only[List.length_append,l1,l2]
 have e3:(tF l).length+(ixF l 4).length=(tF l++ixF l 4).length:=by rw[List.length_append]
 refine⟨hlen,h5,?_,?_,?_⟩
 · rw[e2,e3,List.drop_left]
   unfold X0r
   rw[if_pos ⟨by decide,by rw[List.length_append,l1,l2];decide⟩,show(4:Int).toNat=(X0D (tF l).length 4).length from l1.symm,List.take_left,XjE (by omega),Xqa 4 _ (by omega)]
 · rw[e2,e3,List.take_left,List.drop_left]
 · rw[e2,List.append_assoc,List.take_left]
theorem XeY{v:Int}(h:X4s v)(q:List UInt8):X4K (X1P v++q,true)=(v,(q,true)):=by
 have hp:=X7I h
 have e:=Xko h q
 rw[XpC (i:=(X1P v++q,true)) rfl (by rw[e];simp only;omega)]
 simp only
 rw[e]
 simp only[Int.toNat_natCast,List.drop_left]
theorem Xmg{k:List UInt8}(h:k.length≤1000)(q:List UInt8):X3O (X1P k.length++(k++q),true)=(k,(q,true)):=by
 unfold X3O
 rw[XeY (by unfold X4s;omega)]
 unfold X7t
 rw[if_pos ⟨rfl,by simp only[List.length_append];omega⟩]
 simp only[Int.toNat_natCast,List.take_left,List.drop_left]
structure At (s:List UInt8) (x:Ser) (p:Nat) (bl:Nat):Prop where
 key:1≤x.1.length∧x.1.length≤8
 eb:bl=(X04 x.2).length
 blk:(s.take (p+bl)).drop p=X04 x.2
 fit:p+bl+8≤s.length
 small:p+bl≤12000
 read:X0Y (X04 x.2)=(x.2,true)
 t0:X4s (x.2.getD 0 (0,0)).1
 t1:X4s (x.2.getD (x.2.length - 1) (0,0)).1
theorem Xle{l:List Pt}(h:X0s l=true∧l≠[]):X0Y (X04 l)=(l,true):=(XdP ⟨h,by unfold X04;rw[if_pos h];rfl⟩).symm
theorem Xrr{l:List Pt}(h:X0s l=true){i:Nat}(hi:i<l.length):0≤(l.getD i (0,0)).1∧(l.getD i (0,0)).1≤1099511627776:=by
 have:=(Xkc.1 ((Xgj.1 h).2 i hi)).1
 have:=X7Q.1 this
 rw[Xhn]at this
 exact this.1
theorem RF.at{s:List UInt8}{a b:List Ser}{x:Ser}(h:RF s (a++x::b)):At s x (4+(txF a).length) (X04 x.2).length:=by
 have L:=h.lay
 have hs:=(XdN h.1.1).2 a.length (by simp)
 have ex:(a++x::b).getD a.length ([],[])=x:=by simp[List.getD_eq_getElem?_getD]
 rw[ex]at hs
 obtain⟨q1,q2,q3,q4⟩:=hs
 have q5:0<x.2.length:=by omega
 have q3:x.2≠[]:=List.length_pos_iff.1 q5
 have htl:=Xa4 (a++x::b)
 have e1:tF (a++x::b)=([116,115,98,49]++txF a)++(X04 x.2++txF b):=by
  simp only[tF,XaP,Xkk,List.append_assoc]
 have e2:4+(txF a).length=([116,115,98,49]++txF a).length:=by simp;omega
 have e3:(tF (a++x::b)).length=4+(txF a).length+(X04 x.2).length+(txF b).length:=by
  rw[e1];simp only[List.length_append,List.length_cons,List.length_nil];omega
 have e4:s.take (4+(txF a).length+(X04 x.2).length)=([116,115,98,49]++txF a)++X04 x.2:=by
  have:s.take (4+(txF a).length+(X04 x.2).length)=(s.take (tF (a++x::b)).length).take (4+(txF a).length+(X04 x.2).length):=by
   rw[List.take_take];congr 1;omega
  rw[this,L.tx,e1,←List.append_assoc,e2,←List.length_append,List.take_left]
 have p0:=Xrr q4 (i:=0) (by omega)
 have p1:=Xrr q4 (i:=x.2.length - 1) (by omega)
 have h5:=L.five
 have tb:=XaL (a++x::b)
 have el:=L.len
 refine⟨⟨q2,q1⟩,rfl,?_,by omega,by omega,Xle ⟨q4,q3⟩,by unfold X4s;omega,by unfold X4s;omega⟩
 rw[e4,e2,List.drop_left]
theorem XdE(x:Ser)(p:Nat)(r:List UInt8):X5j x p++r=X1P x.1.length++(x.1++(X1P p++(X1P (X04 x.2).length++(X1P (x.2.getD 0 (0,0)).1++(X1P (x.2.getD (x.2.length - 1) (0,0)).1++r))))):=by
 simp only[X5j,List.append_assoc]
structure Rs (s rest:List UInt8) (x:Ser) (p:Nat) (r:List UInt8):Prop where
 k:(X3O (rest,true)).1=x.1
 b:(X4K (X3O (rest,true)).2).1=(p:Int)
 c:(X4K (X4K (X3O (rest,true)).2).2).1=((X04 x.2).length:Int)
 d:(X4K (X4K (X4K (X4K (X3O (rest,true)).2).2).2).2).2=(r,true)
theorem At.rs{s:List UInt8}{x:Ser}{p:Nat}(h:At s x p (X04 x.2).length)(r:List UInt8):Rs s (X5j x p++r) x p r:=by
 have hk:=h.key
 have hs:=h.small
 have a1:=Xmg (k:=x.1) (by omega) (X1P p++(X1P (X04 x.2).length++(X1P (x.2.getD 0 (0,0)).1++(X1P (x.2.getD (x.2.length - 1) (0,0)).1++r))))
 have a2:=XeY (v:=(p:Int)) (by unfold X4s;omega) (X1P (X04 x.2).length++(X1P (x.2.getD 0 (0,0)).1++(X1P (x.2.getD (x.2.length - 1) (0,0)).1++r)))
 have a3:=XeY (v:=((X04 x.2).length:Int)) (by unfold X4s;omega) (X1P (x.2.getD 0 (0,0)).1++(X1P (x.2.getD (x.2.length - 1) (0,0)).1++r))
 have a4:=XeY h.t0 (X1P (x.2.getD (x.2.length - 1) (0,0)).1++r)
 have a5:=XeY h.t1 r
 rw[XdE]
 refine⟨?_,?_,?_,?_⟩
 · rw[a1]
 · rw[a1];simp only;rw[a2]
 · rw[a1];simp only;rw[a2];simp only;rw[a3]
 · rw[a1];simp only;rw[a2];simp only;rw[a3];simp only;rw[a4];simp only;rw[a5]
def dcF(s:List UInt8):Nat→Rd→List Ser
 | 0,_=>[]
 | k+1,r=>if r.1=[] then [] else((X3O r).1,(X0Y ((s.take ((X4K (X3O r).2).1+(X4K (X4K (X3O r).2).2).1).toNat).drop (X4K (X3O r).2).1.toNat)).1)::dcF s k (X4K (X4K (X4K (X4K (X3O r).2).2).2).2).2
def cF(s:List UInt8):List Ser:=dcF s 6 ((s.take (s.length - 8)).drop (X0r (s.drop (s.length - 8)) 4).1.toNat,true)
theorem Xhy{x:Ser}{p:Nat}(h:1≤x.1.length)(r:List UInt8):X5j x p++r≠[]:=by
 intro e
 have:=congrArg List.length e
 rw[XdE]at this
 simp only[List.length_append,List.length_nil]at this
 omega
theorem XoD{s:List UInt8}:∀(b a:List Ser) (k:Nat),RF s (a++b)→b.length<k→dcF s k (ixF b (4+(txF a).length),true)=b
 | [],a,k+1,h,hk=>by simp[dcF,ixF]
 | x::b,a,k+1,h,hk=>by
   have A:=h.at
   have R:=A.rs (ixF b (4+(txF a).length+(X04 x.2).length))
   rw[dcF,if_neg (by simp only;rw[ixF];exact Xhy A.key.1 _),ixF,R.d]
   have hn:RF s ((a++[x])++b):=by rw[List.append_assoc];exact h
   have ih:=XoD b (a++[x]) k hn (by simp at hk;omega)
   rw[XaP,List.length_append,show txF [x]=X04 x.2 by simp[txF],←Nat.add_assoc]at ih
   rw[ih,R.c,R.b,R.k]
   rw[show((((4+(txF a).length:Nat):Int)+((X04 x.2).length:Int))).toNat=4+(txF a).length+(X04 x.2).length by omega,Int.toNat_natCast,A.blk,A.read]
theorem RF.dec{s:List UInt8}{l:List Ser}(h:RF s l):cF s=l:=by
 have L:=h.lay
 have e:s.length - 8=(tF l).length+(ixF l 4).length:=by rw[L.len];omega
 unfold cF
 rw[e,L.at4]
 simp only[Int.toNat_natCast]
 rw[L.ix]
 have:=XoD (s:=s) l [] 6 (by simpa using h) (by have:=L.five;omega)
 simpa [txF] using this
def X0e(s:List UInt8):List Ser×Bool:=if RF s (cF s) then(cF s,true) else([],false)
theorem Xf3{s:List UInt8}{l:List Ser}(h:RF s l):(l,true)=X0e s:=by
 unfold X0e;rw[h.dec,if_pos h]
theorem X78{s:List UInt8}(h:∀l,¬RF s l):([],false)=X0e s:=by
 unfold X0e;rw[if_neg (h _)]
theorem XqH{s:List UInt8}{l:List Ser}(h:X0j l=s)(h2:s≠[]):RF s l:=by
 unfold RF
 refine⟨?_,h⟩
 unfold X0j at h
 split at h
 · rename_i h3;exact h3
 · exact absurd h.symm h2
def fI(s rest:List UInt8)(ok:Bool)(out:List Ser):Prop:=(rest.length≤s.length∧(∀x∈out,x.1.length≤maxLen)∧out.length≤6)∧∀l,RF s l→ok=true∧∃b,l=out++b∧rest=ixF b (4+(txF out).length)
def fM(s rest:List UInt8)(ok:Bool)(out:List Ser):Nat:=6 - out.length
theorem XrI{s rest:List UInt8}{ok:Bool}{out:List Ser}(h:fI s rest ok out)(he:ok=true→rest≠[]→out.length≤5→False):∀l,RF s l→ok=true∧out=l:=fun l hl=>by
 obtain⟨h1,b,h2,h3⟩:=h.2 l hl
 refine⟨h1,?_⟩
 have h5:=hl.lay.five
 cases b with
 | nil=>rw[h2];simp
 | cons x b=>
   exfalso
   subst h2
   have A:=hl.at
   exact he h1 (by rw[h3,ixF];exact Xhy A.key.1 _) (by rw[List.length_append]at h5;omega)
theorem Xqh{s rest:List UInt8}{ok:Bool}{out:List Ser}(hs:s≠[])(h:fI s rest ok out)(he:ok=true→rest≠[]→out.length≤5→False):
 (ok=false→([],false)=X0e s)∧(ok=true→((out.length:Int)=0→([],false)=X0e s)∧(¬(out.length:Int)=0→X27 out∧(¬X0j out=s→([],false)=X0e s)∧(X0j out=s→(out,true)=X0e s))):=by
 have hf:=XrI h he
 refine⟨fun h1=>X78 fun l hl=>?_,fun h1=>⟨fun h2=>X78 fun l hl=>?_,fun h2=>⟨h.1.2.1,fun h3=>X78 fun l hl=>h3 ?_,fun h3=>Xf3 (XqH h3 hs)⟩⟩⟩
 · rw[(hf l hl).1]at h1;cases h1
 · have:=(hf l hl).2;exact hl.1.2 (by rw[←this];exact List.length_eq_zero_iff.1 (by omega))
 · rw[(hf l hl).2];exact hl.2
theorem Xrx{s rest:List UInt8}{out:List Ser}(h:fI s rest true out)(hr:rest≠[]):(∀l,RF s l→∃x b,l=out++x::b∧rest=X5j x (4+(txF out).length)++ixF b (4+(txF out).length+(X04 x.2).length)∧At s x (4+(txF out).length) (X04 x.2).length∧Rs s rest x (4+(txF out).length) (ixF b (4+(txF out).length+(X04 x.2).length))):=fun l hl=>by
 obtain⟨h1,b,h2,h3⟩:=h.2 l hl
 cases b with
 | nil=>exact absurd h3 hr
 | cons x b=>
   rw[ixF]at h3
   have A:At s x (4+(txF out).length) (X04 x.2).length:=RF.at (h2▸hl)
   exact⟨x,b,h2,h3,A,h3▸A.rs _⟩
def X6t:Con:={A:=.str,shA:=[.one],R:=(.pair T9q .bool),shR:=[(false,1),(false,1)],fresh:=[(0,83)],pre:=fun _ a=>(Xgn a),f:=some fun _ a=>((X0e a),((),()))}
def X21.F(a0:U5q):Prop:=(X00 (decide ((wI ((ln a0) - (8:Int)))<(4:Int))) (Eq ((([]:(List U1q)),false),((),())) ((X0e a0),((),()))) (0≤(wI ((ln a0) - (8:Int)))∧((wI ((ln a0) - (8:Int)))≤(ln a0)∧(True∧∀r1,(Eq r1 ((X0r (List.drop (tN (wI ((ln a0) - (8:Int)))) a0) 4),((),())))→(X00 (decide (r1.1.1>(wI ((ln a0) - (8:Int))))) (Eq ((([]:(List U1q)),false),((),())) ((X0e a0),((),()))) (0≤r1.1.1∧(r1.1.1≤(wI ((ln a0) - (8:Int)))∧((wI ((ln a0) - (8:Int)))≤(ln a0)∧(eS [(0,.val false [.str a0]),(4,.val false [.int .i64 (wI ((ln a0) - (8:Int)))]),(7,.box 35 0)] [(0,.val false [.str a0]),(4,.val false [.int .i64 (wI ((ln a0) - (8:Int)))]),(7,.box 35 0)]∧((fI a0 (List.drop (tN r1.1.1) (List.take (tN (wI ((ln a0) - (8:Int)))) a0)) true ([]:List U1q))∧∀(y2:(U5q×(Bool×(List U1q)))),(fI a0 y2.1 y2.2.1 y2.2.2)→(X00 y2.2.1 (X00 (!(y2.1==[])) (X00 (decide ((ln y2.2.2)≤(5:Int))) (True∧∀r3,(Eq r3 ((X3O (y2.1,y2.2.1)).1,((X3O (y2.1,y2.2.1)).2,())))→(True∧∀r4,(Eq r4 ((X4K (r3.2.1.1,r3.2.1.2)).1,((X4K (r3.2.1.1,r3.2.1.2)).2,())))→(True∧∀r5,(Eq r5 ((X4K (r4.2.1.1,r4.2.1.2)).1,((X4K (r4.2.1.1,r4.2.1.2)).2,())))→(True∧∀r6,(Eq r6 ((X4K (r5.2.1.1,r5.2.1.2)).1,((X4K (r5.2.1.1,r5.2.1.2)).2,())))→(True∧∀r7,(Eq r7 ((X4K (r6.2.1.1,r6.2.1.2)).1,((X4K (r6.2.1.1,r6.2.1.2)).2,())))→(X00 (!r7.2.1.2) (Eq ((([]:(List U1q)),false),((),())) ((X0e a0),((),()))) (X00 (decide (r4.1>(wI ((ln a0) - (8:Int))))) (Eq ((([]:(List U1q)),false),((),())) ((X0e a0),((),()))) (X00 (decide (r5.1>(wI ((wI ((ln a0) - (8:Int))) - r4.1)))) (Eq ((([]:(List U1q)),false),((),())) ((X0e a0),((),()))) (0≤r4.1∧(r4.1≤(wI (r4.1+r5.1))∧((wI (r4.1+r5.1))≤(ln a0)∧(True∧∀r8,(Eq r8 ((X0Y (List.drop (tN r4.1) (List.take (tN (wI (r4.1+r5.1))) a0))),((),())))→(List.length y2.2.2+List.length [(r3.1,r8.1.1)]≤9223372036854775807∧((List.length y2.2.2+List.length [(r3.1,r8.1.1)])*40≤140737488355328∧(eS [(0,.val false [.str a0]),(4,.val false [.int .i64 (wI ((ln a0) - (8:Int)))]),(7,.box 35 0)] [(0,.val false [.str a0]),(4,.val false [.int .i64 (wI ((ln a0) - (8:Int)))]),(7,.box 35 0)]∧(fI a0 r7.2.1.1 r7.2.1.2 (y2.2.2++[(r3.1,r8.1.1)]))∧(fM a0 r7.2.1.1 r7.2.1.2 (y2.2.2++[(r3.1,r8.1.1)]))<(fM a0 y2.1 y2.2.1 y2.2.2)))))))))))))))) (X00 (!y2.2.1) (Eq ((([]:(List U1q)),false),((),())) ((X0e a0),((),()))) (X00 ((ln y2.2.2)==(0:Int)) (Eq ((([]:(List U1q)),false),((),())) ((X0e a0),((),()))) ((X27 y2.2.2)∧∀r9,(Eq r9 ((X0j y2.2.2),((),())))→(X00 (!(r9.1==a0)) (Eq ((([]:(List U1q)),false),((),())) ((X0e a0),((),()))) (Eq ((y2.2.2,true),((),())) ((X0e a0),((),())))))))) (X00 (!y2.2.1) (Eq ((([]:(List U1q)),false),((),())) ((X0e a0),((),()))) (X00 ((ln y2.2.2)==(0:Int)) (Eq ((([]:(List U1q)),false),((),())) ((X0e a0),((),()))) ((X27 y2.2.2)∧∀r10,(Eq r10 ((X0j y2.2.2),((),())))→(X00 (!(r10.1==a0)) (Eq ((([]:(List U1q)),false),((),())) ((X0e a0),((),()))) (Eq ((y2.2.2,true),((),())) ((X0e a0),((),())))))))) (X00 (!y2.2.1) (Eq ((([]:(List U1q)),false),((),())) ((X0e a0),((),()))) (X00 ((ln y2.2.2)==(0:Int)) (Eq ((([]:(List U1q)),false),((),())) ((X0e a0),((),()))) ((X27 y2.2.2)∧∀r11,(Eq r11 ((X0j y2.2.2),((),())))→(X00 (!(r11.1==a0)) (Eq ((([]:(List U1q)),false),((),())) ((X0e a0),((),()))) (Eq ((y2.2.2,true),((),())) ((X0e a0),((),()))))))))))))))))))
def X21.L(a0:U5q):Nat→Option X0d:=fun p=>Go.Proofs.YtcfaphojdacmbaaGreatR.Bv.look p [(1020,{kp:={hold:=[0,4,7],slots:=[8],boxes:=[35],rows:=[{bx:=false,s:=8,i:=0,k:=1001027,e:=83,hot:=true}]},T:=(.pair .str (.pair .bool T9q)),I:=fun st y=>fI a0 y.1 y.2.1 y.2.2,μ:=fun st y=>fM a0 y.1 y.2.1 y.2.2})]
theorem X21.pure(a0:U5q)(h:(Xgn a0))(hw:Wf X6t.A a0):X21.F a0:=by
 delta X21.F ln tN wI eS
 simp only[Bs,B0,B1,Prod.mk.injEq,X01,Prod.eta]
 have hl:a0.length≤maxLen:=h
 have hl2:=hl
 unfold maxLen at hl
 rw[w64 (x:=(a0.length:Int) - 8) (by omega) (by omega)]
 have hbe:=Xo6 (s:=a0.drop ((a0.length:Int) - 8).toNat) (w:=4)
 refine⟨fun h1=>X78 fun l hl=>?_,fun h1=>?_⟩
 · have L:=hl.lay;have:=L.len;have:=Xa4 l;omega
 have hne:a0≠[]:=fun e=>by rw[e]at h1;simp at h1
 have en:((a0.length:Int) - 8).toNat=a0.length - 8:=by omega
 rw[en]at hbe ⊢
 refine⟨by omega,by omega,fun h2=>X78 fun l hl=>?_,fun h2=>⟨by omega,by omega,by omega,⟨⟨by rw[List.length_drop,List.length_take];omega,by simp,by simp⟩,fun l hl=>⟨rfl,l,rfl,?_⟩⟩,fun y hI=>?_⟩⟩
 · have L:=hl.lay
   have:=L.len
   rw[show a0.length - 8=(tF l).length+(ixF l 4).length by omega,L.at4]at h2
   simp only at h2;omega
 · have L:=hl.lay
   have:=L.len
   rw[show a0.length - 8=(tF l).length+(ixF l 4).length by omega,L.at4]
   simp only[Int.toNat_natCast]
   rw[L.ix];rfl
 obtain⟨rest,ok,out⟩:=y
 simp only at hI ⊢
 refine⟨fun h3=>⟨fun h4=>⟨fun h5=>?_,fun h5=>Xqh hne hI (fun _ _ h6=>by omega)⟩,fun h4=>Xqh hne hI (fun _ h6 _=>h6 h4)⟩,fun h3=>Xqh hne hI (fun h6 _ _=>by rw[h6]at h3;cases h3)⟩
 subst h3
 have st:=Xrx hI h4
 obtain⟨⟨r1,r2,r3⟩,_⟩:=hI
 have n1:=XjU (X3O (rest,true)).2
 have n2:=XjU (X4K (X3O (rest,true)).2).2
 have k1:=XlA (rest,true)
 have k2:=Xeu (X3O (rest,true)).2
 have k3:=Xeu (X4K (X3O (rest,true)).2).2
 have k4:=Xeu (X4K (X4K (X3O (rest,true)).2).2).2
 have k5:=Xeu (X4K (X4K (X4K (X3O (rest,true)).2).2).2).2
 simp only at k1
 refine⟨fun h6=>X78 fun l hl=>?_,fun h6=>⟨fun h7=>X78 fun l hl=>?_,fun h7=>?_⟩⟩
 · obtain⟨x,b,e1,e2,A,R⟩:=st l hl
   rw[R.d]at h6;cases h6
 · obtain⟨x,b,e1,e2,A,R⟩:=st l hl
   rw[R.b]at h7
   have:=A.fit
   omega
 rw[w64 (x:=(a0.length:Int) - 8 - (X4K (X3O (rest,true)).2).1) (by omega) (by omega)]
 refine⟨fun h8=>X78 fun l hl=>?_,fun h8=>?_⟩
 · obtain⟨x,b,e1,e2,A,R⟩:=st l hl
   rw[R.b,R.c]at h8
   have:=A.fit
   omega
 rw[w64 (x:=(X4K (X3O (rest,true)).2).1+(X4K (X4K (X3O (rest,true)).2).2).1) (by omega) (by omega)]
 refine⟨by omega,by omega,by omega,by omega,by omega,⟨⟨by omega,?_,by simp;omega⟩,fun l hl=>?_⟩,by unfold fM;simp;omega⟩
 · intro x hx
   rcases List.mem_append.1 hx with hx | hx
   · exact r2 x hx
   · rw[List.mem_singleton.1 hx];simp only;unfold maxLen;omega
 · obtain⟨x,b,e1,e2,A,R⟩:=st l hl
   refine⟨h6,b,?_,?_⟩
   · rw[e1,R.c,R.b,R.k]
     rw[show((((4+(txF out).length:Nat):Int)+((X04 x.2).length:Int))).toNat=4+(txF out).length+(X04 x.2).length by omega,Int.toNat_natCast,A.blk,A.read]
     simp
   · rw[R.d,R.c,R.b,R.k]
     rw[show((((4+(txF out).length:Nat):Int)+((X04 x.2).length:Int))).toNat=4+(txF out).length+(X04 x.2).length by omega,Int.toNat_natCast,A.blk,A.read]
     simp only[XaP,List.length_append]
     rw[show txF [(x.1,x.2)]=X04 x.2 by simp[txF],←Nat.add_assoc]
theorem X21.eq:EqS X6t Tryz.f61 [25,4] [X2F.e,X2I.e,X1m.e,X1D.e,X1q.e] [] (fun i x=>X21.L x) (fun i x=>X21.F x):=by intro i x;kernel_rfl
theorem X21.ok:X0l Tryz.prog 61 X6t:=X2b X21.eq Tryz.func61 rfl (by kernel_rfl) fun i x h hi hw=>X21.pure x h hw
def X21.e:GE:=⟨61,X6t,⟨_,Tryz.func61,rfl,rfl⟩,X21.ok⟩
def X8n(s:List UInt8)(y:(List Ser×Bool)×(Unit×Unit)):Prop:=(∀x∈y.1.1,x.1.length≤maxLen)∧(y.1.2=true→s≠[])∧∀l,RF s l→y.1=(l,true)
def lI(s:List UInt8)(at':Int)(out:List Ser):Prop:=(12≤s.length∧0≤at'∧at'≤(s.length:Int) - 8∧(∀x∈out,x.1.length≤maxLen)∧out.length≤5)∧∀l,RF s l→∃b,l=out++b∧(s.take (s.length - 8)).drop at'.toNat=ixF b (4+(txF out).length)
def lM(s:List UInt8)(at':Int)(out:List Ser):Nat:=((s.length:Int) - at').toNat
theorem XgF{s:List UInt8}{out:List Ser}(h:∀x∈out,x.1.length≤maxLen)(h2:∀l,RF s l→False):X8n s ((out,false),((),())):=⟨h,fun h=>(by cases h),fun l hl=>absurd hl (h2 l)⟩
structure Sp (s:List UInt8) (a:Nat) (x:Ser) (p:Nat) (r:List UInt8):Prop where
 v:X0f ((s.take (s.length - 8)).drop a)=((x.1.length:Int),((X1P x.1.length).length:Int))
 kp:0<(X1P x.1.length).length
 fit:a+(X1P x.1.length).length+x.1.length≤s.length - 8
 key:(s.take (a+(X1P x.1.length).length+x.1.length)).drop (a+(X1P x.1.length).length)=x.1
 v7:X0A ((s.take (s.length - 8)).drop (a+(X1P x.1.length).length+x.1.length)) 4=([(p:Int),((X04 x.2).length:Int),(x.2.getD 0 (0,0)).1,(x.2.getD (x.2.length - 1) (0,0)).1],((s.length - 8 - (a+(X1P x.1.length).length+x.1.length) - r.length:Nat):Int))
 r8:r.length≤s.length - 8 - (a+(X1P x.1.length).length+x.1.length)
 last:(s.take (s.length - 8)).drop (s.length - 8 - r.length)=r
theorem At.sp{s:List UInt8}{a p:Nat}{x:Ser}{r:List UInt8}(h:At s x p (X04 x.2).length)(hr:(s.take (s.length - 8)).drop a=X5j x p++r):Sp s a x p r:=by
 have hk:=h.key
 have hs:=h.small
 have i1:X4s (x.1.length:Int):=by unfold X4s;omega
 have i2:X4s (p:Int):=by unfold X4s;omega
 have i3:X4s ((X04 x.2).length:Int):=by unfold X4s;omega
 have kp:=X7I i1
 have hlen:=congrArg List.length hr
 rw[List.length_drop,List.length_take]at hlen
 rw[XdE]at hr hlen
 simp only[List.length_append]at hlen
 have d1:(s.take (s.length - 8)).drop (a+(X1P x.1.length).length)=x.1++(X1P p++(X1P (X04 x.2).length++(X1P (x.2.getD 0 (0,0)).1++(X1P (x.2.getD (x.2.length - 1) (0,0)).1++r)))):=by
  rw[←List.drop_drop,hr,List.drop_left]
 have d2:(s.take (s.length - 8)).drop (a+(X1P x.1.length).length+x.1.length)=X1P p++(X1P (X04 x.2).length++(X1P (x.2.getD 0 (0,0)).1++(X1P (x.2.getD (x.2.length - 1) (0,0)).1++r))):=by
  rw[←List.drop_drop,d1,List.drop_left]
 refine⟨by rw[hr];exact Xko i1 _,kp,by omega,?_,?_,by omega,?_⟩
 · have:s.take (a+(X1P x.1.length).length+x.1.length)=(s.take (s.length - 8)).take (a+(X1P x.1.length).length+x.1.length):=by
    rw[List.take_take];congr 1;omega
   rw[this,Xfm,d1,List.take_left]
 · rw[d2]
   let W:Nat→Int:=fun j=>([(p:Int),((X04 x.2).length:Int),(x.2.getD 0 (0,0)).1,(x.2.getD (x.2.length - 1) (0,0)).1]:List Int).getD j 0
   have hc:cat W 4=X1P p++(X1P (X04 x.2).length++(X1P (x.2.getD 0 (0,0)).1++X1P (x.2.getD (x.2.length - 1) (0,0)).1)):=by
    simp only[cat,List.nil_append,List.append_assoc];rfl
   have e:X1P p++(X1P (X04 x.2).length++(X1P (x.2.getD 0 (0,0)).1++(X1P (x.2.getD (x.2.length - 1) (0,0)).1++r)))=cat W 4++r:=by
    rw[hc];simp only[List.append_assoc]
   have hv:=Xim (W:=W) (n:=4) (s:=cat W 4++r) (fun j hj=>by
    have:j=0∨j=1∨j=2∨j=3:=by omega
    rcases this with h0 | h0 | h0 | h0<;>subst h0
    · exact i2
    · exact i3
    · exact h.t0
    · exact h.t1) (by rw[List.take_left])
   rw[e]
   refine hv.trans ?_
   have hcl:=congrArg List.length hc
   simp only[List.length_append]at hcl
   rw[Prod.mk.injEq]
   exact⟨rfl,by omega⟩
 · have d3:(s.take (s.length - 8)).drop (a+(X1P x.1.length).length+x.1.length+((X1P p).length+((X1P (X04 x.2).length).length+((X1P (x.2.getD 0 (0,0)).1).length+(X1P (x.2.getD (x.2.length - 1) (0,0)).1).length))))=r:=by
    rw[←List.drop_drop,d2,←List.drop_drop,List.drop_left,←List.drop_drop,List.drop_left,←List.drop_drop,List.drop_left,List.drop_left]
   have e:s.length - 8 - r.length=a+(X1P x.1.length).length+x.1.length+((X1P p).length+((X1P (X04 x.2).length).length+((X1P (x.2.getD 0 (0,0)).1).length+(X1P (x.2.getD (x.2.length - 1) (0,0)).1).length))):=by omega
   rw[e];exact d3
theorem Xrp{s:List UInt8}{at':Int}{out:List Ser}(h:lI s at' out)(hi:at'<(s.length:Int) - 8):∀l,RF s l→∃x b,l=out++x::b∧At s x (4+(txF out).length) (X04 x.2).length∧Sp s at'.toNat x (4+(txF out).length) (ixF b (4+(txF out).length+(X04 x.2).length)):=fun l hl=>by
 obtain⟨b,h2,h3⟩:=h.2 l hl
 cases b with
 | nil=>
   exfalso
   have:=congrArg List.length h3
   rw[List.length_drop,List.length_take]at this
   have h0:=h.1
   simp only[ixF,List.length_nil]at this
   omega
 | cons x b=>
   rw[ixF]at h3
   have A:At s x (4+(txF out).length) (X04 x.2).length:=RF.at (h2▸hl)
   exact⟨x,b,h2,A,A.sp h3⟩
theorem l_end{s:List UInt8}{at':Int}{out:List Ser}(h:lI s at' out)(hi:¬at'<(s.length:Int) - 8):X8n s ((out,true),((),())):=by
 obtain⟨⟨h1,h2,h3,h4,h5⟩,h6⟩:=h
 refine⟨h4,fun _ e=>by rw[e]at h1;simp at h1,fun l hl=>?_⟩
 obtain⟨b,k1,k2⟩:=h6 l hl
 cases b with
 | nil=>rw[k1];simp
 | cons x b=>
   exfalso
   have A:At s x (4+(txF out).length) (X04 x.2).length:=RF.at (k1▸hl)
   have:=congrArg List.length k2
   rw[List.length_drop,List.length_take,ixF,XdE]at this
   have:=A.key
   simp only[List.length_append]at*
   omega
def X6V:Con:={I:=.unit,B:=.unit,A:=.str,shA:=[.one],R:=(.pair T9q .bool),shR:=[(false,1),(false,1)],fresh:=[(0,83)],pre:=fun _ a=>(Xgn a),post:=fun _ a y=>(X8n a y)}
def X2j.F(a0:U5q):Prop:=(X00 (decide ((ln a0)<(12:Int))) (X8n a0 ((([]:(List U1q)),false),((),()))) (0≤(wI ((ln a0) - (8:Int)))∧((wI ((ln a0) - (8:Int)))≤(ln a0)∧(True∧∀r1,(Eq r1 ((X0r (List.drop (tN (wI ((ln a0) - (8:Int)))) a0) 4),((),())))→(X00 (decide (r1.1.1>(wI ((ln a0) - (8:Int))))) (X8n a0 ((([]:(List U1q)),false),((),()))) (eS [(0,.val false [.str a0]),(7,.val false [.int .i64 (wI ((ln a0) - (8:Int)))])] [(0,.val false [.str a0]),(7,.val false [.int .i64 (wI ((ln a0) - (8:Int)))])]∧((lI a0 r1.1.1 ([]:List U1q))∧∀(y2:(Int×(List U1q))),(lI a0 y2.1 y2.2)→(X00 (decide (y2.1<(wI ((ln a0) - (8:Int))))) (0≤y2.1∧(y2.1≤(wI ((ln a0) - (8:Int)))∧((wI ((ln a0) - (8:Int)))≤(ln a0)∧(True∧∀r3,(Eq r3 ((X0f (List.drop (tN y2.1) (List.take (tN (wI ((ln a0) - (8:Int)))) a0))),((),())))→(X00 (r3.1.2==(0:Int)) (X8n a0 ((y2.2,false),((),()))) (X00 (decide (r3.1.1>(wI ((wI ((wI ((ln a0) - (8:Int))) - y2.1)) - r3.1.2)))) (X8n a0 ((y2.2,false),((),()))) (0≤(wI (y2.1+r3.1.2))∧((wI (y2.1+r3.1.2))≤(wI ((wI (y2.1+r3.1.2))+r3.1.1))∧((wI ((wI (y2.1+r3.1.2))+r3.1.1))≤(ln a0)∧(0≤(wI ((wI (y2.1+r3.1.2))+r3.1.1))∧((wI ((wI (y2.1+r3.1.2))+r3.1.1))≤(wI ((ln a0) - (8:Int)))∧((wI ((ln a0) - (8:Int)))≤(ln a0)∧((p7 (List.drop (tN (wI ((wI (y2.1+r3.1.2))+r3.1.1))) (List.take (tN (wI ((ln a0) - (8:Int)))) a0)) 4)∧∀r4,(Eq r4 ((X0A (List.drop (tN (wI ((wI (y2.1+r3.1.2))+r3.1.1))) (List.take (tN (wI ((ln a0) - (8:Int)))) a0)) 4),((),())))→(X00 (decide (r4.1.2<(0:Int))) (X8n a0 ((y2.2,false),((),()))) (0≤(0:Int)∧((0:Int)<(ln r4.1.1)∧(X00 (decide ((List.getD r4.1.1 (tN (0:Int)) 0)>(ln a0))) (X8n a0 ((y2.2,false),((),()))) (0≤(1:Int)∧((1:Int)<(ln r4.1.1)∧(0≤(0:Int)∧((0:Int)<(ln r4.1.1)∧(X00 (decide ((List.getD r4.1.1 (tN (1:Int)) 0)>(wI ((ln a0) - (List.getD r4.1.1 (tN (0:Int)) 0))))) (X8n a0 ((y2.2,false),((),()))) (0≤(0:Int)∧((0:Int)<(ln r4.1.1)∧(0≤(0:Int)∧((0:Int)<(ln r4.1.1)∧(0≤(1:Int)∧((1:Int)<(ln r4.1.1)∧(0≤(List.getD r4.1.1 (tN (0:Int)) 0)∧((List.getD r4.1.1 (tN (0:Int)) 0)≤(wI ((List.getD r4.1.1 (tN (0:Int)) 0)+(List.getD r4.1.1 (tN (1:Int)) 0)))∧((wI ((List.getD r4.1.1 (tN (0:Int)) 0)+(List.getD r4.1.1 (tN (1:Int)) 0)))≤(ln a0)∧(True∧∀r5,(Eq r5 ((X0Y (List.drop (tN (List.getD r4.1.1 (tN (0:Int)) 0)) (List.take (tN (wI ((List.getD r4.1.1 (tN (0:Int)) 0)+(List.getD r4.1.1 (tN (1:Int)) 0)))) a0))),((),())))→(X00 (!r5.1.2) (X8n a0 ((y2.2,false),((),()))) (List.length y2.2+List.length [((List.drop (tN (wI (y2.1+r3.1.2))) (List.take (tN (wI ((wI (y2.1+r3.1.2))+r3.1.1))) a0)),r5.1.1)]≤9223372036854775807∧((List.length y2.2+List.length [((List.drop (tN (wI (y2.1+r3.1.2))) (List.take (tN (wI ((wI (y2.1+r3.1.2))+r3.1.1))) a0)),r5.1.1)])*40≤140737488355328∧(X00 (decide ((ln (y2.2++[((List.drop (tN (wI (y2.1+r3.1.2))) (List.take (tN (wI ((wI (y2.1+r3.1.2))+r3.1.1))) a0)),r5.1.1)]))>(5:Int))) (X8n a0 (((y2.2++[((List.drop (tN (wI (y2.1+r3.1.2))) (List.take (tN (wI ((wI (y2.1+r3.1.2))+r3.1.1))) a0)),r5.1.1)]),false),((),()))) (eS [(0,.val false [.str a0]),(7,.val false [.int .i64 (wI ((ln a0) - (8:Int)))])] [(0,.val false [.str a0]),(7,.val false [.int .i64 (wI ((ln a0) - (8:Int)))])]∧(lI a0 (wI ((wI ((wI (y2.1+r3.1.2))+r3.1.1))+r4.1.2)) (y2.2++[((List.drop (tN (wI (y2.1+r3.1.2))) (List.take (tN (wI ((wI (y2.1+r3.1.2))+r3.1.1))) a0)),r5.1.1)]))∧(lM a0 (wI ((wI ((wI (y2.1+r3.1.2))+r3.1.1))+r4.1.2)) (y2.2++[((List.drop (tN (wI (y2.1+r3.1.2))) (List.take (tN (wI ((wI (y2.1+r3.1.2))+r3.1.1))) a0)),r5.1.1)]))<(lM a0 y2.1 y2.2)))))))))))))))))))))))))))))))))))))) (X8n a0 ((y2.2,true),((),())))))))))))
def X2j.L(a0:U5q):Nat→Option X0d:=fun p=>Go.Proofs.YtcfaphojdacmbaaGreatR.Bv.look p [(508,{kp:={hold:=[0,7],slots:=[4,5],boxes:=[],rows:=[{bx:=false,s:=4,i:=0,k:=1000515,e:=83,hot:=true}]},T:=(.pair (.int .i64) T9q),I:=fun st y=>lI a0 y.1 y.2,μ:=fun st y=>lM a0 y.1 y.2})]
theorem X2j.pure(a0:U5q)(h:(Xgn a0))(hw:Wf X6V.A a0):X2j.F a0:=by
 delta X2j.F ln tN wI eS
 simp only[Bs,B0,B1,Prod.mk.injEq,X01,Prod.eta]
 have hl:a0.length≤maxLen:=h
 have hl2:=hl
 unfold maxLen at hl
 rw[w64 (x:=(a0.length:Int) - 8) (by omega) (by omega)]
 have hbe:=Xo6 (s:=a0.drop ((a0.length:Int) - 8).toNat) (w:=4)
 refine⟨fun h1=>XgF (by simp) fun l hl=>?_,fun h1=>?_⟩
 · have L:=hl.lay;have:=L.len;have:=Xa4 l;omega
 have en:((a0.length:Int) - 8).toNat=a0.length - 8:=by omega
 rw[en]at hbe ⊢
 refine⟨by omega,by omega,fun h2=>XgF (by simp) fun l hl=>?_,fun h2=>⟨⟨⟨by omega,by omega,by omega,by simp,by simp⟩,fun l hl=>⟨l,rfl,?_⟩⟩,fun y hI=>?_⟩⟩
 · have L:=hl.lay
   have:=L.len
   rw[show a0.length - 8=(tF l).length+(ixF l 4).length by omega,L.at4]at h2
   simp only at h2;omega
 · have L:=hl.lay
   have:=L.len
   rw[show a0.length - 8=(tF l).length+(ixF l 4).length by omega,L.at4]
   simp only[Int.toNat_natCast]
   rw[L.ix];rfl
 obtain⟨p,out⟩:=y
 simp only at hI ⊢
 refine⟨fun hi=>?_,fun hi=>l_end hI hi⟩
 have st:=Xrp hI hi
 obtain⟨⟨g1,g2,g3,g4,g5⟩,_⟩:=hI
 have hb:=X35 ((a0.take (a0.length - 8)).drop p.toNat)
 rw[List.length_drop,List.length_take]at hb
 have st2:∀l,RF a0 l→∃x b,l=out++x::b∧At a0 x (4+(txF out).length) (X04 x.2).length∧Sp a0 p.toNat x (4+(txF out).length) (ixF b (4+(txF out).length+(X04 x.2).length))∧(X0f ((a0.take (a0.length - 8)).drop p.toNat)).1=x.1.length∧(X0f ((a0.take (a0.length - 8)).drop p.toNat)).2=(X1P x.1.length).length:=fun l hl=>by
  obtain⟨x,b,e1,A,S⟩:=st l hl
  exact⟨x,b,e1,A,S,by rw[S.v],by rw[S.v]⟩
 clear st
 generalize (X0f ((a0.take (a0.length - 8)).drop p.toNat)).1=n at*
 generalize (X0f ((a0.take (a0.length - 8)).drop p.toNat)).2=k at*
 rw[w64 (x:=(a0.length:Int) - 8 - p) (by omega) (by omega),w64 (x:=(a0.length:Int) - 8 - p - k) (by omega) (by omega),w64 (x:=p+k) (by omega) (by omega)]
 refine⟨g2,by omega,by omega,fun h3=>XgF g4 fun l hl=>?_,fun h3=>⟨fun h4=>XgF g4 fun l hl=>?_,fun h4=>?_⟩⟩
 · obtain⟨x,b,e1,A,S,v1,v2⟩:=st2 l hl;have:=S.kp;omega
 · obtain⟨x,b,e1,A,S,v1,v2⟩:=st2 l hl;have:=S.fit;omega
 rw[w64 (x:=p+k+n) (by omega) (by omega)]
 have hl2':((a0.take (a0.length - 8)).drop (p+k+n).toNat).length=a0.length - 8 - (p+k+n).toNat:=by rw[List.length_drop,List.length_take];omega
 have st3:∀l,RF a0 l→∃x b,l=out++x::b∧At a0 x (4+(txF out).length) (X04 x.2).length∧Sp a0 p.toNat x (4+(txF out).length) (ixF b (4+(txF out).length+(X04 x.2).length))∧(a0.take (p+k+n).toNat).drop (p+k).toNat=x.1∧(X0A ((a0.take (a0.length - 8)).drop (p+k+n).toNat) 4).1=[((4+(txF out).length:Nat):Int),((X04 x.2).length:Int),(x.2.getD 0 (0,0)).1,(x.2.getD (x.2.length - 1) (0,0)).1]∧(p+k+n)+(X0A ((a0.take (a0.length - 8)).drop (p+k+n).toNat) 4).2=(a0.length:Int) - 8 - (ixF b (4+(txF out).length+(X04 x.2).length)).length∧p+k+n≤(a0.length:Int) - 8 - (ixF b (4+(txF out).length+(X04 x.2).length)).length:=fun l hl=>by
  obtain⟨x,b,e1,A,S,v1,v2⟩:=st2 l hl
  have e2:(p+k+n).toNat=p.toNat+(X1P x.1.length).length+x.1.length:=by omega
  have e3:(p+k).toNat=p.toNat+(X1P x.1.length).length:=by omega
  have hf:=S.fit
  have h8:=S.r8
  refine⟨x,b,e1,A,S,by rw[e2,e3];exact S.key,by rw[e2,S.v7],?_,by omega⟩
  rw[e2,S.v7];simp only;omega
 clear st2
 have h7:=Xm2 (s:=(a0.take (a0.length - 8)).drop (p+k+n).toNat) (n:=4) (by omega)
 have hkl:((a0.take (p+k+n).toNat).drop (p+k).toNat).length≤maxLen:=by unfold maxLen;rw[List.length_drop,List.length_take];omega
 refine⟨by omega,by omega,by omega,by omega,by omega,by omega,⟨by omega,by omega,by omega⟩,fun h5=>XgF g4 fun l hl=>?_,fun h5=>?_⟩
 · obtain⟨x,b,e1,A,S,v1,v2,v3,v4⟩:=st3 l hl
   omega
 obtain⟨k1,k2,k3,k4⟩:=h7 h5
 rw[hl2']at k4
 clear h7
 generalize (X0A ((a0.take (a0.length - 8)).drop (p+k+n).toNat) 4).1=v at*
 generalize (X0A ((a0.take (a0.length - 8)).drop (p+k+n).toNat) 4).2=m at*
 have k20:=k2 0
 have k21:=k2 1
 rw[show Int.toNat 0=0 from rfl,show Int.toNat 1=1 from rfl]
 have st4:∀l,RF a0 l→∃x b,l=out++x::b∧At a0 x (4+(txF out).length) (X04 x.2).length∧Sp a0 p.toNat x (4+(txF out).length) (ixF b (4+(txF out).length+(X04 x.2).length))∧(a0.take (p+k+n).toNat).drop (p+k).toNat=x.1∧v.getD 0 0=((4+(txF out).length:Nat):Int)∧v.getD 1 0=((X04 x.2).length:Int)∧p+k+n+m=(a0.length:Int) - 8 - (ixF b (4+(txF out).length+(X04 x.2).length)).length:=fun l hl=>by
  obtain⟨x,b,e1,A,S,v1,v2,v3,_⟩:=st3 l hl
  exact⟨x,b,e1,A,S,v1,by rw[v2];rfl,by rw[v2];rfl,v3⟩
 clear st3
 generalize v.getD 0 0=v0 at*
 generalize v.getD 1 0=v1 at*
 refine⟨by omega,by omega,fun h6=>XgF g4 fun l hl=>?_,fun h6=>?_⟩
 · obtain⟨x,b,e1,A,S,w1,w2,w3,w4⟩:=st4 l hl;have:=A.fit;omega
 rw[w64 (x:=(a0.length:Int) - v0) (by omega) (by omega)]
 refine⟨by omega,by omega,by omega,by omega,fun h8=>XgF g4 fun l hl=>?_,fun h8=>?_⟩
 · obtain⟨x,b,e1,A,S,w1,w2,w3,w4⟩:=st4 l hl;have:=A.fit;omega
 rw[w64 (x:=v0+v1) (by omega) (by omega),w64 (x:=p+k+n+m) (by omega) (by omega)]
 have blk:∀x,At a0 x (4+(txF out).length) (X04 x.2).length→v0=((4+(txF out).length:Nat):Int)→v1=((X04 x.2).length:Int)→X0Y ((a0.take (v0+v1).toNat).drop v0.toNat)=(x.2,true):=fun x A w2 w3=>by
  rw[w2,w3,show(((4+(txF out).length:Nat):Int)+((X04 x.2).length:Int)).toNat=4+(txF out).length+(X04 x.2).length by omega,Int.toNat_natCast,A.blk,A.read]
 refine⟨by omega,by omega,by omega,by omega,by omega,by omega,by omega,by omega,by omega,fun h9=>XgF g4 fun l hl=>?_,fun h9=>?_⟩
 · obtain⟨x,b,e1,A,S,w1,w2,w3,w4⟩:=st4 l hl
   rw[blk x A w2 w3]at h9;cases h9
 have g4':∀y,∀x∈out++[((a0.take (p+k+n).toNat).drop (p+k).toNat,y)],x.1.length≤maxLen:=fun y x hx=>by
  rcases List.mem_append.1 hx with hx | hx
  · exact g4 x hx
  · rw[List.mem_singleton.1 hx];exact hkl
 refine⟨by omega,by omega,fun h10=>XgF (g4' _) fun l hl=>?_,fun h10=>⟨⟨⟨g1,by omega,by omega,g4' _,by simp;omega⟩,fun l hl=>?_⟩,by unfold lM;omega⟩⟩
 · obtain⟨x,b,e1,A,S,w1,w2,w3,w4⟩:=st4 l hl
   have h5':=hl.lay.five
   rw[e1,List.length_append,List.length_cons]at h5'
   omega
 · obtain⟨x,b,e1,A,S,w1,w2,w3,w4⟩:=st4 l hl
   refine⟨b,?_,?_⟩
   · rw[blk x A w2 w3,w1,e1];simp
   · rw[blk x A w2 w3,w1,XaP,List.length_append,show txF [(x.1,x.2)]=X04 x.2 by simp[txF],←Nat.add_assoc]
     have:=S.last
     have h8:=S.r8
     rw[show(p+k+n+m).toNat=a0.length - 8 - (ixF b (4+(txF out).length+(X04 x.2).length)).length by omega]
     exact this
theorem X2j.eq:EqS X6V Tryz.f206 [25,4] [X1x.e,X1W.e,X1i.e,X2h.e] [] (fun i x=>X2j.L x) (fun i x=>X2j.F x):=by intro i x;kernel_rfl
theorem X2j.ok:X0l Tryz.prog 206 X6V:=X2b X2j.eq Tryz.func206 rfl (by kernel_rfl) fun i x h hi hw=>X2j.pure x h hw
def X2j.e:GE:=⟨206,X6V,⟨_,Tryz.func206,rfl,rfl⟩,X2j.ok⟩
def X6d:Con:={A:=.str,shA:=[.one],R:=(.pair T9q .bool),shR:=[(false,1),(false,1)],pre:=fun _ a=>(Xgn a),f:=some fun _ a=>((X0e a),((),()))}
def X2c.F(a0:U5q):Prop:=((Xgn a0)∧∀r1,(X8n a0 r1)→(X00 (!r1.1.2) (Eq ((([]:(List U1q)),false),((),())) ((X0e a0),((),()))) ((X27 r1.1.1)∧∀r2,(Eq r2 ((X0j r1.1.1),((),())))→(X00 (!(r2.1==a0)) (Eq ((([]:(List U1q)),false),((),())) ((X0e a0),((),()))) (Eq ((r1.1.1,true),((),())) ((X0e a0),((),())))))))
theorem X2c.pure(a0:U5q)(h:(Xgn a0))(hw:Wf X6d.A a0):X2c.F a0:=by
 unfold X2c.F
 simp only[Bs,B0,B1,Prod.mk.injEq,X01,Prod.eta]
 refine⟨h,fun r hr=>?_⟩
 obtain⟨⟨l,is⟩,_,_⟩:=r
 obtain⟨q1,q2,q3⟩:=hr
 simp only at q1 q2 q3 ⊢
 refine⟨fun h1=>X78 fun l' hl=>?_,fun h1=>⟨q1,fun h2=>X78 fun l' hl=>h2 ?_,fun h2=>Xf3 (XqH h2 (q2 h1))⟩⟩
 · have:=q3 l' hl;rw[Prod.mk.injEq]at this;rw[this.2]at h1;cases h1
 · have:=q3 l' hl;rw[Prod.mk.injEq]at this;rw[this.1];exact hl.2
theorem X2c.eq:EqS X6d Tryz.f130 [25,4] [X0N.e,X2j.e] [] noL (fun i x=>X2c.F x):=by intro i x;kernel_rfl
theorem X2c.ok:X0l Tryz.prog 130 X6d:=X2b X2c.eq Tryz.func130 rfl (by kernel_rfl) fun i x h hi hw=>X2c.pure x h hw
def X2c.e:GE:=⟨130,X6d,⟨_,Tryz.func130,rfl,rfl⟩,X2c.ok⟩
end Go.Proofs.YtcfaphojdacmbaaGreatR.B
