/- Files of series:read. -/
import Derived.Test.YtegmokdppbagiaaCFile
import Derived.Test.YtegmokdppbagiaaCRBlk
import Derived.Test.YtegmokdppbagiaaCRd
set_option maxRecDepth 100000
set_option linter.unusedVariables false
set_option linter.unusedSimpArgs false
namespace Go.Proofs.Ytegmokdppbagiaa.B
open Go Go.Proofs.Ytegmokdppbagiaa.Bv
def ixF:List Ser→Nat→List UInt8
 | [],_=>[]
 | x::r,n=>X3w x n++ixF r (n+(X03 x.2).length)
def txF(l:List Ser):List UInt8:=l.flatMap fun x=>X03 x.2
theorem XfG:∀(l:List Ser) (t x:List UInt8),l.foldl Xff (t,x)=(t++txF l,x++ixF l t.length)
 | [],t,x=>by simp[txF,ixF]
 | s::l,t,x=>by
   rw[List.foldl_cons,Xff,XfG l]
   simp only[txF,ixF,List.flatMap_cons,List.append_assoc,List.length_append]
theorem X7q(a b:List Ser):txF (a++b)=txF a++txF b:=by simp[txF]
theorem Xdx(x:Ser)(b:List Ser):txF (x::b)=X03 x.2++txF b:=by simp[txF]
theorem X5Z:∀l:List Ser,(txF l).length≤2014*l.length
 | []=>by simp[txF]
 | x::l=>by
   have h1:=X5Z l
   have h2:=X3x x.2
   rw[Xdx,List.length_append,List.length_cons];omega
def tF(l:List Ser):List UInt8:=[116,115,98,49]++txF l
theorem X6Y(l:List Ser):(tF l).length=4+(txF l).length:=by simp[tF];omega
def RF(s:List UInt8)(l:List Ser):Prop:=(X0L l=true∧l≠[])∧X09 l=s
instance (s:List UInt8) (l:List Ser):Decidable (RF s l):=by unfold RF;infer_instance
theorem XdC{n:Nat}(h:n<4294967296):X0s n 4=X1i (fx 4 n):=by
 unfold X0s
 rw[if_pos ⟨by decide,by omega,by rw[show(4:Int).toNat=4 from rfl];omega⟩];rfl
structure Lay (s:List UInt8) (l:List Ser):Prop where
 len:s.length=(tF l).length+(ixF l 4).length+8
 five:l.length≤5
 at4:X0j (s.drop ((tF l).length+(ixF l 4).length)) 4=(((tF l).length:Int),true)
 ix:(s.take ((tF l).length+(ixF l 4).length)).drop (tF l).length=ixF l 4
 tx:s.take (tF l).length=tF l
theorem RF.lay{s:List UInt8}{l:List Ser}(h:RF s l):Lay s l:=by
 obtain⟨h0,rfl⟩:=h
 have h5:=(X5O h0.1).1
 have ht:=X5Z l
 have hl:=X6Y l
 have e:XeL l=(tF l,ixF l 4):=by
  have:=XfG l [116,115,98,49] []
  rw[List.nil_append]at this
  exact this
 have e2:X09 l=(tF l++ixF l 4)++(X0s (tF l).length 4++X0s (X6G (X73 (XeL l))) 4):=by
  unfold X09
  rw[if_pos h0]
  conv=>lhs;rw[e]
  rw[e]
  simp only[X73,List.append_assoc]
 have l1:(X0s (tF l).length 4).length=4:=by rw[XdC (by omega),X4D,X4V]
 have l2:=X5h (X73 (XeL l))
 have hlen:(X09 l).length=(tF l).length+(ixF l 4).length+8:=by
  rw[e2];simp only[List.length_append,l1,l2]
 have e3:(tF l).length+(ixF l 4).length=(tF l++ixF l 4).length:=by rw[List.length_append]
 refine⟨hlen,h5,?_,?_,?_⟩
 · rw[e2,e3,List.drop_left]
   unfold X0j
   rw[if_pos ⟨by decide,by rw[List.length_append,l1,l2];decide⟩,show(4:Int).toNat=(X0s (tF l).length 4).length from l1.symm,List.take_left,XdC (by omega),XeT 4 _ (by omega)]
 · rw[e2,e3,List.take_left,List.drop_left]
 · rw[e2,List.append_assoc,List.take_left]
theorem X9t{v:Int}(h:X3j v)(q:List UInt8):X2i (X27 v++q,true)=(v,(q,true)):=by
 have hp:=X59 h
 have e:=XeM h q
 rw[Xim (i:=(X27 v++q,true)) rfl (by rw[e];simp only;omega)]
 simp only
 rw[e]
 simp only[Int.toNat_natCast,List.drop_left]
theorem XfE{k:List UInt8}(h:k.length≤1000)(q:List UInt8):X1Q (X27 k.length++(k++q),true)=(k,(q,true)):=by
 unfold X1Q
 rw[X9t (by unfold X3j;omega)]
 unfold X3O
 rw[if_pos ⟨rfl,by simp only[List.length_append];omega⟩]
 simp only[Int.toNat_natCast,List.take_left,List.drop_left]
structure At (s:List UInt8) (x:Ser) (p:Nat) (bl:Nat):Prop where
 key:1≤x.1.length∧x.1.length≤8
 eb:bl=(X03 x.2).length
 blk:(s.take (p+bl)).drop p=X03 x.2
 fit:p+bl+8≤s.length
 small:p+bl≤12000
 read:X1h (X03 x.2)=(x.2,true)
 t0:X3j (x.2.getD 0 (0,0)).1
 t1:X3j (x.2.getD (x.2.length - 1) (0,0)).1
theorem Xe1{l:List Pt}(h:X0N l=true∧l≠[]):X1h (X03 l)=(l,true):=(Xcc ⟨h,by unfold X03;rw[if_pos h];rfl⟩).symm
theorem Xgr{l:List Pt}(h:X0N l=true){i:Nat}(hi:i<l.length):0≤(l.getD i (0,0)).1∧(l.getD i (0,0)).1≤1099511627776:=by
 have:=(XaL.1 ((X7m.1 h).2 i hi)).1
 have:=X4Y.1 this
 rw[X9w]at this
 exact this.1
theorem RF.at{s:List UInt8}{a b:List Ser}{x:Ser}(h:RF s (a++x::b)):At s x (4+(txF a).length) (X03 x.2).length:=by
 have L:=h.lay
 have hs:=(X5O h.1.1).2 a.length (by simp)
 have ex:(a++x::b).getD a.length ([],[])=x:=by simp[List.getD_eq_getElem?_getD]
 rw[ex]at hs
 obtain⟨q1,q2,q3,q4⟩:=hs
 have q5:0<x.2.length:=by omega
 have q3:x.2≠[]:=List.length_pos_iff.1 q5
 have htl:=X6Y (a++x::b)
 have e1:tF (a++x::b)=([116,115,98,49]++txF a)++(X03 x.2++txF b):=by
  simp only[tF,X7q,Xdx,List.append_assoc]
 have e2:4+(txF a).length=([116,115,98,49]++txF a).length:=by simp;omega
 have e3:(tF (a++x::b)).length=4+(txF a).length+(X03 x.2).length+(txF b).length:=by
  rw[e1];simp only[List.length_append,List.length_cons,List.length_nil];omega
 have e4:s.take (4+(txF a).length+(X03 x.2).length)=([116,115,98,49]++txF a)++X03 x.2:=by
  have:s.take (4+(txF a).length+(X03 x.2).length)=(s.take (tF (a++x::b)).length).take (4+(txF a).length+(X03 x.2).length):=by
   rw[List.take_take];congr 1;omega
  rw[this,L.tx,e1,←List.append_assoc,e2,←List.length_append,List.take_left]
 have p0:=Xgr q4 (i:=0) (by omega)
 have p1:=Xgr q4 (i:=x.2.length - 1) (by omega)
 have h5:=L.five
 have tb:=X5Z (a++x::b)
 have el:=L.len
 refine⟨⟨q2,q1⟩,rfl,?_,by omega,by omega,Xe1 ⟨q4,q3⟩,by unfold X3j;omega,by unfold X3j;omega⟩
 rw[e4,e2,List.drop_left]
theorem XdK(x:Ser)(p:Nat)(r:List UInt8):X3w x p++r=X27 x.1.length++(x.1++(X27 p++(X27 (X03 x.2).length++(X27 (x.2.getD 0 (0,0)).1++(X27 (x.2.getD (x.2.length - 1) (0,0)).1++r))))):=by
 simp only[X3w,List.append_assoc]
structure Rs (s rest:List UInt8) (x:Ser) (p:Nat) (r:List UInt8):Prop where
 k:(X1Q (rest,true)).1=x.1
 b:(X2i (X1Q (rest,true)).2).1=(p:Int)
 c:(X2i (X2i (X1Q (rest,true)).2).2).1=((X03 x.2).length:Int)
 d:(X2i (X2i (X2i (X2i (X1Q (rest,true)).2).2).2).2).2=(r,true)
theorem At.rs{s:List UInt8}{x:Ser}{p:Nat}(h:At s x p (X03 x.2).length)(r:List UInt8):Rs s (X3w x p++r) x p r:=by
 have hk:=h.key
 have hs:=h.small
 have a1:=XfE (k:=x.1) (by omega) (X27 p++(X27 (X03 x.2).length++(X27 (x.2.getD 0 (0,0)).1++(X27 (x.2.getD (x.2.length - 1) (0,0)).1++r))))
 have a2:=X9t (v:=(p:Int)) (by unfold X3j;omega) (X27 (X03 x.2).length++(X27 (x.2.getD 0 (0,0)).1++(X27 (x.2.getD (x.2.length - 1) (0,0)).1++r)))
 have a3:=X9t (v:=((X03 x.2).length:Int)) (by unfold X3j;omega) (X27 (x.2.getD 0 (0,0)).1++(X27 (x.2.getD (x.2.length - 1) (0,0)).1++r))
 have a4:=X9t h.t0 (X27 (x.2.getD (x.2.length - 1) (0,0)).1++r)
 have a5:=X9t h.t1 r
 rw[XdK]
 refine⟨?_,?_,?_,?_⟩
 · rw[a1]
 · rw[a1];simp only;rw[a2]
 · rw[a1];simp only;rw[a2];simp only;rw[a3]
 · rw[a1];simp only;rw[a2];simp only;rw[a3];simp only;rw[a4];simp only;rw[a5]
def dcF(s:List UInt8):Nat→Rd→List Ser
 | 0,_=>[]
 | k+1,r=>if r.1=[] then [] else((X1Q r).1,(X1h ((s.take ((X2i (X1Q r).2).1+(X2i (X2i (X1Q r).2).2).1).toNat).drop (X2i (X1Q r).2).1.toNat)).1)::dcF s k (X2i (X2i (X2i (X2i (X1Q r).2).2).2).2).2
def cF(s:List UInt8):List Ser:=dcF s 6 ((s.take (s.length - 8)).drop (X0j (s.drop (s.length - 8)) 4).1.toNat,true)
theorem XbL{x:Ser}{p:Nat}(h:1≤x.1.length)(r:List UInt8):X3w x p++r≠[]:=by
 intro e
 have:=congrArg List.length e
 rw[XdK]at this
 simp only[List.length_append,List.length_nil]at this
 omega
theorem Xhz{s:List UInt8}:∀(b a:List Ser) (k:Nat),RF s (a++b)→b.length<k→dcF s k (ixF b (4+(txF a).length),true)=b
 | [],a,k+1,h,hk=>by simp[dcF,ixF]
 | x::b,a,k+1,h,hk=>by
   have A:=h.at
   have R:=A.rs (ixF b (4+(txF a).length+(X03 x.2).length))
   rw[dcF,if_neg (by simp only;rw[ixF];exact XbL A.key.1 _),ixF,R.d]
   have hn:RF s ((a++[x])++b):=by rw[List.append_assoc];exact h
   have ih:=Xhz b (a++[x]) k hn (by simp at hk;omega)
   rw[X7q,List.length_append,show txF [x]=X03 x.2 by simp[txF],←Nat.add_assoc]at ih
   rw[ih,R.c,R.b,R.k]
   rw[show((((4+(txF a).length:Nat):Int)+((X03 x.2).length:Int))).toNat=4+(txF a).length+(X03 x.2).length by omega,Int.toNat_natCast,A.blk,A.read]
theorem RF.dec{s:List UInt8}{l:List Ser}(h:RF s l):cF s=l:=by
 have L:=h.lay
 have e:s.length - 8=(tF l).length+(ixF l 4).length:=by rw[L.len];omega
 unfold cF
 rw[e,L.at4]
 simp only[Int.toNat_natCast]
 rw[L.ix]
 have:=Xhz (s:=s) l [] 6 (by simpa using h) (by have:=L.five;omega)
 simpa [txF] using this
def X02(s:List UInt8):List Ser×Bool:=if RF s (cF s) then(cF s,true) else([],false)
theorem Xc0{s:List UInt8}{l:List Ser}(h:RF s l):(l,true)=X02 s:=by
 unfold X02;rw[h.dec,if_pos h]
theorem X3R{s:List UInt8}(h:∀l,¬RF s l):([],false)=X02 s:=by
 unfold X02;rw[if_neg (h _)]
theorem RF_of{s:List UInt8}{l:List Ser}(h:X09 l=s)(h2:s≠[]):RF s l:=by
 unfold RF
 refine⟨?_,h⟩
 unfold X09 at h
 split at h
 · rename_i h3;exact h3
 · exact absurd h.symm h2
def fI(s rest:List UInt8)(ok:Bool)(out:List Ser):Prop:=(rest.length≤s.length∧(∀x∈out,x.1.length≤maxLen)∧out.length≤6)∧∀l,RF s l→ok=true∧∃b,l=out++b∧rest=ixF b (4+(txF out).length)
def fM(s rest:List UInt8)(ok:Bool)(out:List Ser):Nat:=6 - out.length
theorem Xix{s rest:List UInt8}{ok:Bool}{out:List Ser}(h:fI s rest ok out)(he:ok=true→rest≠[]→out.length≤5→False):∀l,RF s l→ok=true∧out=l:=fun l hl=>by
 obtain⟨h1,b,h2,h3⟩:=h.2 l hl
 refine⟨h1,?_⟩
 have h5:=hl.lay.five
 cases b with
 | nil=>rw[h2];simp
 | cons x b=>
   exfalso
   subst h2
   have A:=hl.at
   exact he h1 (by rw[h3,ixF];exact XbL A.key.1 _) (by rw[List.length_append]at h5;omega)
theorem Xie{s rest:List UInt8}{ok:Bool}{out:List Ser}(hs:s≠[])(h:fI s rest ok out)(he:ok=true→rest≠[]→out.length≤5→False):
 (ok=false→([],false)=X02 s)∧(ok=true→((out.length:Int)=0→([],false)=X02 s)∧(¬(out.length:Int)=0→X3M out∧(¬X09 out=s→([],false)=X02 s)∧(X09 out=s→(out,true)=X02 s))):=by
 have hf:=Xix h he
 refine⟨fun h1=>X3R fun l hl=>?_,fun h1=>⟨fun h2=>X3R fun l hl=>?_,fun h2=>⟨h.1.2.1,fun h3=>X3R fun l hl=>h3 ?_,fun h3=>Xc0 (RF_of h3 hs)⟩⟩⟩
 · rw[(hf l hl).1]at h1;cases h1
 · have:=(hf l hl).2;exact hl.1.2 (by rw[←this];exact List.length_eq_zero_iff.1 (by omega))
 · rw[(hf l hl).2];exact hl.2
theorem XiI{s rest:List UInt8}{out:List Ser}(h:fI s rest true out)(hr:rest≠[]):(∀l,RF s l→∃x b,l=out++x::b∧rest=X3w x (4+(txF out).length)++ixF b (4+(txF out).length+(X03 x.2).length)∧At s x (4+(txF out).length) (X03 x.2).length∧Rs s rest x (4+(txF out).length) (ixF b (4+(txF out).length+(X03 x.2).length))):=fun l hl=>by
 obtain⟨h1,b,h2,h3⟩:=h.2 l hl
 cases b with
 | nil=>exact absurd h3 hr
 | cons x b=>
   rw[ixF]at h3
   have A:At s x (4+(txF out).length) (X03 x.2).length:=RF.at (h2▸hl)
   exact⟨x,b,h2,h3,A,h3▸A.rs _⟩
def X38:Con:={A:=.str,shA:=[.one],R:=(.pair (.list T1q) .bool),shR:=[(false,1),(false,1)],fresh:=[(0,36)],pre:=fun _ a=>(Xcn a),f:=some fun _ a=>((X02 a),((),()))}
def X0F.F(a0:U3q):Prop:=(X04 (decide ((wI ((ln a0) - (8:Int)))<(4:Int))) (Eq ((([]:U2q),false),((),())) ((X02 a0),((),()))) (0≤(wI ((ln a0) - (8:Int)))∧((wI ((ln a0) - (8:Int)))≤(ln a0)∧(True∧∀r1,(Eq r1 ((X0j (List.drop (tN (wI ((ln a0) - (8:Int)))) a0) 4),((),())))→(X04 (decide (r1.1.1>(wI ((ln a0) - (8:Int))))) (Eq ((([]:U2q),false),((),())) ((X02 a0),((),()))) (0≤r1.1.1∧(r1.1.1≤(wI ((ln a0) - (8:Int)))∧((wI ((ln a0) - (8:Int)))≤(ln a0)∧(eS [(0,.val false [.str a0]),(4,.val false [.int .i64 (wI ((ln a0) - (8:Int)))]),(7,.box 35 0)] [(0,.val false [.str a0]),(4,.val false [.int .i64 (wI ((ln a0) - (8:Int)))]),(7,.box 35 0)]∧((fI a0 (List.drop (tN r1.1.1) (List.take (tN (wI ((ln a0) - (8:Int)))) a0)) true ([]:List (U3q×U4q)))∧∀(y2:(U3q×(Bool×U2q))),(fI a0 y2.1 y2.2.1 y2.2.2)→(X04 y2.2.1 (X04 (!(y2.1==[])) (X04 (decide ((ln y2.2.2)≤(5:Int))) (True∧∀r3,(Eq r3 ((X1Q (y2.1,y2.2.1)).1,((X1Q (y2.1,y2.2.1)).2,())))→(True∧∀r4,(Eq r4 ((X2i (r3.2.1.1,r3.2.1.2)).1,((X2i (r3.2.1.1,r3.2.1.2)).2,())))→(True∧∀r5,(Eq r5 ((X2i (r4.2.1.1,r4.2.1.2)).1,((X2i (r4.2.1.1,r4.2.1.2)).2,())))→(True∧∀r6,(Eq r6 ((X2i (r5.2.1.1,r5.2.1.2)).1,((X2i (r5.2.1.1,r5.2.1.2)).2,())))→(True∧∀r7,(Eq r7 ((X2i (r6.2.1.1,r6.2.1.2)).1,((X2i (r6.2.1.1,r6.2.1.2)).2,())))→(X04 (!r7.2.1.2) (Eq ((([]:U2q),false),((),())) ((X02 a0),((),()))) (X04 (decide (r4.1>(wI ((ln a0) - (8:Int))))) (Eq ((([]:U2q),false),((),())) ((X02 a0),((),()))) (X04 (decide (r5.1>(wI ((wI ((ln a0) - (8:Int))) - r4.1)))) (Eq ((([]:U2q),false),((),())) ((X02 a0),((),()))) (0≤r4.1∧(r4.1≤(wI (r4.1+r5.1))∧((wI (r4.1+r5.1))≤(ln a0)∧(True∧∀r8,(Eq r8 ((X1h (List.drop (tN r4.1) (List.take (tN (wI (r4.1+r5.1))) a0))),((),())))→(List.length y2.2.2+List.length [(r3.1,r8.1.1)]≤9223372036854775807∧((List.length y2.2.2+List.length [(r3.1,r8.1.1)])*40≤140737488355328∧(eS [(0,.val false [.str a0]),(4,.val false [.int .i64 (wI ((ln a0) - (8:Int)))]),(7,.box 35 0)] [(0,.val false [.str a0]),(4,.val false [.int .i64 (wI ((ln a0) - (8:Int)))]),(7,.box 35 0)]∧(fI a0 r7.2.1.1 r7.2.1.2 (y2.2.2++[(r3.1,r8.1.1)]))∧(fM a0 r7.2.1.1 r7.2.1.2 (y2.2.2++[(r3.1,r8.1.1)]))<(fM a0 y2.1 y2.2.1 y2.2.2)))))))))))))))) (X04 (!y2.2.1) (Eq ((([]:U2q),false),((),())) ((X02 a0),((),()))) (X04 ((ln y2.2.2)==(0:Int)) (Eq ((([]:U2q),false),((),())) ((X02 a0),((),()))) ((X3M y2.2.2)∧∀r9,(Eq r9 ((X09 y2.2.2),((),())))→(X04 (!(r9.1==a0)) (Eq ((([]:U2q),false),((),())) ((X02 a0),((),()))) (Eq ((y2.2.2,true),((),())) ((X02 a0),((),())))))))) (X04 (!y2.2.1) (Eq ((([]:U2q),false),((),())) ((X02 a0),((),()))) (X04 ((ln y2.2.2)==(0:Int)) (Eq ((([]:U2q),false),((),())) ((X02 a0),((),()))) ((X3M y2.2.2)∧∀r10,(Eq r10 ((X09 y2.2.2),((),())))→(X04 (!(r10.1==a0)) (Eq ((([]:U2q),false),((),())) ((X02 a0),((),()))) (Eq ((y2.2.2,true),((),())) ((X02 a0),((),())))))))) (X04 (!y2.2.1) (Eq ((([]:U2q),false),((),())) ((X02 a0),((),()))) (X04 ((ln y2.2.2)==(0:Int)) (Eq ((([]:U2q),false),((),())) ((X02 a0),((),()))) ((X3M y2.2.2)∧∀r11,(Eq r11 ((X09 y2.2.2),((),())))→(X04 (!(r11.1==a0)) (Eq ((([]:U2q),false),((),())) ((X02 a0),((),()))) (Eq ((y2.2.2,true),((),())) ((X02 a0),((),()))))))))))))))))))
def X0F.L(a0:U3q):Nat→Option X0g:=fun p=>Go.Proofs.Ytegmokdppbagiaa.Bv.look p [(1020,{kp:={hold:=[0,4,7],slots:=[8],boxes:=[35],rows:=[{bx:=false,s:=8,i:=0,k:=1001027,e:=36,hot:=true}]},T:=(.pair .str (.pair .bool (.list T1q))),I:=fun st y=>fI a0 y.1 y.2.1 y.2.2,μ:=fun st y=>fM a0 y.1 y.2.1 y.2.2})]
theorem X0F.pure(a0:U3q)(h:(Xcn a0))(hw:Wf X38.A a0):X0F.F a0:=by
 delta X0F.F ln tN wI eS
 simp only[Bs,B0,B1,Prod.mk.injEq,X06,Prod.eta]
 have hl:a0.length≤maxLen:=h
 have hl2:=hl
 unfold maxLen at hl
 rw[w64 (x:=(a0.length:Int) - 8) (by omega) (by omega)]
 have hbe:=XiW (s:=a0.drop ((a0.length:Int) - 8).toNat) (w:=4)
 refine⟨fun h1=>X3R fun l hl=>?_,fun h1=>?_⟩
 · have L:=hl.lay;have:=L.len;have:=X6Y l;omega
 have hne:a0≠[]:=fun e=>by rw[e]at h1;simp at h1
 have en:((a0.length:Int) - 8).toNat=a0.length - 8:=by omega
 rw[en]at hbe ⊢
 refine⟨by omega,by omega,fun h2=>X3R fun l hl=>?_,fun h2=>⟨by omega,by omega,by omega,⟨⟨by rw[List.length_drop,List.length_take];omega,by simp,by simp⟩,fun l hl=>⟨rfl,l,rfl,?_⟩⟩,fun y hI=>?_⟩⟩
 · have L:=hl.lay
   have:=L.len
   rw[show a0.length - 8=(tF l).length+(ixF l 4).length by omega,L.at4]at h2
   simp only at h2;omega
 · have L:=hl.lay
   have:=L.len
   rw[show a0.length - 8=(tF l).length+(ixF l 4).length by omega,L.at4]
   simp only[Int.toNat_natCast]
   rw[L.ix];rfl
 obtain⟨rest,ok,out⟩:=y
 simp only at hI ⊢
 refine⟨fun h3=>⟨fun h4=>⟨fun h5=>?_,fun h5=>Xie hne hI (fun _ _ h6=>by omega)⟩,fun h4=>Xie hne hI (fun _ h6 _=>h6 h4)⟩,fun h3=>Xie hne hI (fun h6 _ _=>by rw[h6]at h3;cases h3)⟩
 subst h3
 have st:=XiI hI h4
 obtain⟨⟨r1,r2,r3⟩,_⟩:=hI
 have n1:=XdX (X1Q (rest,true)).2
 have n2:=XdX (X2i (X1Q (rest,true)).2).2
 have k1:=Xft (rest,true)
 have k2:=X8H (X1Q (rest,true)).2
 have k3:=X8H (X2i (X1Q (rest,true)).2).2
 have k4:=X8H (X2i (X2i (X1Q (rest,true)).2).2).2
 have k5:=X8H (X2i (X2i (X2i (X1Q (rest,true)).2).2).2).2
 simp only at k1
 refine⟨fun h6=>X3R fun l hl=>?_,fun h6=>⟨fun h7=>X3R fun l hl=>?_,fun h7=>?_⟩⟩
 · obtain⟨x,b,e1,e2,A,R⟩:=st l hl
   rw[R.d]at h6;cases h6
 · obtain⟨x,b,e1,e2,A,R⟩:=st l hl
   rw[R.b]at h7
   have:=A.fit
   omega
 rw[w64 (x:=(a0.length:Int) - 8 - (X2i (X1Q (rest,true)).2).1) (by omega) (by omega)]
 refine⟨fun h8=>X3R fun l hl=>?_,fun h8=>?_⟩
 · obtain⟨x,b,e1,e2,A,R⟩:=st l hl
   rw[R.b,R.c]at h8
   have:=A.fit
   omega
 rw[w64 (x:=(X2i (X1Q (rest,true)).2).1+(X2i (X2i (X1Q (rest,true)).2).2).1) (by omega) (by omega)]
 refine⟨by omega,by omega,by omega,by omega,by omega,⟨⟨by omega,?_,by simp;omega⟩,fun l hl=>?_⟩,by unfold fM;simp;omega⟩
 · intro x hx
   rcases List.mem_append.1 hx with hx | hx
   · exact r2 x hx
   · rw[List.mem_singleton.1 hx];simp only;unfold maxLen;omega
 · obtain⟨x,b,e1,e2,A,R⟩:=st l hl
   refine⟨h6,b,?_,?_⟩
   · rw[e1,R.c,R.b,R.k]
     rw[show((((4+(txF out).length:Nat):Int)+((X03 x.2).length:Int))).toNat=4+(txF out).length+(X03 x.2).length by omega,Int.toNat_natCast,A.blk,A.read]
     simp
   · rw[R.d,R.c,R.b,R.k]
     rw[show((((4+(txF out).length:Nat):Int)+((X03 x.2).length:Int))).toNat=4+(txF out).length+(X03 x.2).length by omega,Int.toNat_natCast,A.blk,A.read]
     simp only[X7q,List.length_append]
     rw[show txF [(x.1,x.2)]=X03 x.2 by simp[txF],←Nat.add_assoc]
theorem X0F.eq:EqS X38 Try.f10 [24,4] [X0J.e,X0B.e,X1a.e,X1c.e,X0H.e] [] (fun i x=>X0F.L x) (fun i x=>X0F.F x):=by intro i x;kernel_rfl
theorem X0F.ok:X11 Try.prog 10 X38:=X3V X0F.eq Try.func10 rfl (by kernel_rfl) fun i x h hi hw=>X0F.pure x h hw
def X0F.e:GE:=⟨10,X38,⟨_,Try.func10,rfl,rfl⟩,X0F.ok⟩
def loN(l:List Ser):Nat→Int
 | 0=>1099511627776
 | i+1=>if ((l.getD i ([],[])).2.getD 0 (0,0)).1<loN l i then((l.getD i ([],[])).2.getD 0 (0,0)).1 else loN l i
def hiN(l:List Ser):Nat→Int
 | 0=>0
 | i+1=>if hiN l i<((l.getD i ([],[])).2.getD ((l.getD i ([],[])).2.length - 1) (0,0)).1 then((l.getD i ([],[])).2.getD ((l.getD i ([],[])).2.length - 1) (0,0)).1 else hiN l i
def X2G(s:List UInt8):Int×(Int×Bool):=if (X02 s).2=true then(loN (X02 s).1 (X02 s).1.length,(hiN (X02 s).1 (X02 s).1.length,true)) else(0,(0,false))
theorem XdU{s:List UInt8}(h:(X02 s).2=true):RF s (X02 s).1:=by
 unfold X02 at h ⊢
 split at h
 · rename_i h2;rw[if_pos h2];exact h2
 · cases h
theorem Xdn{l:List Pt}(h:X0N l=true):∀i,i<l.length→(l.getD 0 (0,0)).1≤(l.getD i (0,0)).1
 | 0,_=>by omega
 | i+1,hi=>by
   have h1:=Xdn h i (by omega)
   have h2:=X4Y.1 (XaL.1 ((X7m.1 h).2 (i+1) hi)).1
   simp only[X9w,Nat.add_sub_cancel]at h2
   omega
theorem XfW{l:List Ser}(h:X0L l=true){i:Nat}(hi:i<l.length):0<(l.getD i ([],[])).2.length∧(l.getD i ([],[])).2.length≤60∧0≤((l.getD i ([],[])).2.getD 0 (0,0)).1∧((l.getD i ([],[])).2.getD 0 (0,0)).1≤((l.getD i ([],[])).2.getD ((l.getD i ([],[])).2.length - 1) (0,0)).1∧((l.getD i ([],[])).2.getD ((l.getD i ([],[])).2.length - 1) (0,0)).1≤1099511627776:=by
 obtain⟨q1,q2,q3,q4⟩:=(X5O h).2 i hi
 have q5:0<(l.getD i ([],[])).2.length:=by omega
 have p0:=Xgr q4 (i:=0) (by omega)
 have p1:=Xgr q4 (i:=(l.getD i ([],[])).2.length - 1) (by omega)
 have pm:=Xdn q4 ((l.getD i ([],[])).2.length - 1) (by omega)
 exact⟨q5,X53 q4,p0.1,pm,p1.2⟩
def ssM(s:List UInt8)(a b i:Int):Nat:=((X02 s).1.length - i).toNat
def siI(s:List UInt8)(a b i:Int):Prop:=0≤i∧i≤(X02 s).1.length∧a=loN (X02 s).1 i.toNat∧b=hiN (X02 s).1 i.toNat
def X3i:Con:={A:=.str,shA:=[.one],R:=(.pair (.int .i64) (.pair (.int .i64) .bool)),shR:=[(false,1),(false,1),(false,1)],pre:=fun _ a=>(Xcn a),f:=some fun _ a=>((X2G a),((),()))}
def X0S.F(a0:U3q):Prop:=((Xcn a0)∧∀r1,(Eq r1 ((X02 a0),((),())))→(X04 (!r1.1.2) (Eq ((0,(0,false)),((),())) ((X2G a0),((),()))) (eS [(18,.val false [.lst T1q r1.1.1 none]),(19,.val false [.int .i64 (ln r1.1.1)])] [(18,.val false [.lst T1q r1.1.1 none]),(19,.val false [.int .i64 (ln r1.1.1)])]∧((siI a0 1099511627776 0 0)∧∀(y2:(Int×(Int×Int))),(siI a0 y2.1 y2.2.1 y2.2.2)→(X04 (decide (y2.2.2<(ln r1.1.1))) (0≤y2.2.2∧(y2.2.2<(ln r1.1.1)∧(0≤(0:Int)∧((0:Int)<(ln ((List.getD r1.1.1 (tN y2.2.2) ([],[])).2))∧(0≤(wI ((ln ((List.getD r1.1.1 (tN y2.2.2) ([],[])).2)) - (1:Int)))∧((wI ((ln ((List.getD r1.1.1 (tN y2.2.2) ([],[])).2)) - (1:Int)))<(ln ((List.getD r1.1.1 (tN y2.2.2) ([],[])).2))∧(eS [(18,.val false [.lst T1q r1.1.1 none]),(19,.val false [.int .i64 (ln r1.1.1)])] [(18,.val false [.lst T1q r1.1.1 none]),(19,.val false [.int .i64 (ln r1.1.1)])]∧(siI a0 (if ((List.getD ((List.getD r1.1.1 (tN y2.2.2) ([],[])).2) (tN (0:Int)) (0,0)).1)<y2.1 then((List.getD ((List.getD r1.1.1 (tN y2.2.2) ([],[])).2) (tN (0:Int)) (0,0)).1) else y2.1) (if y2.2.1<((List.getD ((List.getD r1.1.1 (tN y2.2.2) ([],[])).2) (tN (wI ((ln ((List.getD r1.1.1 (tN y2.2.2) ([],[])).2)) - (1:Int)))) (0,0)).1) then((List.getD ((List.getD r1.1.1 (tN y2.2.2) ([],[])).2) (tN (wI ((ln ((List.getD r1.1.1 (tN y2.2.2) ([],[])).2)) - (1:Int)))) (0,0)).1) else y2.2.1) (wI (y2.2.2+(1:Int))))∧(ssM a0 (if ((List.getD ((List.getD r1.1.1 (tN y2.2.2) ([],[])).2) (tN (0:Int)) (0,0)).1)<y2.1 then((List.getD ((List.getD r1.1.1 (tN y2.2.2) ([],[])).2) (tN (0:Int)) (0,0)).1) else y2.1) (if y2.2.1<((List.getD ((List.getD r1.1.1 (tN y2.2.2) ([],[])).2) (tN (wI ((ln ((List.getD r1.1.1 (tN y2.2.2) ([],[])).2)) - (1:Int)))) (0,0)).1) then((List.getD ((List.getD r1.1.1 (tN y2.2.2) ([],[])).2) (tN (wI ((ln ((List.getD r1.1.1 (tN y2.2.2) ([],[])).2)) - (1:Int)))) (0,0)).1) else y2.2.1) (wI (y2.2.2+(1:Int))))<(ssM a0 y2.1 y2.2.1 y2.2.2)))))))) (Eq ((y2.1,(y2.2.1,true)),((),())) ((X2G a0),((),()))))))))
def X0S.L(a0:U3q):Nat→Option X0g:=fun p=>Go.Proofs.Ytegmokdppbagiaa.Bv.look p [(250,{kp:={hold:=[18,19],slots:=[7,8,20],boxes:=[],rows:=[]},T:=(.pair (.int .i64) T0q),I:=fun st y=>siI a0 y.1 y.2.1 y.2.2,μ:=fun st y=>ssM a0 y.1 y.2.1 y.2.2})]
theorem X0S.pure(a0:U3q)(h:(Xcn a0))(hw:Wf X3i.A a0):X0S.F a0:=by
 delta X0S.F ln tN wI eS
 simp only[Bs,B0,B1,Prod.mk.injEq,X06,Prod.eta]
 refine⟨h,fun h1=>by unfold X2G;rw[if_neg (by rw[h1];decide)],fun h1=>?_⟩
 have hR:=XdU h1
 have hlen:=List.length_pos_iff.2 hR.1.2
 have h5:=(X5O hR.1.1).1
 have hp:=fun i hi=>XfW hR.1.1 (i:=i) hi
 have hp0:=hp 0 hlen
 have hF:X2G a0=(loN (X02 a0).1 (X02 a0).1.length,(hiN (X02 a0).1 (X02 a0).1.length,true)):=by unfold X2G;rw[if_pos h1]
 rw[hF]
 refine⟨⟨by omega,by omega,rfl,rfl⟩,fun y hI=>?_⟩
 obtain⟨a,b,i⟩:=y
 obtain⟨g1,g2,g3,g4⟩:=hI
 simp only at g1 g2 g3 g4 ⊢
 refine⟨fun hi=>?_,fun hi=>?_⟩
 · have hq:=hp i.toNat (by omega)
   have el:loN (X02 a0).1 (i+1).toNat=if (((X02 a0).1.getD i.toNat ([],[])).2.getD 0 (0,0)).1<loN (X02 a0).1 i.toNat then(((X02 a0).1.getD i.toNat ([],[])).2.getD 0 (0,0)).1 else loN (X02 a0).1 i.toNat:=by
    rw[show(i+1).toNat=i.toNat+1 by omega];rfl
   have eh:hiN (X02 a0).1 (i+1).toNat=if hiN (X02 a0).1 i.toNat<(((X02 a0).1.getD i.toNat ([],[])).2.getD (((X02 a0).1.getD i.toNat ([],[])).2.length - 1) (0,0)).1 then(((X02 a0).1.getD i.toNat ([],[])).2.getD (((X02 a0).1.getD i.toNat ([],[])).2.length - 1) (0,0)).1 else hiN (X02 a0).1 i.toNat:=by
    rw[show(i+1).toNat=i.toNat+1 by omega];rfl
   rw[w64 (x:=((((X02 a0).1.getD i.toNat ([],[])).2.length:Nat):Int) - 1) (by omega) (by omega),w64 (x:=i+1) (by omega) (by omega),show(((((X02 a0).1.getD i.toNat ([],[])).2.length:Nat):Int) - 1).toNat=((X02 a0).1.getD i.toNat ([],[])).2.length - 1 by omega,show Int.toNat 0=0 from rfl]
   exact⟨by omega,by omega,by omega,by omega,by omega,by omega,⟨by omega,by omega,by rw[el,g3],by rw[eh,g4]⟩,by unfold ssM;omega⟩
 · rw[g3,g4,show i.toNat=(X02 a0).1.length by omega]
theorem X0S.eq:EqS X3i Try.f12 [3,3,4] [X0F.e] [] (fun i x=>X0S.L x) (fun i x=>X0S.F x):=by intro i x;kernel_rfl
theorem X0S.ok:X11 Try.prog 12 X3i:=X3V X0S.eq Try.func12 rfl (by kernel_rfl) fun i x h hi hw=>X0S.pure x h hw
def X0S.e:GE:=⟨12,X3i,⟨_,Try.func12,rfl,rfl⟩,X0S.ok⟩
end Go.Proofs.Ytegmokdppbagiaa.B
