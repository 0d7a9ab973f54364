/- Values of the program's types:how large,the same,marked. -/
import Derived.Test.YtakllifahpfmpaaCCover
set_option maxRecDepth 100000
set_option linter.unusedVariables false
set_option linter.unusedSimpArgs false
namespace Go.Proofs.Ytakllifahpfmpaa.B
open Go Go.Proofs.Ytakllifahpfmpaa.Bv
def Xf6{α:Type}(n:α→Nat)(l:List α)(i:Nat):Nat:=((l.take i).map n).sum
theorem XfR{α:Type}(n:α→Nat)(l:List α):Xf6 n l 0=0:=by simp[Xf6]
theorem Xfr{α:Type}(n:α→Nat)(l:List α)(d:α){i:Nat}(h:i<l.length):Xf6 n l (i+1)=Xf6 n l i+n (l.getD i d):=by
 unfold Xf6;rw[X53 d h,List.map_append,List.sum_append];simp
theorem Xhc{α:Type}(n:α→Nat)(l:List α)(i:Nat):Xf6 n l i≤Xf6 n l l.length:=by
 have h:l.take l.length=l.take i++l.drop i:=by rw[List.take_length,List.take_append_drop]
 unfold Xf6;rw[h,List.map_append,List.sum_append];omega
def nL{α:Type}(n:α→Nat)(l:List α):Nat:=l.length+Xf6 n l l.length
theorem XfE{α:Type}(n:α→Nat){x:α}:∀{l:List α},x∈l→n x≤(l.map n).sum
 | y::l,h=>by
   rw[List.map_cons,List.sum_cons]
   rcases List.mem_cons.1 h with rfl | h
   · omega
   · have:=XfE n h;omega
theorem Xie{α:Type}(n:α→Nat){l:List α}{x:α}(h:x∈l):n x+1≤nL n l:=by
 have h1:=XfE n h
 have h2:0<l.length:=List.length_pos_of_mem h
 unfold nL Xf6;rw[List.take_length];omega
def fSz(n:Nat)(left:Int):Int:=if left<n then -1 else left - n
theorem XbW{n:Nat}{left:Int}(h:left<n):fSz n left= -1:=if_pos h
theorem Xcx{n:Nat}{left:Int}(h:¬left<n):fSz n left=left - n:=if_neg h
def szLI{α:Type}(n:α→Nat)(a:List α)(left0 left i:Int):Prop:=0≤i∧i≤a.length∧0≤left∧left0=left+a.length+Xf6 n a i.toNat
def szLM{α:Type}(a:List α)(left0 left i:Int):Nat:=(a.length - i).toNat
def cpI{α:Type}(d:α)(a:List α)(i:Int)(out:List α):Prop:=0≤i∧i≤a.length∧out=a.take i.toNat++List.replicate (a.length - i.toNat) d
def cpM{α:Type}(a:List α)(i:Int)(out:List α):Nat:=(a.length - i).toNat
theorem XgQ{α:Type}{d:α}{a:List α}{i:Int}{out:List α}(h:cpI d a i out):out.length=a.length:=by
 obtain⟨h1,h2,h3⟩:=h
 rw[h3,List.length_append,List.length_take,List.length_replicate];omega
theorem XfG{α:Type}{d:α}{a:List α}{i:Int}{out:List α}(h:cpI d a i out)(hi:i<a.length):cpI d a (i+1) (out.set i.toNat (a.getD i.toNat d)):=by
 obtain⟨h1,h2,h3⟩:=h
 refine⟨by omega,by omega,?_⟩
 rw[tn1 h1,h3,X53 d (by omega:i.toNat<a.length)]
 have e:a.length - i.toNat=(a.length - (i.toNat+1))+1:=by omega
 have hl:(a.take i.toNat).length=i.toNat:=by rw[List.length_take];omega
 rw[e,List.replicate_succ,List.set_append_right _ _ (by omega),hl,Nat.sub_self,List.set_cons_zero,List.append_assoc]
 rfl
theorem XgX{α:Type}{d:α}{a:List α}{i:Int}{out:List α}(h:cpI d a i out)(hi:¬i<a.length):out=a:=by
 obtain⟨h1,h2,h3⟩:=h
 have e:i.toNat=a.length:=by omega
 rw[h3,e,List.take_length,Nat.sub_self];simp
def Xde{α:Type}(a b:List α)(i:Int):Prop:=0≤i∧i≤a.length∧a.length=b.length∧a.take i.toNat=b.take i.toNat
def XeG{α:Type}(a b:List α)(i:Int):Nat:=(a.length - i).toNat
theorem Xbl{α:Type}{d:α}{a b:List α}{i:Int}(h:Xde a b i)(hi:i<a.length)(he:a.getD i.toNat d=b.getD i.toNat d):Xde a b (i+1):=by
 obtain⟨h1,h2,h3,h4⟩:=h
 refine⟨by omega,by omega,h3,?_⟩
 rw[tn1 h1,X53 d (by omega),X53 d (by omega),h4,he]
theorem XcU{α:Type}{a b:List α}{i:Int}(h:Xde a b i)(hi:¬i<a.length):a=b:=by
 obtain⟨h1,h2,h3,h4⟩:=h
 have e:i.toNat=a.length:=by omega
 rw[e,List.take_length,h3,List.take_length]at h4
 exact h4
def cL{α:Type}(c:α→Int)(l:List α):Int:=(l.map c).sum
def mL{α:Type}(c:α→Int)(m:α→Int→α):List α→Int→List α
 | [],_=>[]
 | x::l,k=>m x k::mL c m l (k+c x)
def oL{α:Type}(c:α→Int)(o:α→Int→Bool):List α→Int→Bool
 | [],_=>true
 | x::l,k=>o x k&&oL c o l (k+c x)
def fHd(c:Int)(o:Bool)(k:Int):Int:=if o=true then k+c else -1
theorem X4r{c k:Int}{o:Bool}(h0:0≤c)(h1:0≤k):fHd c o k<0↔o=false:=by
 unfold fHd;cases o<;>simp;omega
theorem X3i{c k:Int}{o:Bool}(h:o=true):fHd c o k=k+c:=if_pos h
theorem X7n{α:Type}(c:α→Int)(x:α)(l:List α):cL c (x::l)=c x+cL c l:=by simp[cL]
theorem X7t{α:Type}(c:α→Int)(l r:List α):cL c (l++r)=cL c l+cL c r:=by simp[cL]
theorem X26{α:Type}{c:α→Int}(h:∀x,0≤c x):∀l,0≤cL c l
 | []=>by simp[cL]
 | x::l=>by have:=X26 h l;have:=h x;rw[X7n];omega
theorem X5o{α:Type}(c:α→Int)(d:α){l:List α}{i:Nat}(h:i<l.length):cL c (l.take (i+1))=cL c (l.take i)+c (l.getD i d)∧cL c l=cL c (l.take i)+(c (l.getD i d)+cL c (l.drop (i+1))):=by
 constructor
 · rw[X53 d h,X7t];simp[cL]
 · conv=>lhs;rw[←List.take_append_drop i l,X7t,X6I d h,X7n]
theorem Xa5{α:Type}{c:α→Int}(h:∀x,0≤c x∧c x≤64):∀l,cL c l≤64*l.length
 | []=>by simp[cL]
 | x::l=>by have:=Xa5 h l;have:=h x;rw[X7n,List.length_cons];omega
theorem X7J{α:Type}(c:α→Int)(m:α→Int→α):∀l k,(mL c m l k).length=l.length
 | [],_=>rfl
 | x::l,k=>by simp[mL,X7J c m l]
theorem Xc0{α:Type}(c:α→Int)(m:α→Int→α):∀l r k,mL c m (l++r) k=mL c m l k++mL c m r (k+cL c l)
 | [],r,k=>by simp[mL,cL]
 | x::l,r,k=>by simp only[List.cons_append,mL,Xc0 c m l r,X7n];rw[Int.add_assoc]
theorem Xcg{α:Type}{c:α→Int}{m:α→Int→α}{o:α→Int→Bool}(h:∀x k,o (m x k) k=true∧c (m x k)=c x):∀l k,oL c o (mL c m l k) k=true∧cL c (mL c m l k)=cL c l
 | [],k=>⟨rfl,rfl⟩
 | x::l,k=>by
   obtain⟨h1,h2⟩:=h x k
   obtain⟨h3,h4⟩:=Xcg h l (k+c x)
   simp only[mL,oL,X7n,h1,h2,h3,h4,Bool.and_self,and_self]
structure mkI {α:Type} (c:α→Int) (m:α→Int→α) (a:List α) (k0 k i:Int) (l:List α):Prop where
 h1:0≤i
 h2:i≤a.length
 h3:k=k0+cL c (a.take i.toNat)
 h4:l=mL c m (a.take i.toNat) k0++a.drop i.toNat
def mkM{α:Type}(a:List α)(k0 k i:Int)(l:List α):Nat:=(a.length - i).toNat
theorem XfC{α:Type}{c:α→Int}{m:α→Int→α}{a:List α}{k0 k i:Int}{l:List α}(h:mkI c m a k0 k i l):l.length=a.length:=by
 obtain⟨h1,h2,h3,h4⟩:=h
 rw[h4,List.length_append,X7J,List.length_take,List.length_drop];omega
theorem Xhw{α:Type}{c:α→Int}{m:α→Int→α}{a:List α}{k0 k i:Int}{l:List α}{d:α}(h:mkI c m a k0 k i l)(hi:i<a.length):l.getD i.toNat d=a.getD i.toNat d:=by
 obtain⟨h1,h2,h3,h4⟩:=h
 have hl:(mL c m (a.take i.toNat) k0).length=i.toNat:=by rw[X7J,List.length_take];omega
 rw[h4,List.getD_eq_getElem?_getD,List.getElem?_append_right (by omega),hl,Nat.sub_self,X6I d (by omega)]
 rfl
theorem XcQ{α:Type}{c:α→Int}{m:α→Int→α}{a:List α}{k0 k i:Int}{l:List α}{d x':α}{k':Int}(h:mkI c m a k0 k i l)(hi:i<a.length)(hx:x'=m (a.getD i.toNat d) k)(hk:k'=k+c (a.getD i.toNat d)):mkI c m a k0 k' (i+1) (l.set i.toNat x'):=by
 obtain⟨h1,h2,h3,h4⟩:=h
 have hi':i.toNat<a.length:=by omega
 have hl:(mL c m (a.take i.toNat) k0).length=i.toNat:=by rw[X7J,List.length_take];omega
 refine⟨by omega,by omega,?_,?_⟩
 · rw[tn1 h1,(X5o c d hi').1,hk,h3];omega
 · rw[tn1 h1,h4,X53 d hi',Xc0,List.set_append_right _ _ (by omega),hl,Nat.sub_self,X6I d hi',List.set_cons_zero,List.append_assoc,hx,h3]
   rfl
theorem Xfi{α:Type}{c:α→Int}{m:α→Int→α}{a:List α}{k0 k i:Int}{l:List α}(h:mkI c m a k0 k i l)(hi:¬i<a.length):k=k0+cL c a∧l=mL c m a k0:=by
 obtain⟨h1,h2,h3,h4⟩:=h
 have e:i.toNat=a.length:=by omega
 rw[e,List.take_length]at h3 h4
 exact⟨h3,by rw[h4,List.drop_length,List.append_nil]⟩
structure hdI {α:Type} (c:α→Int) (o:α→Int→Bool) (a:List α) (k0 k i:Int):Prop where
 h1:0≤i
 h2:i≤a.length
 h3:k=k0+cL c (a.take i.toNat)
 h4:oL c o a k0=oL c o (a.drop i.toNat) k
def hdM{α:Type}(a:List α)(k0 k i:Int):Nat:=(a.length - i).toNat
theorem Xd8{α:Type}{c:α→Int}{o:α→Int→Bool}{a:List α}{k0 k i k':Int}(d:α)(h:hdI c o a k0 k i)(hi:i<a.length)(ho:o (a.getD i.toNat d) k=true)(hk:k'=k+c (a.getD i.toNat d)):hdI c o a k0 k' (i+1):=by
 obtain⟨h1,h2,h3,h4⟩:=h
 have hi':i.toNat<a.length:=by omega
 refine⟨by omega,by omega,?_,?_⟩
 · rw[tn1 h1,(X5o c d hi').1,hk,h3];omega
 · rw[tn1 h1,h4,X6I d hi'];simp only[oL,ho,Bool.true_and,hk]
theorem Xhp{α:Type}{c:α→Int}{o:α→Int→Bool}{a:List α}{k0 k i:Int}(d:α)(h:hdI c o a k0 k i)(hi:i<a.length)(ho:o (a.getD i.toNat d) k=false):-1=fHd (cL c a) (oL c o a k0) k0:=by
 obtain⟨h1,h2,h3,h4⟩:=h
 rw[h4,X6I d (by omega)]
 show -1=fHd _ (o (a.getD i.toNat d) k&&oL c o _ _) _
 rw[ho,Bool.false_and];rfl
theorem Xfb{α:Type}{c:α→Int}{o:α→Int→Bool}{a:List α}{k0 k i:Int}(h:hdI c o a k0 k i)(hi:¬i<a.length):k=fHd (cL c a) (oL c o a k0) k0:=by
 obtain⟨h1,h2,h3,h4⟩:=h
 have e:i.toNat=a.length:=by omega
 rw[e,List.take_length]at h3
 rw[e,List.drop_length]at h4
 rw[h4]
 show k=fHd (cL c a) true k0
 rw[X3i rfl,h3]
theorem X1G{α:Type}{l:List α}{i:Nat}{v d:α}(h:i<l.length):List.getD (List.set l i v) i d=v:=by
 rw[List.getD_eq_getElem?_getD,List.getElem?_set_self h];rfl
def XhH(n:Nat)(out:List UInt8):List UInt8:=if n=0 then out else XhH (n / 10) (UInt8.ofNat (48+n % 10)::out)
termination_by n
decreasing_by omega
def pMT(k:Int):Prop:=k≤4611686018427387904
def fMT(k:Int):List UInt8:=if k≤0 then [109,48] else 109::XhH k.toNat []
def mtI(k0 k:Int)(out:List UInt8):Prop:=0≤k∧0<k0∧out.length+k≤k0∧k0≤4611686018427387904∧XhH k.toNat out=XhH k0.toNat []
def mtM(k0 k:Int)(out:List UInt8):Nat:=k.toNat
def X3E:Con:={A:=(.int .i64),shA:=[.one],R:=.str,shR:=[(false,1)],pre:=fun _ a=>(pMT a),f:=some fun _ a=>((fMT a),((),()))}
def X0s.F(a0:Int):Prop:=(X02 (decide (a0≤(0:Int))) (Eq ([109,48],((),())) ((fMT a0),((),()))) (eS [] []∧((mtI a0 a0 [])∧∀(y1:U4q),(mtI a0 y1.1 y1.2)→(X02 (decide (y1.1>(0:Int))) ((10:Int)≠0∧(List.length (List.map (fun n=>UInt8.ofNat (Int.toNat n)) [(IntKind.wrap .u8 (wI ((48:Int)+(Int.tmod y1.1 (10:Int)))))])+List.length y1.2≤9223372036854775807∧((10:Int)≠0∧(eS [] []∧(mtI a0 (wI (Int.tdiv y1.1 (10:Int))) ((List.map (fun n=>UInt8.ofNat (Int.toNat n)) [(IntKind.wrap .u8 (wI ((48:Int)+(Int.tmod y1.1 (10:Int)))))])++y1.2))∧(mtM a0 (wI (Int.tdiv y1.1 (10:Int))) ((List.map (fun n=>UInt8.ofNat (Int.toNat n)) [(IntKind.wrap .u8 (wI ((48:Int)+(Int.tmod y1.1 (10:Int)))))])++y1.2))<(mtM a0 y1.1 y1.2))))) (List.length [109]+List.length y1.2≤9223372036854775807∧(Eq (([109]++y1.2),((),())) ((fMT a0),((),()))))))))
def X0s.L(a0:Int):Nat→Option X0w:=fun p=>Go.Proofs.Ytakllifahpfmpaa.Bv.look p [(60,{kp:={hold:=[],slots:=[0,3],boxes:=[],rows:=[]},T:=T5q,I:=fun st y=>mtI a0 y.1 y.2,μ:=fun st y=>mtM a0 y.1 y.2})]
theorem X0s.pure(a0:Int)(h:(pMT a0))(hw:Wf X3E.A a0):X0s.F a0:=by
 delta X0s.F wI eS
 simp only[Bs,B0,B1,Prod.mk.injEq,X04]
 have hp:a0≤4611686018427387904:=h
 refine⟨fun h1=>by simp[fMT,h1],fun h1=>⟨⟨by omega,by omega,by simp,hp,rfl⟩,?_⟩⟩
 rintro⟨k,out⟩ ⟨h2,h3,h4,h5,h6⟩
 simp only at h2 h3 h4 h5 h6 ⊢
 refine⟨fun hk=>?_,fun hk=>?_⟩
 · have e1:Int.tmod k 10=k % 10:=Int.tmod_eq_emod_of_nonneg h2
   have e2:Int.tdiv k 10=k / 10:=Int.tdiv_eq_ediv_of_nonneg h2
   rw[e1,e2,w64 (x:=48+k % 10) (by omega) (by omega),wu8 (by omega) (by omega),w64 (x:=k / 10) (by omega) (by omega)]
   rw[XhH,if_neg (by omega)]at h6
   refine⟨by omega,by simp;omega,by omega,⟨by omega,h3,by simp;omega,h5,?_⟩,by unfold mtM;omega⟩
   have e3:(k / 10).toNat=k.toNat / 10:=by omega
   have e4:(48+k % 10).toNat=48+k.toNat % 10:=by omega
   rw[←h6,e3]
   show XhH _ (UInt8.ofNat (48+k % 10).toNat::out)=_
   rw[e4]
 · have e:k=0:=by omega
   subst e
   rw[show Int.toNat 0=0 from rfl,XhH,if_pos rfl]at h6
   refine⟨by omega,?_⟩
   unfold fMT
   rw[if_neg h1,←h6]
   rfl
theorem X0s.eq:EqS X3E Try.f37 [9] [] [] (fun i x=>X0s.L x) (fun i x=>X0s.F x):=by intro i x;kernel_rfl
theorem X0s.ok:X0z Try.prog 37 X3E:=X2I X0s.eq Try.func37 rfl (by kernel_rfl) fun i x h hi hw=>X0s.pure x h hw
def X0s.e:GE:=⟨37,X3E,⟨_,Try.func37,rfl,rfl⟩,X0s.ok⟩
def c_1(x:Int):Int:=1
def X7b(x k:Int):Int:=k
def X7C(x k:Int):Bool:=decide (x=k)
theorem XgU:∀(x k:Int),X7C (X7b x k) k=true∧c_1 (X7b x k)=c_1 x:=fun x k=>⟨by simp[X7C,X7b],rfl⟩
theorem X3c:∀x:Int,0≤c_1 x:=fun x=>by simp[c_1]
def X6W(x:List Int)(left:Int):Prop:=WfD T8q x∧0≤left∧left≤1048576
def X5s(x:List Int)(left:Int):Int:=fSz (List.length x) left
def X4D:Con:={A:=(.pair T8q (.int .i64)),shA:=[.one,.one],R:=(.int .i64),shR:=[(false,1)],pre:=fun _ a=>(X6W a.1 a.2),f:=some fun _ a=>((X5s a.1 a.2),((),()))}
def X1V.F(a0:(List Int))(a1:Int):Prop:=(X02 (decide ((wI (a1 - (ln a0)))<(0:Int))) (Eq ((-1),((),())) ((X5s a0 a1),((),()))) (Eq ((wI (a1 - (ln a0))),((),())) ((X5s a0 a1),((),()))))
theorem X1V.pure(a0:(List Int))(a1:Int)(h:(X6W a0 a1))(hw:Wf X4D.A (a0,a1)):X1V.F a0 a1:=by
 delta X1V.F ln wI
 obtain⟨hwf,p1,p2⟩:=h
 have hw1:a0.length≤9223372036854775807:=hwf.1
 simp only[Bs,B0,B1,Prod.mk.injEq,X04,X5s]
 rw[w64 (x:=a1 - (a0.length:Int)) (by omega) (by omega)]
 exact⟨fun h1=>(XbW (by omega)).symm,fun h1=>(Xcx (by omega)).symm⟩
theorem X1V.eq:EqS X4D Try.f15 [3] [] [] noL (fun i x=>X1V.F x.1 x.2):=by intro i x;kernel_rfl
theorem X1V.ok:X0z Try.prog 15 X4D:=X2I X1V.eq Try.func15 rfl (by kernel_rfl) fun i x h hi hw=>X1V.pure x.1 x.2 h hw
def X1V.e:GE:=⟨15,X4D,⟨_,Try.func15,rfl,rfl⟩,X1V.ok⟩
def X6Q(x:List Int):Prop:=List.length x≤1048576
def X6g(x:List Int):List Int:=x
def X4x:Con:={A:=T8q,shA:=[.one],R:=T8q,shR:=[(false,1)],fresh:=[(0,3)],pre:=fun _ a=>(X6Q a),f:=some fun _ a=>((X6g a),((),()))}
def X1k.F(a0:(List Int)):Prop:=(0≤(ln a0)∧((ln a0)≤(ln a0)∧((ln a0)≤9223372036854775807∧(((8:Nat):Int)*(ln a0)≤140737488355328∧(eS [(0,.val false [.lst (.int .i64) a0 none]),(3,.val false [.own (.int .i64) 1000387])] [(0,.val false [.lst (.int .i64) a0 none]),(3,.val false [.own (.int .i64) 1000387])]∧((cpI (0:Int) a0 0 (List.replicate (tN (ln a0)) (0:Int)))∧∀(y1:(Int×(List Int))),(cpI (0:Int) a0 y1.1 y1.2)→(X02 (decide (y1.1<(ln a0))) (0≤y1.1∧(y1.1<(ln a0)∧(0≤y1.1∧(y1.1<(ln y1.2)∧(eS [(0,.val false [.lst (.int .i64) a0 none]),(3,.val false [.own (.int .i64) 1000387])] [(0,.val false [.lst (.int .i64) a0 none]),(3,.val false [.own (.int .i64) 1000387])]∧(cpI (0:Int) a0 (wI (y1.1+(1:Int))) (List.set y1.2 (tN y1.1) (List.getD a0 (tN y1.1) 0)))∧(cpM a0 (wI (y1.1+(1:Int))) (List.set y1.2 (tN y1.1) (List.getD a0 (tN y1.1) 0)))<(cpM a0 y1.1 y1.2)))))) (Eq (y1.2,((),())) ((X6g a0),((),()))))))))))
def X1k.L(a0:(List Int)):Nat→Option X0w:=fun p=>Go.Proofs.Ytakllifahpfmpaa.Bv.look p [(58,{kp:={hold:=[0,3],slots:=[4],boxes:=[],rows:=[{bx:=false,s:=3,i:=0,k:=1000387,e:=3,hot:=true}]},T:=(.pair (.int .i64) T8q),I:=fun st y=>cpI (0:Int) a0 y.1 y.2,μ:=fun st y=>cpM a0 y.1 y.2})]
theorem X1k.pure(a0:(List Int))(h:(X6Q a0))(hw:Wf X4x.A a0):X1k.F a0:=by
 delta X1k.F ln tN wI eS
 have hb:a0.length≤1048576:=by have h1:List.length a0≤1048576:=h;exact h1
 simp only[Bs,B0,B1,Prod.mk.injEq,X04,X6g]
 refine⟨by omega,by omega,by omega,by omega,⟨by omega,by omega,by simp⟩,?_⟩
 rintro⟨i,out⟩ hI
 simp only at hI ⊢
 refine⟨fun hi=>?_,fun hi=>XgX hI hi⟩
 have hl:=XgQ hI
 have h3:=hI.2.1
 have h2:=hI.1
 rw[w64 (x:=i+1) (by omega) (by omega)]
 simp only[hl]
 exact⟨h2,hi,h2,hi,XfG hI hi,by unfold cpM;omega⟩
theorem X1k.eq:EqS X4x Try.f22 [23] [] [] (fun i x=>X1k.L x) (fun i x=>X1k.F x):=by intro i x;kernel_rfl
theorem X1k.ok:X0z Try.prog 22 X4x:=X2I X1k.eq Try.func22 rfl (by kernel_rfl) fun i x h hi hw=>X1k.pure x h hw
def X1k.e:GE:=⟨22,X4x,⟨_,Try.func22,rfl,rfl⟩,X1k.ok⟩
def X3P(a b:List Int):Bool:=decide (a=b)
def X4N:Con:={A:=(.pair T8q T8q),shA:=[.one,.one],R:=.bool,shR:=[(false,1)],pre:=fun _ _=>True,f:=some fun _ a=>((X3P a.1 a.2),((),()))}
def X1n.F(a0:(List Int))(a1:(List Int)):Prop:=(X02 ((ln a0)!=(ln a1)) (Eq (false,((),())) ((X3P a0 a1),((),()))) (eS [(0,.val false [.lst (.int .i64) a0 none]),(1,.val false [.lst (.int .i64) a1 none])] [(0,.val false [.lst (.int .i64) a0 none]),(1,.val false [.lst (.int .i64) a1 none])]∧((Xde a0 a1 0)∧∀(y1:Int),(Xde a0 a1 y1)→(X02 (decide (y1<(ln a0))) (0≤y1∧(y1<(ln a0)∧(0≤y1∧(y1<(ln a1)∧(X02 ((List.getD a0 (tN y1) 0)!=(List.getD a1 (tN y1) 0)) (Eq (false,((),())) ((X3P a0 a1),((),()))) (eS [(0,.val false [.lst (.int .i64) a0 none]),(1,.val false [.lst (.int .i64) a1 none])] [(0,.val false [.lst (.int .i64) a0 none]),(1,.val false [.lst (.int .i64) a1 none])]∧(Xde a0 a1 (wI (y1+(1:Int))))∧(XeG a0 a1 (wI (y1+(1:Int))))<(XeG a0 a1 y1))))))) (Eq (true,((),())) ((X3P a0 a1),((),())))))))
def X1n.L(a0:(List Int))(a1:(List Int)):Nat→Option X0w:=fun p=>Go.Proofs.Ytakllifahpfmpaa.Bv.look p [(58,{kp:={hold:=[0,1],slots:=[5],boxes:=[],rows:=[]},T:=(.int .i64),I:=fun st y=>Xde a0 a1 y,μ:=fun st y=>XeG a0 a1 y})]
theorem X1n.pure(a0:(List Int))(a1:(List Int))(h:True)(hw:Wf X4N.A (a0,a1)):X1n.F a0 a1:=by
 delta X1n.F ln tN wI eS
 have hw1:a0.length≤9223372036854775807:=hw.1.1
 simp only[Bs,B0,B1,Prod.mk.injEq,X04]
 refine⟨fun h1=>?_,fun h1=>?_⟩
 · have:a0≠a1:=fun e=>by subst e;simp at h1
   simp[X3P,this]
 have hl:a0.length=a1.length:=by omega
 refine⟨⟨by omega,by omega,hl,by simp⟩,?_⟩
 rintro i hI
 have h2:=hI.1
 have h3:=hI.2.1
 refine⟨fun hi=>⟨h2,hi,h2,by omega,fun hne=>?_,fun he=>?_⟩,fun hi=>?_⟩
 · have:a0≠a1:=fun e=>by subst e;simp at hne
   simp[X3P,this]
 · have hg:a0.getD i.toNat (0:Int)=a1.getD i.toNat (0:Int):=by simpa using he
   rw[w64 (x:=i+1) (by omega) (by omega)]
   exact⟨Xbl hI hi hg,by unfold XeG;omega⟩
 · have h6:=XcU hI hi
   simp[X3P,h6]
theorem X1n.eq:EqS X4N Try.f33 [4] [] [] (fun i x=>X1n.L x.1 x.2) (fun i x=>X1n.F x.1 x.2):=by intro i x;kernel_rfl
theorem X1n.ok:X0z Try.prog 33 X4N:=X2I X1n.eq Try.func33 rfl (by kernel_rfl) fun i x h hi hw=>X1n.pure x.1 x.2 h hw
def X1n.e:GE:=⟨33,X4N,⟨_,Try.func33,rfl,rfl⟩,X1n.ok⟩
def X36(l:List Int)(k:Int):Prop:=0≤k∧k+cL c_1 l≤4611686018427387904
def X3v(l:List Int)(k:Int):Int×List Int:=(k+cL c_1 l,mL c_1 X7b l k)
def X3u:Con:={A:=(.pair T8q (.int .i64)),shA:=[.one,.one],backA:=[(0,3)],B:=T8q,R:=(.int .i64),shR:=[(false,1)],pre:=fun _ a=>(X36 a.1 a.2),f:=some fun _ a=>((X3v a.1 a.2).1,((),(X3v a.1 a.2).2))}
def X0T.F(a0:(List Int))(a1:Int):Prop:=(eS [(0,.val false [.own (.int .i64) 2])] [(0,.val false [.own (.int .i64) 2])]∧((mkI c_1 X7b a0 a1 a1 0 a0)∧∀(y1:(Int×(Int×(List Int)))),(mkI c_1 X7b a0 a1 y1.1 y1.2.1 y1.2.2)→(X02 (decide (y1.2.1<(ln y1.2.2))) (0≤y1.2.1∧(y1.2.1<(ln y1.2.2)∧(eS [(0,.val false [.own (.int .i64) 2])] [(0,.val false [.own (.int .i64) 2])]∧(mkI c_1 X7b a0 a1 (wI (y1.1+(1:Int))) (wI (y1.2.1+(1:Int))) (List.set y1.2.2 (tN y1.2.1) y1.1))∧(mkM a0 a1 (wI (y1.1+(1:Int))) (wI (y1.2.1+(1:Int))) (List.set y1.2.2 (tN y1.2.1) y1.1))<(mkM a0 a1 y1.1 y1.2.1 y1.2.2)))) (Eq (y1.1,((),y1.2.2)) ((X3v a0 a1).1,((),(X3v a0 a1).2))))))
def X0T.L(a0:(List Int))(a1:Int):Nat→Option X0w:=fun p=>Go.Proofs.Ytakllifahpfmpaa.Bv.look p [(26,{kp:={hold:=[0],slots:=[1,5],boxes:=[],rows:=[{bx:=false,s:=0,i:=0,k:=2,e:=3,hot:=true}]},T:=(.pair (.int .i64) (.pair (.int .i64) T8q)),I:=fun st y=>mkI c_1 X7b a0 a1 y.1 y.2.1 y.2.2,μ:=fun st y=>mkM a0 a1 y.1 y.2.1 y.2.2})]
theorem X0T.pure(a0:(List Int))(a1:Int)(h:(X36 a0 a1))(hw:Wf X3u.A (a0,a1)):X0T.F a0 a1:=by
 delta X0T.F ln tN wI eS
 obtain⟨p1,p2⟩:=h
 have hw1:a0.length≤9223372036854775807:=hw.1.1
 simp only[Bs,B0,B1,Prod.mk.injEq,X04]
 refine⟨⟨by omega,by omega,by simp[cL],by simp[mL]⟩,?_⟩
 rintro⟨k,i,l⟩ hI
 simp only at hI ⊢
 have hl:=XfC hI
 have h2:=hI.1
 have h3:=hI.2
 refine⟨fun hi0=>?_,fun hi0=>?_⟩
 · have hi:i<(a0.length:Int):=by omega
   have hi':i.toNat<l.length:=by omega
   have hg:=Xhw (d:=(0:Int)) hI hi
   have hs:=X5o c_1 (0:Int) (l:=a0) (i:=i.toNat) (by omega)
   have hk:=hI.3
   have c1:=X26 X3c (a0.take i.toNat)
   have c2:=X26 X3c (a0.drop (i.toNat+1))
   have c3:=X3c (a0.getD i.toNat (0:Int))
   have hmod:Int.tmod k 3=k % 3:=Int.tmod_eq_emod_of_nonneg (by omega)
   have hc:c_1 (a0.getD i.toNat (0:Int))=c_1 (a0.getD i.toNat (0:Int)):=rfl
   conv at hc=>rhs;unfold c_1
   try simp only[hg,X1G hi',List.set_set,List.length_set]
   try simp (disch:=first | omega | simp_all) only[X1G,List.set_set,List.length_set,hg,w64,pMT]
   repeat' (with_reducible (first | (refine And.intro ?_ ?_) | intro _))
   all_goals (try simp+zetaDelta (disch:=first | omega | simp_all) only[hg,X1G,List.set_set,List.length_set,w64,pMT])
   all_goals (first | omega | exact XcQ (d:=(0:Int)) hI hi (by simp (disch:=omega) [X7b,hmod,Int.tmod_eq_emod_of_nonneg]<;>rfl) (by omega) | (unfold mkM;omega) | skip)
 · obtain⟨e1,e2⟩:=Xfi hI (by omega)
   exact⟨e1,e2⟩
theorem X0T.eq:EqS X3u Try.f36 [3] [] [] (fun i x=>X0T.L x.1 x.2) (fun i x=>X0T.F x.1 x.2):=by intro i x;kernel_rfl
theorem X0T.ok:X0z Try.prog 36 X3u:=X2I X0T.eq Try.func36 rfl (by kernel_rfl) fun i x h hi hw=>X0T.pure x.1 x.2 h hw
def X0T.e:GE:=⟨36,X3u,⟨_,Try.func36,rfl,rfl⟩,X0T.ok⟩
def X5l(l:List Int)(k:Int):Int:=fHd (cL c_1 l) (oL c_1 X7C l k) k
def X3K:Con:={A:=(.pair T8q (.int .i64)),shA:=[.one,.one],R:=(.int .i64),shR:=[(false,1)],pre:=fun _ a=>(X36 a.1 a.2),f:=some fun _ a=>((X5l a.1 a.2),((),()))}
def X0K.F(a0:(List Int))(a1:Int):Prop:=(eS [(0,.val false [.lst (.int .i64) a0 none])] [(0,.val false [.lst (.int .i64) a0 none])]∧((hdI c_1 X7C a0 a1 a1 0)∧∀(y1:(Int×Int)),(hdI c_1 X7C a0 a1 y1.1 y1.2)→(X02 (decide (y1.2<(ln a0))) (0≤y1.2∧(y1.2<(ln a0)∧(X02 ((List.getD a0 (tN y1.2) 0)!=y1.1) (Eq ((-1),((),())) ((X5l a0 a1),((),()))) (eS [(0,.val false [.lst (.int .i64) a0 none])] [(0,.val false [.lst (.int .i64) a0 none])]∧(hdI c_1 X7C a0 a1 (wI (y1.1+(1:Int))) (wI (y1.2+(1:Int))))∧(hdM a0 a1 (wI (y1.1+(1:Int))) (wI (y1.2+(1:Int))))<(hdM a0 a1 y1.1 y1.2))))) (Eq (y1.1,((),())) ((X5l a0 a1),((),()))))))
def X0K.L(a0:(List Int))(a1:Int):Nat→Option X0w:=fun p=>Go.Proofs.Ytakllifahpfmpaa.Bv.look p [(26,{kp:={hold:=[0],slots:=[1,5],boxes:=[],rows:=[]},T:=XfX,I:=fun st y=>hdI c_1 X7C a0 a1 y.1 y.2,μ:=fun st y=>hdM a0 a1 y.1 y.2})]
theorem X0K.pure(a0:(List Int))(a1:Int)(h:(X36 a0 a1))(hw:Wf X3K.A (a0,a1)):X0K.F a0 a1:=by
 delta X0K.F ln tN wI eS
 obtain⟨p1,p2⟩:=h
 have hw1:a0.length≤9223372036854775807:=hw.1.1
 simp only[Bs,B0,B1,Prod.mk.injEq,X04]
 refine⟨⟨by omega,by omega,by simp[cL],by simp⟩,?_⟩
 rintro⟨k,i⟩ hI
 simp only at hI ⊢
 have h2:=hI.1
 have h3:=hI.2
 refine⟨fun hi=>?_,fun hi=>Xfb hI hi⟩
 · have hs:=X5o c_1 (0:Int) (l:=a0) (i:=i.toNat) (by omega)
   have hk:=hI.3
   have c1:=X26 X3c (a0.take i.toNat)
   have c2:=X26 X3c (a0.drop (i.toNat+1))
   have c3:=X3c (a0.getD i.toNat (0:Int))
   have hmod:Int.tmod k 3=k % 3:=Int.tmod_eq_emod_of_nonneg (by omega)
   have no:X7C (a0.getD i.toNat (0:Int)) k=false→-1=X5l a0 a1:=fun ho=>Xhp (0:Int) hI hi ho
   have yes:X7C (a0.getD i.toNat (0:Int)) k=true→hdI c_1 X7C a0 a1 (k+c_1 (a0.getD i.toNat (0:Int))) (i+1):=fun ho=>Xd8 (0:Int) hI hi ho rfl
   generalize a0.getD i.toNat (0:Int)=x at*
   have hc:c_1 x=c_1 x:=rfl
   conv at hc=>rhs;unfold c_1
   simp only[X7C]at no yes
   simp (disch:=omega) only[w64,pMT]
   repeat' (with_reducible (first | (refine And.intro ?_ ?_) | intro _))
   all_goals (first | omega | (unfold hdM;omega) | skip)
   all_goals (try simp (disch:=first | omega | assumption) only[X4r,X3i,w64,Bool.not_eq_false]at*)
   all_goals (try simp (disch:=first | omega | assumption) only[X4r,X3i,w64,Bool.not_eq_false]at*)
   all_goals (first | omega | grind)
theorem X0K.eq:EqS X3K Try.f39 [3] [] [] (fun i x=>X0K.L x.1 x.2) (fun i x=>X0K.F x.1 x.2):=by intro i x;kernel_rfl
theorem X0K.ok:X0z Try.prog 39 X3K:=X2I X0K.eq Try.func39 rfl (by kernel_rfl) fun i x h hi hw=>X0K.pure x.1 x.2 h hw
def X0K.e:GE:=⟨39,X3K,⟨_,Try.func39,rfl,rfl⟩,X0K.ok⟩
end Go.Proofs.Ytakllifahpfmpaa.B
