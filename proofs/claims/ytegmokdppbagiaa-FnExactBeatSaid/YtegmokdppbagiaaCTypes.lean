/- Values of the program's types:how large,the same,marked. -/
import Derived.Test.YtegmokdppbagiaaCCover
set_option maxRecDepth 100000
set_option linter.unusedVariables false
set_option linter.unusedSimpArgs false
namespace Go.Proofs.Ytegmokdppbagiaa.B
open Go Go.Proofs.Ytegmokdppbagiaa.Bv
def XdU{α:Type}(n:α→Nat)(l:List α)(i:Nat):Nat:=((l.take i).map n).sum
theorem XeH{α:Type}(n:α→Nat)(l:List α):XdU n l 0=0:=by simp[XdU]
theorem Xe3{α:Type}(n:α→Nat)(l:List α)(d:α){i:Nat}(h:i<l.length):XdU n l (i+1)=XdU n l i+n (l.getD i d):=by
 unfold XdU;rw[X4u d h,List.map_append,List.sum_append];simp
theorem XfU{α:Type}(n:α→Nat)(l:List α)(i:Nat):XdU n l i≤XdU n l l.length:=by
 have h:l.take l.length=l.take i++l.drop i:=by rw[List.take_length,List.take_append_drop]
 unfold XdU;rw[h,List.map_append,List.sum_append];omega
def nL{α:Type}(n:α→Nat)(l:List α):Nat:=l.length+XdU n l l.length
theorem XdM{α:Type}(n:α→Nat){x:α}:∀{l:List α},x∈l→n x≤(l.map n).sum
 | y::l,h=>by
   rw[List.map_cons,List.sum_cons]
   rcases List.mem_cons.1 h with rfl | h
   · omega
   · have:=XdM n h;omega
theorem XgI{α:Type}(n:α→Nat){l:List α}{x:α}(h:x∈l):n x+1≤nL n l:=by
 have h1:=XdM n h
 have h2:0<l.length:=List.length_pos_of_mem h
 unfold nL XdU;rw[List.take_length];omega
def fSz(n:Nat)(left:Int):Int:=if left<n then -1 else left - n
theorem Xbx{n:Nat}{left:Int}(h:left<n):fSz n left= -1:=if_pos h
theorem Xc9{n:Nat}{left:Int}(h:¬left<n):fSz n left=left - n:=if_neg h
def szLI{α:Type}(n:α→Nat)(a:List α)(left0 left i:Int):Prop:=0≤i∧i≤a.length∧0≤left∧left0=left+a.length+XdU n a i.toNat
def szLM{α:Type}(a:List α)(left0 left i:Int):Nat:=(a.length - i).toNat
def cpI{α:Type}(d:α)(a:List α)(i:Int)(out:List α):Prop:=0≤i∧i≤a.length∧out=a.take i.toNat++List.replicate (a.length - i.toNat) d
def cpM{α:Type}(a:List α)(i:Int)(out:List α):Nat:=(a.length - i).toNat
theorem XfM{α:Type}{d:α}{a:List α}{i:Int}{out:List α}(h:cpI d a i out):out.length=a.length:=by
 obtain⟨h1,h2,h3⟩:=h
 rw[h3,List.length_append,List.length_take,List.length_replicate];omega
theorem XeA{α:Type}{d:α}{a:List α}{i:Int}{out:List α}(h:cpI d a i out)(hi:i<a.length):cpI d a (i+1) (out.set i.toNat (a.getD i.toNat d)):=by
 obtain⟨h1,h2,h3⟩:=h
 refine⟨by omega,by omega,?_⟩
 rw[tn1 h1,h3,X4u d (by omega:i.toNat<a.length)]
 have e:a.length - i.toNat=(a.length - (i.toNat+1))+1:=by omega
 have hl:(a.take i.toNat).length=i.toNat:=by rw[List.length_take];omega
 rw[e,List.replicate_succ,List.set_append_right _ _ (by omega),hl,Nat.sub_self,List.set_cons_zero,List.append_assoc]
 rfl
theorem XfB{α:Type}{d:α}{a:List α}{i:Int}{out:List α}(h:cpI d a i out)(hi:¬i<a.length):out=a:=by
 obtain⟨h1,h2,h3⟩:=h
 have e:i.toNat=a.length:=by omega
 rw[h3,e,List.take_length,Nat.sub_self];simp
def Xcb{α:Type}(a b:List α)(i:Int):Prop:=0≤i∧i≤a.length∧a.length=b.length∧a.take i.toNat=b.take i.toNat
def XdE{α:Type}(a b:List α)(i:Int):Nat:=(a.length - i).toNat
theorem Xaq{α:Type}{d:α}{a b:List α}{i:Int}(h:Xcb a b i)(hi:i<a.length)(he:a.getD i.toNat d=b.getD i.toNat d):Xcb a b (i+1):=by
 obtain⟨h1,h2,h3,h4⟩:=h
 refine⟨by omega,by omega,h3,?_⟩
 rw[tn1 h1,X4u d (by omega),X4u d (by omega),h4,he]
theorem XbK{α:Type}{a b:List α}{i:Int}(h:Xcb a b i)(hi:¬i<a.length):a=b:=by
 obtain⟨h1,h2,h3,h4⟩:=h
 have e:i.toNat=a.length:=by omega
 rw[e,List.take_length,h3,List.take_length]at h4
 exact h4
def cL{α:Type}(c:α→Int)(l:List α):Int:=(l.map c).sum
def mL{α:Type}(c:α→Int)(m:α→Int→α):List α→Int→List α
 | [],_=>[]
 | x::l,k=>m x k::mL c m l (k+c x)
def oL{α:Type}(c:α→Int)(o:α→Int→Bool):List α→Int→Bool
 | [],_=>true
 | x::l,k=>o x k&&oL c o l (k+c x)
def fHd(c:Int)(o:Bool)(k:Int):Int:=if o=true then k+c else -1
theorem X3Y{c k:Int}{o:Bool}(h0:0≤c)(h1:0≤k):fHd c o k<0↔o=false:=by
 unfold fHd;cases o<;>simp;omega
theorem X2Q{c k:Int}{o:Bool}(h:o=true):fHd c o k=k+c:=if_pos h
theorem X7d{α:Type}(c:α→Int)(x:α)(l:List α):cL c (x::l)=c x+cL c l:=by simp[cL]
theorem X9g{α:Type}(c:α→Int)(l r:List α):cL c (l++r)=cL c l+cL c r:=by simp[cL]
theorem X1L{α:Type}{c:α→Int}(h:∀x,0≤c x):∀l,0≤cL c l
 | []=>by simp[cL]
 | x::l=>by have:=X1L h l;have:=h x;rw[X7d];omega
theorem X4M{α:Type}(c:α→Int)(d:α){l:List α}{i:Nat}(h:i<l.length):cL c (l.take (i+1))=cL c (l.take i)+c (l.getD i d)∧cL c l=cL c (l.take i)+(c (l.getD i d)+cL c (l.drop (i+1))):=by
 constructor
 · rw[X4u d h,X9g];simp[cL]
 · conv=>lhs;rw[←List.take_append_drop i l,X9g,X5U d h,X7d]
theorem X9k{α:Type}{c:α→Int}(h:∀x,0≤c x∧c x≤64):∀l,cL c l≤64*l.length
 | []=>by simp[cL]
 | x::l=>by have:=X9k h l;have:=h x;rw[X7d,List.length_cons];omega
theorem X74{α:Type}(c:α→Int)(m:α→Int→α):∀l k,(mL c m l k).length=l.length
 | [],_=>rfl
 | x::l,k=>by simp[mL,X74 c m l]
theorem Xbh{α:Type}(c:α→Int)(m:α→Int→α):∀l r k,mL c m (l++r) k=mL c m l k++mL c m r (k+cL c l)
 | [],r,k=>by simp[mL,cL]
 | x::l,r,k=>by simp only[List.cons_append,mL,Xbh c m l r,X7d];rw[Int.add_assoc]
theorem Xb0{α:Type}{c:α→Int}{m:α→Int→α}{o:α→Int→Bool}(h:∀x k,o (m x k) k=true∧c (m x k)=c x):∀l k,oL c o (mL c m l k) k=true∧cL c (mL c m l k)=cL c l
 | [],k=>⟨rfl,rfl⟩
 | x::l,k=>by
   obtain⟨h1,h2⟩:=h x k
   obtain⟨h3,h4⟩:=Xb0 h l (k+c x)
   simp only[mL,oL,X7d,h1,h2,h3,h4,Bool.and_self,and_self]
structure mkI {α:Type} (c:α→Int) (m:α→Int→α) (a:List α) (k0 k i:Int) (l:List α):Prop where
 h1:0≤i
 h2:i≤a.length
 h3:k=k0+cL c (a.take i.toNat)
 h4:l=mL c m (a.take i.toNat) k0++a.drop i.toNat
def mkM{α:Type}(a:List α)(k0 k i:Int)(l:List α):Nat:=(a.length - i).toNat
theorem Xes{α:Type}{c:α→Int}{m:α→Int→α}{a:List α}{k0 k i:Int}{l:List α}(h:mkI c m a k0 k i l):l.length=a.length:=by
 obtain⟨h1,h2,h3,h4⟩:=h
 rw[h4,List.length_append,X74,List.length_take,List.length_drop];omega
theorem Xgf{α:Type}{c:α→Int}{m:α→Int→α}{a:List α}{k0 k i:Int}{l:List α}{d:α}(h:mkI c m a k0 k i l)(hi:i<a.length):l.getD i.toNat d=a.getD i.toNat d:=by
 obtain⟨h1,h2,h3,h4⟩:=h
 have hl:(mL c m (a.take i.toNat) k0).length=i.toNat:=by rw[X74,List.length_take];omega
 rw[h4,List.getD_eq_getElem?_getD,List.getElem?_append_right (by omega),hl,Nat.sub_self,X5U d (by omega)]
 rfl
theorem XbX{α:Type}{c:α→Int}{m:α→Int→α}{a:List α}{k0 k i:Int}{l:List α}{d x':α}{k':Int}(h:mkI c m a k0 k i l)(hi:i<a.length)(hx:x'=m (a.getD i.toNat d) k)(hk:k'=k+c (a.getD i.toNat d)):mkI c m a k0 k' (i+1) (l.set i.toNat x'):=by
 obtain⟨h1,h2,h3,h4⟩:=h
 have hi':i.toNat<a.length:=by omega
 have hl:(mL c m (a.take i.toNat) k0).length=i.toNat:=by rw[X74,List.length_take];omega
 refine⟨by omega,by omega,?_,?_⟩
 · rw[tn1 h1,(X4M c d hi').1,hk,h3];omega
 · rw[tn1 h1,h4,X4u d hi',Xbh,List.set_append_right _ _ (by omega),hl,Nat.sub_self,X5U d hi',List.set_cons_zero,List.append_assoc,hx,h3]
   rfl
theorem Xeq{α:Type}{c:α→Int}{m:α→Int→α}{a:List α}{k0 k i:Int}{l:List α}(h:mkI c m a k0 k i l)(hi:¬i<a.length):k=k0+cL c a∧l=mL c m a k0:=by
 obtain⟨h1,h2,h3,h4⟩:=h
 have e:i.toNat=a.length:=by omega
 rw[e,List.take_length]at h3 h4
 exact⟨h3,by rw[h4,List.drop_length,List.append_nil]⟩
structure hdI {α:Type} (c:α→Int) (o:α→Int→Bool) (a:List α) (k0 k i:Int):Prop where
 h1:0≤i
 h2:i≤a.length
 h3:k=k0+cL c (a.take i.toNat)
 h4:oL c o a k0=oL c o (a.drop i.toNat) k
def hdM{α:Type}(a:List α)(k0 k i:Int):Nat:=(a.length - i).toNat
theorem Xca{α:Type}{c:α→Int}{o:α→Int→Bool}{a:List α}{k0 k i k':Int}(d:α)(h:hdI c o a k0 k i)(hi:i<a.length)(ho:o (a.getD i.toNat d) k=true)(hk:k'=k+c (a.getD i.toNat d)):hdI c o a k0 k' (i+1):=by
 obtain⟨h1,h2,h3,h4⟩:=h
 have hi':i.toNat<a.length:=by omega
 refine⟨by omega,by omega,?_,?_⟩
 · rw[tn1 h1,(X4M c d hi').1,hk,h3];omega
 · rw[tn1 h1,h4,X5U d hi'];simp only[oL,ho,Bool.true_and,hk]
theorem Xgx{α:Type}{c:α→Int}{o:α→Int→Bool}{a:List α}{k0 k i:Int}(d:α)(h:hdI c o a k0 k i)(hi:i<a.length)(ho:o (a.getD i.toNat d) k=false):-1=fHd (cL c a) (oL c o a k0) k0:=by
 obtain⟨h1,h2,h3,h4⟩:=h
 rw[h4,X5U d (by omega)]
 show -1=fHd _ (o (a.getD i.toNat d) k&&oL c o _ _) _
 rw[ho,Bool.false_and];rfl
theorem Xek{α:Type}{c:α→Int}{o:α→Int→Bool}{a:List α}{k0 k i:Int}(h:hdI c o a k0 k i)(hi:¬i<a.length):k=fHd (cL c a) (oL c o a k0) k0:=by
 obtain⟨h1,h2,h3,h4⟩:=h
 have e:i.toNat=a.length:=by omega
 rw[e,List.take_length]at h3
 rw[e,List.drop_length]at h4
 rw[h4]
 show k=fHd (cL c a) true k0
 rw[X2Q rfl,h3]
theorem X1q{α:Type}{l:List α}{i:Nat}{v d:α}(h:i<l.length):List.getD (List.set l i v) i d=v:=by
 rw[List.getD_eq_getElem?_getD,List.getElem?_set_self h];rfl
def XfZ(n:Nat)(out:List UInt8):List UInt8:=if n=0 then out else XfZ (n / 10) (UInt8.ofNat (48+n % 10)::out)
termination_by n
decreasing_by omega
def pMT(k:Int):Prop:=k≤4611686018427387904
def fMT(k:Int):List UInt8:=if k≤0 then [109,48] else 109::XfZ k.toNat []
def mtI(k0 k:Int)(out:List UInt8):Prop:=0≤k∧0<k0∧out.length+k≤k0∧k0≤4611686018427387904∧XfZ k.toNat out=XfZ k0.toNat []
def mtM(k0 k:Int)(out:List UInt8):Nat:=k.toNat
def X3g:Con:={A:=(.int .i64),shA:=[.one],R:=.str,shR:=[(false,1)],pre:=fun _ a=>(pMT a),f:=some fun _ a=>((fMT a),((),()))}
def X0o.F(a0:Int):Prop:=(X03 (decide (a0≤(0:Int))) (Eq ([109,48],((),())) ((fMT a0),((),()))) (eS [] []∧((mtI a0 a0 [])∧∀(y1:U4q),(mtI a0 y1.1 y1.2)→(X03 (decide (y1.1>(0:Int))) ((10:Int)≠0∧(List.length (List.map (fun n=>UInt8.ofNat (Int.toNat n)) [(IntKind.wrap .u8 (wI ((48:Int)+(Int.tmod y1.1 (10:Int)))))])+List.length y1.2≤9223372036854775807∧((10:Int)≠0∧(eS [] []∧(mtI a0 (wI (Int.tdiv y1.1 (10:Int))) ((List.map (fun n=>UInt8.ofNat (Int.toNat n)) [(IntKind.wrap .u8 (wI ((48:Int)+(Int.tmod y1.1 (10:Int)))))])++y1.2))∧(mtM a0 (wI (Int.tdiv y1.1 (10:Int))) ((List.map (fun n=>UInt8.ofNat (Int.toNat n)) [(IntKind.wrap .u8 (wI ((48:Int)+(Int.tmod y1.1 (10:Int)))))])++y1.2))<(mtM a0 y1.1 y1.2))))) (List.length [109]+List.length y1.2≤9223372036854775807∧(Eq (([109]++y1.2),((),())) ((fMT a0),((),()))))))))
def X0o.L(a0:Int):Nat→Option X0l:=fun p=>Go.Proofs.Ytegmokdppbagiaa.Bv.look p [(60,{kp:={hold:=[],slots:=[0,3],boxes:=[],rows:=[]},T:=T5q,I:=fun st y=>mtI a0 y.1 y.2,μ:=fun st y=>mtM a0 y.1 y.2})]
theorem X0o.pure(a0:Int)(h:(pMT a0))(hw:Wf X3g.A a0):X0o.F a0:=by
 delta X0o.F wI eS
 simp only[Bs,B0,B1,Prod.mk.injEq,X04]
 have hp:a0≤4611686018427387904:=h
 refine⟨fun h1=>by simp[fMT,h1],fun h1=>⟨⟨by omega,by omega,by simp,hp,rfl⟩,?_⟩⟩
 rintro⟨k,out⟩ ⟨h2,h3,h4,h5,h6⟩
 simp only at h2 h3 h4 h5 h6 ⊢
 refine⟨fun hk=>?_,fun hk=>?_⟩
 · have e1:Int.tmod k 10=k % 10:=Int.tmod_eq_emod_of_nonneg h2
   have e2:Int.tdiv k 10=k / 10:=Int.tdiv_eq_ediv_of_nonneg h2
   rw[e1,e2,w64 (x:=48+k % 10) (by omega) (by omega),wu8 (by omega) (by omega),w64 (x:=k / 10) (by omega) (by omega)]
   rw[XfZ,if_neg (by omega)]at h6
   refine⟨by omega,by simp;omega,by omega,⟨by omega,h3,by simp;omega,h5,?_⟩,by unfold mtM;omega⟩
   have e3:(k / 10).toNat=k.toNat / 10:=by omega
   have e4:(48+k % 10).toNat=48+k.toNat % 10:=by omega
   rw[←h6,e3]
   show XfZ _ (UInt8.ofNat (48+k % 10).toNat::out)=_
   rw[e4]
 · have e:k=0:=by omega
   subst e
   rw[show Int.toNat 0=0 from rfl,XfZ,if_pos rfl]at h6
   refine⟨by omega,?_⟩
   unfold fMT
   rw[if_neg h1,←h6]
   rfl
theorem X0o.eq:EqS X3g Try.f61 [9] [] [] (fun i x=>X0o.L x) (fun i x=>X0o.F x):=by intro i x;kernel_rfl
theorem X0o.ok:X0I Try.prog 61 X3g:=X35 X0o.eq Try.func61 rfl (by kernel_rfl) fun i x h hi hw=>X0o.pure x h hw
def X0o.e:GE:=⟨61,X3g,⟨_,Try.func61,rfl,rfl⟩,X0o.ok⟩
def c_1(x:Int):Int:=1
def X6F(x k:Int):Int:=k
def X6Q(x k:Int):Bool:=decide (x=k)
theorem XfA:∀(x k:Int),X6Q (X6F x k) k=true∧c_1 (X6F x k)=c_1 x:=fun x k=>⟨by simp[X6Q,X6F],rfl⟩
theorem X2N:∀x:Int,0≤c_1 x:=fun x=>by simp[c_1]
def X69(x:List Int)(left:Int):Prop:=WfD T6q x∧0≤left∧left≤1048576
def X4J(x:List Int)(left:Int):Int:=fSz (List.length x) left
def X4d:Con:={A:=(.pair T6q (.int .i64)),shA:=[.one,.one],R:=(.int .i64),shR:=[(false,1)],pre:=fun _ a=>(X69 a.1 a.2),f:=some fun _ a=>((X4J a.1 a.2),((),()))}
def X1C.F(a0:(List Int))(a1:Int):Prop:=(X03 (decide ((wI (a1 - (ln a0)))<(0:Int))) (Eq ((-1),((),())) ((X4J a0 a1),((),()))) (Eq ((wI (a1 - (ln a0))),((),())) ((X4J a0 a1),((),()))))
theorem X1C.pure(a0:(List Int))(a1:Int)(h:(X69 a0 a1))(hw:Wf X4d.A (a0,a1)):X1C.F a0 a1:=by
 delta X1C.F ln wI
 obtain⟨hwf,p1,p2⟩:=h
 have hw1:a0.length≤9223372036854775807:=hwf.1
 simp only[Bs,B0,B1,Prod.mk.injEq,X04,X4J]
 rw[w64 (x:=a1 - (a0.length:Int)) (by omega) (by omega)]
 exact⟨fun h1=>(Xbx (by omega)).symm,fun h1=>(Xc9 (by omega)).symm⟩
theorem X1C.eq:EqS X4d Try.f46 [3] [] [] noL (fun i x=>X1C.F x.1 x.2):=by intro i x;kernel_rfl
theorem X1C.ok:X0I Try.prog 46 X4d:=X35 X1C.eq Try.func46 rfl (by kernel_rfl) fun i x h hi hw=>X1C.pure x.1 x.2 h hw
def X1C.e:GE:=⟨46,X4d,⟨_,Try.func46,rfl,rfl⟩,X1C.ok⟩
def X6g(x:List Int):Prop:=List.length x≤1048576
def X5q(x:List Int):List Int:=x
def X46:Con:={A:=T6q,shA:=[.one],R:=T6q,shR:=[(false,1)],fresh:=[(0,3)],pre:=fun _ a=>(X6g a),f:=some fun _ a=>((X5q a),((),()))}
def X18.F(a0:(List Int)):Prop:=(0≤(ln a0)∧((ln a0)≤(ln a0)∧((ln a0)≤9223372036854775807∧(((8:Nat):Int)*(ln a0)≤140737488355328∧(eS [(0,.val false [.lst (.int .i64) a0 none]),(3,.val false [.own (.int .i64) 1000387])] [(0,.val false [.lst (.int .i64) a0 none]),(3,.val false [.own (.int .i64) 1000387])]∧((cpI (0:Int) a0 0 (List.replicate (tN (ln a0)) (0:Int)))∧∀(y1:(Int×(List Int))),(cpI (0:Int) a0 y1.1 y1.2)→(X03 (decide (y1.1<(ln a0))) (0≤y1.1∧(y1.1<(ln a0)∧(0≤y1.1∧(y1.1<(ln y1.2)∧(eS [(0,.val false [.lst (.int .i64) a0 none]),(3,.val false [.own (.int .i64) 1000387])] [(0,.val false [.lst (.int .i64) a0 none]),(3,.val false [.own (.int .i64) 1000387])]∧(cpI (0:Int) a0 (wI (y1.1+(1:Int))) (List.set y1.2 (tN y1.1) (List.getD a0 (tN y1.1) 0)))∧(cpM a0 (wI (y1.1+(1:Int))) (List.set y1.2 (tN y1.1) (List.getD a0 (tN y1.1) 0)))<(cpM a0 y1.1 y1.2)))))) (Eq (y1.2,((),())) ((X5q a0),((),()))))))))))
def X18.L(a0:(List Int)):Nat→Option X0l:=fun p=>Go.Proofs.Ytegmokdppbagiaa.Bv.look p [(58,{kp:={hold:=[0,3],slots:=[4],boxes:=[],rows:=[{bx:=false,s:=3,i:=0,k:=1000387,e:=3,hot:=true}]},T:=(.pair (.int .i64) T6q),I:=fun st y=>cpI (0:Int) a0 y.1 y.2,μ:=fun st y=>cpM a0 y.1 y.2})]
theorem X18.pure(a0:(List Int))(h:(X6g a0))(hw:Wf X46.A a0):X18.F a0:=by
 delta X18.F ln tN wI eS
 have hb:a0.length≤1048576:=by have h1:List.length a0≤1048576:=h;exact h1
 simp only[Bs,B0,B1,Prod.mk.injEq,X04,X5q]
 refine⟨by omega,by omega,by omega,by omega,⟨by omega,by omega,by simp⟩,?_⟩
 rintro⟨i,out⟩ hI
 simp only at hI ⊢
 refine⟨fun hi=>?_,fun hi=>XfB hI hi⟩
 have hl:=XfM hI
 have h3:=hI.2.1
 have h2:=hI.1
 rw[w64 (x:=i+1) (by omega) (by omega)]
 simp only[hl]
 exact⟨h2,hi,h2,hi,XeA hI hi,by unfold cpM;omega⟩
theorem X18.eq:EqS X46 Try.f51 [43] [] [] (fun i x=>X18.L x) (fun i x=>X18.F x):=by intro i x;kernel_rfl
theorem X18.ok:X0I Try.prog 51 X46:=X35 X18.eq Try.func51 rfl (by kernel_rfl) fun i x h hi hw=>X18.pure x h hw
def X18.e:GE:=⟨51,X46,⟨_,Try.func51,rfl,rfl⟩,X18.ok⟩
def X32(a b:List Int):Bool:=decide (a=b)
def X4h:Con:={A:=(.pair T6q T6q),shA:=[.one,.one],R:=.bool,shR:=[(false,1)],pre:=fun _ _=>True,f:=some fun _ a=>((X32 a.1 a.2),((),()))}
def X1c.F(a0:(List Int))(a1:(List Int)):Prop:=(X03 ((ln a0)!=(ln a1)) (Eq (false,((),())) ((X32 a0 a1),((),()))) (eS [(0,.val false [.lst (.int .i64) a0 none]),(1,.val false [.lst (.int .i64) a1 none])] [(0,.val false [.lst (.int .i64) a0 none]),(1,.val false [.lst (.int .i64) a1 none])]∧((Xcb a0 a1 0)∧∀(y1:Int),(Xcb a0 a1 y1)→(X03 (decide (y1<(ln a0))) (0≤y1∧(y1<(ln a0)∧(0≤y1∧(y1<(ln a1)∧(X03 ((List.getD a0 (tN y1) 0)!=(List.getD a1 (tN y1) 0)) (Eq (false,((),())) ((X32 a0 a1),((),()))) (eS [(0,.val false [.lst (.int .i64) a0 none]),(1,.val false [.lst (.int .i64) a1 none])] [(0,.val false [.lst (.int .i64) a0 none]),(1,.val false [.lst (.int .i64) a1 none])]∧(Xcb a0 a1 (wI (y1+(1:Int))))∧(XdE a0 a1 (wI (y1+(1:Int))))<(XdE a0 a1 y1))))))) (Eq (true,((),())) ((X32 a0 a1),((),())))))))
def X1c.L(a0:(List Int))(a1:(List Int)):Nat→Option X0l:=fun p=>Go.Proofs.Ytegmokdppbagiaa.Bv.look p [(58,{kp:={hold:=[0,1],slots:=[5],boxes:=[],rows:=[]},T:=(.int .i64),I:=fun st y=>Xcb a0 a1 y,μ:=fun st y=>XdE a0 a1 y})]
theorem X1c.pure(a0:(List Int))(a1:(List Int))(h:True)(hw:Wf X4h.A (a0,a1)):X1c.F a0 a1:=by
 delta X1c.F ln tN wI eS
 have hw1:a0.length≤9223372036854775807:=hw.1.1
 simp only[Bs,B0,B1,Prod.mk.injEq,X04]
 refine⟨fun h1=>?_,fun h1=>?_⟩
 · have:a0≠a1:=fun e=>by subst e;simp at h1
   simp[X32,this]
 have hl:a0.length=a1.length:=by omega
 refine⟨⟨by omega,by omega,hl,by simp⟩,?_⟩
 rintro i hI
 have h2:=hI.1
 have h3:=hI.2.1
 refine⟨fun hi=>⟨h2,hi,h2,by omega,fun hne=>?_,fun he=>?_⟩,fun hi=>?_⟩
 · have:a0≠a1:=fun e=>by subst e;simp at hne
   simp[X32,this]
 · have hg:a0.getD i.toNat (0:Int)=a1.getD i.toNat (0:Int):=by simpa using he
   rw[w64 (x:=i+1) (by omega) (by omega)]
   exact⟨Xaq hI hi hg,by unfold XdE;omega⟩
 · have h6:=XbK hI hi
   simp[X32,h6]
theorem X1c.eq:EqS X4h Try.f57 [4] [] [] (fun i x=>X1c.L x.1 x.2) (fun i x=>X1c.F x.1 x.2):=by intro i x;kernel_rfl
theorem X1c.ok:X0I Try.prog 57 X4h:=X35 X1c.eq Try.func57 rfl (by kernel_rfl) fun i x h hi hw=>X1c.pure x.1 x.2 h hw
def X1c.e:GE:=⟨57,X4h,⟨_,Try.func57,rfl,rfl⟩,X1c.ok⟩
def X2G(l:List Int)(k:Int):Prop:=0≤k∧k+cL c_1 l≤4611686018427387904
def X3l(l:List Int)(k:Int):Int×List Int:=(k+cL c_1 l,mL c_1 X6F l k)
def X33:Con:={A:=(.pair T6q (.int .i64)),shA:=[.one,.one],backA:=[(0,3)],B:=T6q,R:=(.int .i64),shR:=[(false,1)],pre:=fun _ a=>(X2G a.1 a.2),f:=some fun _ a=>((X3l a.1 a.2).1,((),(X3l a.1 a.2).2))}
def X0D.F(a0:(List Int))(a1:Int):Prop:=(eS [(0,.val false [.own (.int .i64) 2])] [(0,.val false [.own (.int .i64) 2])]∧((mkI c_1 X6F a0 a1 a1 0 a0)∧∀(y1:(Int×(Int×(List Int)))),(mkI c_1 X6F a0 a1 y1.1 y1.2.1 y1.2.2)→(X03 (decide (y1.2.1<(ln y1.2.2))) (0≤y1.2.1∧(y1.2.1<(ln y1.2.2)∧(eS [(0,.val false [.own (.int .i64) 2])] [(0,.val false [.own (.int .i64) 2])]∧(mkI c_1 X6F a0 a1 (wI (y1.1+(1:Int))) (wI (y1.2.1+(1:Int))) (List.set y1.2.2 (tN y1.2.1) y1.1))∧(mkM a0 a1 (wI (y1.1+(1:Int))) (wI (y1.2.1+(1:Int))) (List.set y1.2.2 (tN y1.2.1) y1.1))<(mkM a0 a1 y1.1 y1.2.1 y1.2.2)))) (Eq (y1.1,((),y1.2.2)) ((X3l a0 a1).1,((),(X3l a0 a1).2))))))
def X0D.L(a0:(List Int))(a1:Int):Nat→Option X0l:=fun p=>Go.Proofs.Ytegmokdppbagiaa.Bv.look p [(26,{kp:={hold:=[0],slots:=[1,5],boxes:=[],rows:=[{bx:=false,s:=0,i:=0,k:=2,e:=3,hot:=true}]},T:=(.pair (.int .i64) (.pair (.int .i64) T6q)),I:=fun st y=>mkI c_1 X6F a0 a1 y.1 y.2.1 y.2.2,μ:=fun st y=>mkM a0 a1 y.1 y.2.1 y.2.2})]
theorem X0D.pure(a0:(List Int))(a1:Int)(h:(X2G a0 a1))(hw:Wf X33.A (a0,a1)):X0D.F a0 a1:=by
 delta X0D.F ln tN wI eS
 obtain⟨p1,p2⟩:=h
 have hw1:a0.length≤9223372036854775807:=hw.1.1
 simp only[Bs,B0,B1,Prod.mk.injEq,X04]
 refine⟨⟨by omega,by omega,by simp[cL],by simp[mL]⟩,?_⟩
 rintro⟨k,i,l⟩ hI
 simp only at hI ⊢
 have hl:=Xes hI
 have h2:=hI.1
 have h3:=hI.2
 refine⟨fun hi0=>?_,fun hi0=>?_⟩
 · have hi:i<(a0.length:Int):=by omega
   have hi':i.toNat<l.length:=by omega
   have hg:=Xgf (d:=(0:Int)) hI hi
   have hs:=X4M c_1 (0:Int) (l:=a0) (i:=i.toNat) (by omega)
   have hk:=hI.3
   have c1:=X1L X2N (a0.take i.toNat)
   have c2:=X1L X2N (a0.drop (i.toNat+1))
   have c3:=X2N (a0.getD i.toNat (0:Int))
   have hmod:Int.tmod k 3=k % 3:=Int.tmod_eq_emod_of_nonneg (by omega)
   have hc:c_1 (a0.getD i.toNat (0:Int))=c_1 (a0.getD i.toNat (0:Int)):=rfl
   conv at hc=>rhs;unfold c_1
   try simp only[hg,X1q hi',List.set_set,List.length_set]
   try simp (disch:=first | omega | simp_all) only[X1q,List.set_set,List.length_set,hg,w64,pMT]
   repeat' (with_reducible (first | (refine And.intro ?_ ?_) | intro _))
   all_goals (try simp+zetaDelta (disch:=first | omega | simp_all) only[hg,X1q,List.set_set,List.length_set,w64,pMT])
   all_goals (first | omega | exact XbX (d:=(0:Int)) hI hi (by simp[X6F,hmod]) (by omega) | (unfold mkM;omega) | skip)
 · obtain⟨e1,e2⟩:=Xeq hI (by omega)
   exact⟨e1,e2⟩
theorem X0D.eq:EqS X33 Try.f60 [3] [] [] (fun i x=>X0D.L x.1 x.2) (fun i x=>X0D.F x.1 x.2):=by intro i x;kernel_rfl
theorem X0D.ok:X0I Try.prog 60 X33:=X35 X0D.eq Try.func60 rfl (by kernel_rfl) fun i x h hi hw=>X0D.pure x.1 x.2 h hw
def X0D.e:GE:=⟨60,X33,⟨_,Try.func60,rfl,rfl⟩,X0D.ok⟩
def X4T(l:List Int)(k:Int):Int:=fHd (cL c_1 l) (oL c_1 X6Q l k) k
def X3j:Con:={A:=(.pair T6q (.int .i64)),shA:=[.one,.one],R:=(.int .i64),shR:=[(false,1)],pre:=fun _ a=>(X2G a.1 a.2),f:=some fun _ a=>((X4T a.1 a.2),((),()))}
def X0B.F(a0:(List Int))(a1:Int):Prop:=(eS [(0,.val false [.lst (.int .i64) a0 none])] [(0,.val false [.lst (.int .i64) a0 none])]∧((hdI c_1 X6Q a0 a1 a1 0)∧∀(y1:(Int×Int)),(hdI c_1 X6Q a0 a1 y1.1 y1.2)→(X03 (decide (y1.2<(ln a0))) (0≤y1.2∧(y1.2<(ln a0)∧(X03 ((List.getD a0 (tN y1.2) 0)!=y1.1) (Eq ((-1),((),())) ((X4T a0 a1),((),()))) (eS [(0,.val false [.lst (.int .i64) a0 none])] [(0,.val false [.lst (.int .i64) a0 none])]∧(hdI c_1 X6Q a0 a1 (wI (y1.1+(1:Int))) (wI (y1.2+(1:Int))))∧(hdM a0 a1 (wI (y1.1+(1:Int))) (wI (y1.2+(1:Int))))<(hdM a0 a1 y1.1 y1.2))))) (Eq (y1.1,((),())) ((X4T a0 a1),((),()))))))
def X0B.L(a0:(List Int))(a1:Int):Nat→Option X0l:=fun p=>Go.Proofs.Ytegmokdppbagiaa.Bv.look p [(26,{kp:={hold:=[0],slots:=[1,5],boxes:=[],rows:=[]},T:=T9q,I:=fun st y=>hdI c_1 X6Q a0 a1 y.1 y.2,μ:=fun st y=>hdM a0 a1 y.1 y.2})]
theorem X0B.pure(a0:(List Int))(a1:Int)(h:(X2G a0 a1))(hw:Wf X3j.A (a0,a1)):X0B.F a0 a1:=by
 delta X0B.F ln tN wI eS
 obtain⟨p1,p2⟩:=h
 have hw1:a0.length≤9223372036854775807:=hw.1.1
 simp only[Bs,B0,B1,Prod.mk.injEq,X04]
 refine⟨⟨by omega,by omega,by simp[cL],by simp⟩,?_⟩
 rintro⟨k,i⟩ hI
 simp only at hI ⊢
 have h2:=hI.1
 have h3:=hI.2
 refine⟨fun hi=>?_,fun hi=>Xek hI hi⟩
 · have hs:=X4M c_1 (0:Int) (l:=a0) (i:=i.toNat) (by omega)
   have hk:=hI.3
   have c1:=X1L X2N (a0.take i.toNat)
   have c2:=X1L X2N (a0.drop (i.toNat+1))
   have c3:=X2N (a0.getD i.toNat (0:Int))
   have hmod:Int.tmod k 3=k % 3:=Int.tmod_eq_emod_of_nonneg (by omega)
   have no:X6Q (a0.getD i.toNat (0:Int)) k=false→-1=X4T a0 a1:=fun ho=>Xgx (0:Int) hI hi ho
   have yes:X6Q (a0.getD i.toNat (0:Int)) k=true→hdI c_1 X6Q a0 a1 (k+c_1 (a0.getD i.toNat (0:Int))) (i+1):=fun ho=>Xca (0:Int) hI hi ho rfl
   generalize a0.getD i.toNat (0:Int)=x at*
   have hc:c_1 x=c_1 x:=rfl
   conv at hc=>rhs;unfold c_1
   simp only[X6Q]at no yes
   simp (disch:=omega) only[w64,pMT]
   repeat' (with_reducible (first | (refine And.intro ?_ ?_) | intro _))
   all_goals (first | omega | (unfold hdM;omega) | skip)
   all_goals (try simp (disch:=first | omega | assumption) only[X3Y,X2Q,w64,Bool.not_eq_false]at*)
   all_goals (try simp (disch:=first | omega | assumption) only[X3Y,X2Q,w64,Bool.not_eq_false]at*)
   all_goals (first | omega | grind)
theorem X0B.eq:EqS X3j Try.f63 [3] [] [] (fun i x=>X0B.L x.1 x.2) (fun i x=>X0B.F x.1 x.2):=by intro i x;kernel_rfl
theorem X0B.ok:X0I Try.prog 63 X3j:=X35 X0B.eq Try.func63 rfl (by kernel_rfl) fun i x h hi hw=>X0B.pure x.1 x.2 h hw
def X0B.e:GE:=⟨63,X3j,⟨_,Try.func63,rfl,rfl⟩,X0B.ok⟩
end Go.Proofs.Ytegmokdppbagiaa.B
