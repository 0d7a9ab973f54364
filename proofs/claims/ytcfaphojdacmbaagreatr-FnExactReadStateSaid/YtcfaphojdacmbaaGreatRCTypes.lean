/- Values of the program's types:how large,the same,marked. -/
import Derived.Test.YtcfaphojdacmbaaGreatRCCover
set_option maxRecDepth 100000
set_option linter.unusedVariables false
set_option linter.unusedSimpArgs false
namespace Go.Proofs.YtcfaphojdacmbaaGreatR.B
open Go Go.Proofs.YtcfaphojdacmbaaGreatR.Bv
def sumT{α:Type}(n:α→Nat)(l:List α)(i:Nat):Nat:=((l.take i).map n).sum
def szLI{α:Type}(n:α→Nat)(a:List α)(left0 left i:Int):Prop:=0≤i∧i≤a.length∧0≤left∧left0=left+a.length+sumT n a i.toNat
def szLM{α:Type}(a:List α)(left0 left i:Int):Nat:=(a.length - i).toNat
def cpI{α:Type}(d:α)(a:List α)(i:Int)(out:List α):Prop:=0≤i∧i≤a.length∧out=a.take i.toNat++List.replicate (a.length - i.toNat) d
def cpM{α:Type}(a:List α)(i:Int)(out:List α):Nat:=(a.length - i).toNat
def XeQ{α:Type}(a b:List α)(i:Int):Prop:=0≤i∧i≤a.length∧a.length=b.length∧a.take i.toNat=b.take i.toNat
def XgD{α:Type}(a b:List α)(i:Int):Nat:=(a.length - i).toNat
theorem Xcz{α:Type}{d:α}{a b:List α}{i:Int}(h:XeQ a b i)(hi:i<a.length)(he:a.getD i.toNat d=b.getD i.toNat d):XeQ a b (i+1):=by
 obtain⟨h1,h2,h3,h4⟩:=h
 refine⟨by omega,by omega,h3,?_⟩
 rw[tn1 h1,X0P d (by omega),X0P d (by omega),h4,he]
theorem Xf8{α:Type}{a b:List α}{i:Int}(h:XeQ a b i)(hi:¬i<a.length):a=b:=by
 obtain⟨h1,h2,h3,h4⟩:=h
 have e:i.toNat=a.length:=by omega
 rw[e,List.take_length,h3,List.take_length]at h4
 exact h4
def cL{α:Type}(c:α→Int)(l:List α):Int:=(l.map c).sum
def mL{α:Type}(c:α→Int)(m:α→Int→α):List α→Int→List α
 | [],_=>[]
 | x::l,k=>m x k::mL c m l (k+c x)
def oL{α:Type}(c:α→Int)(o:α→Int→Bool):List α→Int→Bool
 | [],_=>true
 | x::l,k=>o x k&&oL c o l (k+c x)
def fHd(c:Int)(o:Bool)(k:Int):Int:=if o=true then k+c else -1
theorem X42{c k:Int}{o:Bool}(h0:0≤c)(h1:0≤k):fHd c o k<0↔o=false:=by
 unfold fHd;cases o<;>simp;omega
theorem X3I{c k:Int}{o:Bool}(h:o=true):fHd c o k=k+c:=if_pos h
theorem Xtf{α:Type}(c:α→Int):cL c []=0:=rfl
theorem X3Z{α:Type}(c:α→Int)(x:α)(l:List α):cL c (x::l)=c x+cL c l:=by simp[cL]
theorem X9Y{α:Type}(c:α→Int)(l r:List α):cL c (l++r)=cL c l+cL c r:=by simp[cL]
theorem X2z{α:Type}{c:α→Int}(h:∀x,0≤c x):∀l,0≤cL c l
 | []=>by simp[cL]
 | x::l=>by have:=X2z h l;have:=h x;rw[X3Z];omega
theorem X4a{α:Type}(c:α→Int)(d:α){l:List α}{i:Nat}(h:i<l.length):cL c (l.take (i+1))=cL c (l.take i)+c (l.getD i d)∧cL c l=cL c (l.take i)+(c (l.getD i d)+cL c (l.drop (i+1))):=by
 constructor
 · rw[X0P d h,X9Y];simp[cL]
 · conv=>lhs;rw[←List.take_append_drop i l,X9Y,X3h d h,X3Z]
theorem Xcc{α:Type}(c:α→Int)(m:α→Int→α):∀l k,(mL c m l k).length=l.length
 | [],_=>rfl
 | x::l,k=>by simp[mL,Xcc c m l]
theorem XiT{α:Type}(c:α→Int)(m:α→Int→α):∀l r k,mL c m (l++r) k=mL c m l k++mL c m r (k+cL c l)
 | [],r,k=>by simp[mL,cL]
 | x::l,r,k=>by simp only[List.cons_append,mL,XiT c m l r,X3Z];rw[Int.add_assoc]
theorem Xfb{α:Type}{c:α→Int}{m:α→Int→α}{o:α→Int→Bool}(h:∀x k,o (m x k) k=true∧c (m x k)=c x):∀l k,oL c o (mL c m l k) k=true∧cL c (mL c m l k)=cL c l
 | [],k=>⟨rfl,rfl⟩
 | x::l,k=>by
   obtain⟨h1,h2⟩:=h x k
   obtain⟨h3,h4⟩:=Xfb h l (k+c x)
   simp only[mL,oL,X3Z,h1,h2,h3,h4,Bool.and_self,and_self]
structure mkI {α:Type} (c:α→Int) (m:α→Int→α) (a:List α) (k0 k i:Int) (l:List α):Prop where
 h1:0≤i
 h2:i≤a.length
 h3:k=k0+cL c (a.take i.toNat)
 h4:l=mL c m (a.take i.toNat) k0++a.drop i.toNat
def mkM{α:Type}(a:List α)(k0 k i:Int)(l:List α):Nat:=(a.length - i).toNat
theorem XiD{α:Type}{c:α→Int}{m:α→Int→α}{a:List α}{k0 k i:Int}{l:List α}(h:mkI c m a k0 k i l):l.length=a.length:=by
 obtain⟨h1,h2,h3,h4⟩:=h
 rw[h4,List.length_append,Xcc,List.length_take,List.length_drop];omega
theorem Xmy{α:Type}{c:α→Int}{m:α→Int→α}{a:List α}{k0 k i:Int}{l:List α}{d:α}(h:mkI c m a k0 k i l)(hi:i<a.length):l.getD i.toNat d=a.getD i.toNat d:=by
 obtain⟨h1,h2,h3,h4⟩:=h
 have hl:(mL c m (a.take i.toNat) k0).length=i.toNat:=by rw[Xcc,List.length_take];omega
 rw[h4,List.getD_eq_getElem?_getD,List.getElem?_append_right (by omega),hl,Nat.sub_self,X3h d (by omega)]
 rfl
theorem XfE{α:Type}{c:α→Int}{m:α→Int→α}{a:List α}{k0 k i:Int}{l:List α}{d x':α}{k':Int}(h:mkI c m a k0 k i l)(hi:i<a.length)(hx:x'=m (a.getD i.toNat d) k)(hk:k'=k+c (a.getD i.toNat d)):mkI c m a k0 k' (i+1) (l.set i.toNat x'):=by
 obtain⟨h1,h2,h3,h4⟩:=h
 have hi':i.toNat<a.length:=by omega
 have hl:(mL c m (a.take i.toNat) k0).length=i.toNat:=by rw[Xcc,List.length_take];omega
 refine⟨by omega,by omega,?_,?_⟩
 · rw[tn1 h1,(X4a c d hi').1,hk,h3];omega
 · rw[tn1 h1,h4,X0P d hi',XiT,List.set_append_right _ _ (by omega),hl,Nat.sub_self,X3h d hi',List.set_cons_zero,List.append_assoc,hx,h3]
   rfl
theorem Xi5{α:Type}{c:α→Int}{m:α→Int→α}{a:List α}{k0 k i:Int}{l:List α}(h:mkI c m a k0 k i l)(hi:¬i<a.length):k=k0+cL c a∧l=mL c m a k0:=by
 obtain⟨h1,h2,h3,h4⟩:=h
 have e:i.toNat=a.length:=by omega
 rw[e,List.take_length]at h3 h4
 exact⟨h3,by rw[h4,List.drop_length,List.append_nil]⟩
structure hdI {α:Type} (c:α→Int) (o:α→Int→Bool) (a:List α) (k0 k i:Int):Prop where
 h1:0≤i
 h2:i≤a.length
 h3:k=k0+cL c (a.take i.toNat)
 h4:oL c o a k0=oL c o (a.drop i.toNat) k
def hdM{α:Type}(a:List α)(k0 k i:Int):Nat:=(a.length - i).toNat
theorem Xff{α:Type}{c:α→Int}{o:α→Int→Bool}{a:List α}{k0 k i k':Int}(d:α)(h:hdI c o a k0 k i)(hi:i<a.length)(ho:o (a.getD i.toNat d) k=true)(hk:k'=k+c (a.getD i.toNat d)):hdI c o a k0 k' (i+1):=by
 obtain⟨h1,h2,h3,h4⟩:=h
 have hi':i.toNat<a.length:=by omega
 refine⟨by omega,by omega,?_,?_⟩
 · rw[tn1 h1,(X4a c d hi').1,hk,h3];omega
 · rw[tn1 h1,h4,X3h d hi'];simp only[oL,ho,Bool.true_and,hk]
theorem Xo2{α:Type}{c:α→Int}{o:α→Int→Bool}{a:List α}{k0 k i:Int}(d:α)(h:hdI c o a k0 k i)(hi:i<a.length)(ho:o (a.getD i.toNat d) k=false):-1=fHd (cL c a) (oL c o a k0) k0:=by
 obtain⟨h1,h2,h3,h4⟩:=h
 rw[h4,X3h d (by omega)]
 show -1=fHd _ (o (a.getD i.toNat d) k&&oL c o _ _) _
 rw[ho,Bool.false_and];rfl
theorem XiA{α:Type}{c:α→Int}{o:α→Int→Bool}{a:List α}{k0 k i:Int}(h:hdI c o a k0 k i)(hi:¬i<a.length):k=fHd (cL c a) (oL c o a k0) k0:=by
 obtain⟨h1,h2,h3,h4⟩:=h
 have e:i.toNat=a.length:=by omega
 rw[e,List.take_length]at h3
 rw[e,List.drop_length]at h4
 rw[h4]
 show k=fHd (cL c a) true k0
 rw[X3I rfl,h3]
theorem X1r{α:Type}{l:List α}{i:Nat}{v d:α}(h:i<l.length):List.getD (List.set l i v) i d=v:=by
 rw[List.getD_eq_getElem?_getD,List.getElem?_set_self h];rfl
def XqS(n:Nat)(out:List UInt8):List UInt8:=if n=0 then out else XqS (n / 10) (UInt8.ofNat (48+n % 10)::out)
termination_by n
decreasing_by omega
def pMT(k:Int):Prop:=k≤4611686018427387904
def fMT(k:Int):List UInt8:=if k≤0 then [109,48] else 109::XqS k.toNat []
def mtI(k0 k:Int)(out:List UInt8):Prop:=0≤k∧0<k0∧out.length+k≤k0∧k0≤4611686018427387904∧XqS k.toNat out=XqS k0.toNat []
def mtM(k0 k:Int)(out:List UInt8):Nat:=k.toNat
def X6Y:Con:={A:=(.int .i64),shA:=[.one],R:=.str,shR:=[(false,1)],pre:=fun _ a=>(pMT a),f:=some fun _ a=>((fMT a),((),()))}
def X0M.F(a0:Int):Prop:=(X00 (decide (a0≤(0:Int))) (Eq ([109,48],((),())) ((fMT a0),((),()))) (eS [] []∧((mtI a0 a0 [])∧∀(y1:(Int×U5q)),(mtI a0 y1.1 y1.2)→(X00 (decide (y1.1>(0:Int))) ((10:Int)≠0∧(List.length (List.map (fun n=>UInt8.ofNat (Int.toNat n)) [(IntKind.wrap .u8 (wI ((48:Int)+(Int.tmod y1.1 (10:Int)))))])+List.length y1.2≤9223372036854775807∧((10:Int)≠0∧(eS [] []∧(mtI a0 (wI (Int.tdiv y1.1 (10:Int))) ((List.map (fun n=>UInt8.ofNat (Int.toNat n)) [(IntKind.wrap .u8 (wI ((48:Int)+(Int.tmod y1.1 (10:Int)))))])++y1.2))∧(mtM a0 (wI (Int.tdiv y1.1 (10:Int))) ((List.map (fun n=>UInt8.ofNat (Int.toNat n)) [(IntKind.wrap .u8 (wI ((48:Int)+(Int.tmod y1.1 (10:Int)))))])++y1.2))<(mtM a0 y1.1 y1.2))))) (List.length [109]+List.length y1.2≤9223372036854775807∧(Eq (([109]++y1.2),((),())) ((fMT a0),((),()))))))))
def X0M.L(a0:Int):Nat→Option X0e:=fun p=>Go.Proofs.YtcfaphojdacmbaaGreatR.Bv.look p [(60,{kp:={hold:=[],slots:=[0,3],boxes:=[],rows:=[]},T:=(.pair (.int .i64) .str),I:=fun st y=>mtI a0 y.1 y.2,μ:=fun st y=>mtM a0 y.1 y.2})]
theorem X0M.pure(a0:Int)(h:(pMT a0))(hw:Wf X6Y.A a0):X0M.F a0:=by
 delta X0M.F wI eS
 simp only[Bs,B0,B1,Prod.mk.injEq,X01]
 have hp:a0≤4611686018427387904:=h
 refine⟨fun h1=>by simp[fMT,h1],fun h1=>⟨⟨by omega,by omega,by simp,hp,rfl⟩,?_⟩⟩
 rintro⟨k,out⟩ ⟨h2,h3,h4,h5,h6⟩
 simp only at h2 h3 h4 h5 h6 ⊢
 refine⟨fun hk=>?_,fun hk=>?_⟩
 · have e1:Int.tmod k 10=k % 10:=Int.tmod_eq_emod_of_nonneg h2
   have e2:Int.tdiv k 10=k / 10:=Int.tdiv_eq_ediv_of_nonneg h2
   rw[e1,e2,w64 (x:=48+k % 10) (by omega) (by omega),wu8 (by omega) (by omega),w64 (x:=k / 10) (by omega) (by omega)]
   rw[XqS,if_neg (by omega)]at h6
   refine⟨by omega,by simp;omega,by omega,⟨by omega,h3,by simp;omega,h5,?_⟩,by unfold mtM;omega⟩
   have e3:(k / 10).toNat=k.toNat / 10:=by omega
   have e4:(48+k % 10).toNat=48+k.toNat % 10:=by omega
   rw[←h6,e3]
   show XqS _ (UInt8.ofNat (48+k % 10).toNat::out)=_
   rw[e4]
 · have e:k=0:=by omega
   subst e
   rw[show Int.toNat 0=0 from rfl,XqS,if_pos rfl]at h6
   refine⟨by omega,?_⟩
   unfold fMT
   rw[if_neg h1,←h6]
   rfl
theorem X0M.eq:EqS X6Y Tryz.f149 [9] [] [] (fun i x=>X0M.L x) (fun i x=>X0M.F x):=by intro i x;kernel_rfl
theorem X0M.ok:X0k Tryz.prog 149 X6Y:=X1Z X0M.eq Tryz.func149 rfl (by kernel_rfl) fun i x h hi hw=>X0M.pure x h hw
def X0M.e:GE:=⟨149,X6Y,⟨_,Tryz.func149,rfl,rfl⟩,X0M.ok⟩
def Xas(x:List UInt8):Int:=1
def X6l(x:List UInt8)(k:Int):List UInt8:=fMT k
def X5N(x:List UInt8)(k:Int):Bool:=decide (x=fMT k)
theorem Xi7:∀(x:List UInt8) (k:Int),X5N (X6l x k) k=true∧Xas (X6l x k)=Xas x:=fun x k=>⟨by simp[X5N,X6l],rfl⟩
theorem X4l:∀x:List UInt8,0≤Xas x:=fun x=>by simp[Xas]
def Xoz.L(a0:(List U5q))(a1:Int):Nat→Option X0e:=fun p=>Go.Proofs.YtcfaphojdacmbaaGreatR.Bv.look p [(122,{kp:={hold:=[0],slots:=[1,5],boxes:=[],rows:=[]},T:=T0q,I:=fun st y=>szLI (fun s:List UInt8=>List.length s) a0 a1 y.1 y.2,μ:=fun st y=>szLM a0 a1 y.1 y.2})]
def XoB.L(a0:(List U5q)):Nat→Option X0e:=fun p=>Go.Proofs.YtcfaphojdacmbaaGreatR.Bv.look p [(58,{kp:={hold:=[0,3],slots:=[4],boxes:=[],rows:=[{bx:=false,s:=3,i:=0,k:=1000387,e:=9,hot:=true}]},T:=(.pair (.int .i64) (.list .str)),I:=fun st y=>cpI ([]:U5q) a0 y.1 y.2,μ:=fun st y=>cpM a0 y.1 y.2})]
def X4K(a b:List U5q):Bool:=decide (a=b)
def X6u:Con:={A:=(.pair (.list .str) (.list .str)),shA:=[.one,.one],R:=.bool,shR:=[(false,1)],pre:=fun _ _=>True,f:=some fun _ a=>((X4K a.1 a.2),((),()))}
def X1I.F(a0:(List U5q))(a1:(List U5q)):Prop:=(X00 ((ln a0)!=(ln a1)) (Eq (false,((),())) ((X4K a0 a1),((),()))) (eS [(0,.val false [.lst .str a0 none]),(1,.val false [.lst .str a1 none])] [(0,.val false [.lst .str a0 none]),(1,.val false [.lst .str a1 none])]∧((XeQ a0 a1 0)∧∀(y1:Int),(XeQ a0 a1 y1)→(X00 (decide (y1<(ln a0))) (0≤y1∧(y1<(ln a0)∧(0≤y1∧(y1<(ln a1)∧(X00 (!((List.getD a0 (tN y1) [])==(List.getD a1 (tN y1) []))) (Eq (false,((),())) ((X4K a0 a1),((),()))) (eS [(0,.val false [.lst .str a0 none]),(1,.val false [.lst .str a1 none])] [(0,.val false [.lst .str a0 none]),(1,.val false [.lst .str a1 none])]∧(XeQ a0 a1 (wI (y1+(1:Int))))∧(XgD a0 a1 (wI (y1+(1:Int))))<(XgD a0 a1 y1))))))) (Eq (true,((),())) ((X4K a0 a1),((),())))))))
def X1I.L(a0:(List U5q))(a1:(List U5q)):Nat→Option X0e:=fun p=>Go.Proofs.YtcfaphojdacmbaaGreatR.Bv.look p [(58,{kp:={hold:=[0,1],slots:=[5],boxes:=[],rows:=[]},T:=(.int .i64),I:=fun st y=>XeQ a0 a1 y,μ:=fun st y=>XgD a0 a1 y})]
theorem X1I.pure(a0:(List U5q))(a1:(List U5q))(h:True)(hw:Wf X6u.A (a0,a1)):X1I.F a0 a1:=by
 delta X1I.F ln tN wI eS
 have hw1:a0.length≤9223372036854775807:=hw.1.1
 simp only[Bs,B0,B1,Prod.mk.injEq,X01]
 refine⟨fun h1=>?_,fun h1=>?_⟩
 · have:a0≠a1:=fun e=>by subst e;simp at h1
   simp[X4K,this]
 have hl:a0.length=a1.length:=by omega
 refine⟨⟨by omega,by omega,hl,by simp⟩,?_⟩
 rintro i hI
 have h2:=hI.1
 have h3:=hI.2.1
 refine⟨fun hi=>⟨h2,hi,h2,by omega,fun hne=>?_,fun he=>?_⟩,fun hi=>?_⟩
 · have:a0≠a1:=fun e=>by subst e;simp at hne
   simp[X4K,this]
 · have hg:a0.getD i.toNat ([]:U5q)=a1.getD i.toNat ([]:U5q):=by simpa using he
   rw[w64 (x:=i+1) (by omega) (by omega)]
   exact⟨Xcz hI hi hg,by unfold XgD;omega⟩
 · have h6:=Xf8 hI hi
   simp[X4K,h6]
theorem X1I.eq:EqS X6u Tryz.f145 [4] [] [] (fun i x=>X1I.L x.1 x.2) (fun i x=>X1I.F x.1 x.2):=by intro i x;kernel_rfl
theorem X1I.ok:X0k Tryz.prog 145 X6u:=X1Z X1I.eq Tryz.func145 rfl (by kernel_rfl) fun i x h hi hw=>X1I.pure x.1 x.2 h hw
def X1I.e:GE:=⟨145,X6u,⟨_,Tryz.func145,rfl,rfl⟩,X1I.ok⟩
def X5p(l:List U5q)(k:Int):Prop:=0≤k∧k+cL Xas l≤4611686018427387904
def X6C(l:List U5q)(k:Int):Int×List U5q:=(k+cL Xas l,mL Xas X6l l k)
def X57:Con:={A:=(.pair (.list .str) (.int .i64)),shA:=[.one,.one],backA:=[(0,9)],B:=(.list .str),R:=(.int .i64),shR:=[(false,1)],pre:=fun _ a=>(X5p a.1 a.2),f:=some fun _ a=>((X6C a.1 a.2).1,((),(X6C a.1 a.2).2))}
def X0S.F(a0:(List U5q))(a1:Int):Prop:=(eS [(0,.val false [.own .str 2])] [(0,.val false [.own .str 2])]∧((mkI Xas X6l a0 a1 a1 0 a0)∧∀(y1:(Int×(Int×(List U5q)))),(mkI Xas X6l a0 a1 y1.1 y1.2.1 y1.2.2)→(X00 (decide (y1.2.1<(ln y1.2.2))) ((pMT y1.1)∧∀r2,(Eq r2 ((fMT y1.1),((),())))→(0≤y1.2.1∧(y1.2.1<(ln y1.2.2)∧(eS [(0,.val false [.own .str 2])] [(0,.val false [.own .str 2])]∧(mkI Xas X6l a0 a1 (wI (y1.1+(1:Int))) (wI (y1.2.1+(1:Int))) (List.set y1.2.2 (tN y1.2.1) r2.1))∧(mkM a0 a1 (wI (y1.1+(1:Int))) (wI (y1.2.1+(1:Int))) (List.set y1.2.2 (tN y1.2.1) r2.1))<(mkM a0 a1 y1.1 y1.2.1 y1.2.2))))) (Eq (y1.1,((),y1.2.2)) ((X6C a0 a1).1,((),(X6C a0 a1).2))))))
def X0S.L(a0:(List U5q))(a1:Int):Nat→Option X0e:=fun p=>Go.Proofs.YtcfaphojdacmbaaGreatR.Bv.look p [(26,{kp:={hold:=[0],slots:=[1,5],boxes:=[],rows:=[{bx:=false,s:=0,i:=0,k:=2,e:=9,hot:=true}]},T:=(.pair (.int .i64) (.pair (.int .i64) (.list .str))),I:=fun st y=>mkI Xas X6l a0 a1 y.1 y.2.1 y.2.2,μ:=fun st y=>mkM a0 a1 y.1 y.2.1 y.2.2})]
theorem X0S.pure(a0:(List U5q))(a1:Int)(h:(X5p a0 a1))(hw:Wf X57.A (a0,a1)):X0S.F a0 a1:=by
 delta X0S.F ln tN wI eS
 obtain⟨p1,p2⟩:=h
 have hw1:a0.length≤9223372036854775807:=hw.1.1
 simp only[Bs,B0,B1,Prod.mk.injEq,X01]
 refine⟨⟨by omega,by omega,by simp[cL],by simp[mL]⟩,?_⟩
 rintro⟨k,i,l⟩ hI
 simp only at hI ⊢
 have hl:=XiD hI
 have h2:=hI.1
 have h3:=hI.2
 refine⟨fun hi0=>?_,fun hi0=>?_⟩
 · have hi:i<(a0.length:Int):=by omega
   have hi':i.toNat<l.length:=by omega
   have hg:=Xmy (d:=([]:U5q)) hI hi
   have hs:=X4a Xas ([]:U5q) (l:=a0) (i:=i.toNat) (by omega)
   have hk:=hI.3
   have c1:=X2z X4l (a0.take i.toNat)
   have c2:=X2z X4l (a0.drop (i.toNat+1))
   have c3:=X4l (a0.getD i.toNat ([]:U5q))
   have hmod:Int.tmod k 3=k % 3:=Int.tmod_eq_emod_of_nonneg (by omega)
   have hc:Xas (a0.getD i.toNat ([]:U5q))=Xas (a0.getD i.toNat ([]:U5q)):=rfl
   conv at hc=>rhs;unfold Xas
   try simp only[hg,X1r hi',List.set_set,List.length_set]
   try simp (disch:=first | omega | simp_all) only[X1r,List.set_set,List.length_set,hg,w64,pMT]
   repeat' (with_reducible (first | (refine And.intro ?_ ?_) | intro _))
   all_goals (try simp+zetaDelta (disch:=first | omega | simp_all) only[hg,X1r,List.set_set,List.length_set,w64,pMT])
   all_goals (first | omega | exact XfE (d:=([]:U5q)) hI hi (by simp[X6l,hmod]) (by omega) | (unfold mkM;omega) | skip)
 · obtain⟨e1,e2⟩:=Xi5 hI (by omega)
   exact⟨e1,e2⟩
theorem X0S.eq:EqS X57 Tryz.f148 [3] [X0M.e] [] (fun i x=>X0S.L x.1 x.2) (fun i x=>X0S.F x.1 x.2):=by intro i x;kernel_rfl
theorem X0S.ok:X0k Tryz.prog 148 X57:=X1Z X0S.eq Tryz.func148 rfl (by kernel_rfl) fun i x h hi hw=>X0S.pure x.1 x.2 h hw
def X0S.e:GE:=⟨148,X57,⟨_,Tryz.func148,rfl,rfl⟩,X0S.ok⟩
def X7E(l:List U5q)(k:Int):Int:=fHd (cL Xas l) (oL Xas X5N l k) k
def X5a:Con:={A:=(.pair (.list .str) (.int .i64)),shA:=[.one,.one],R:=(.int .i64),shR:=[(false,1)],pre:=fun _ a=>(X5p a.1 a.2),f:=some fun _ a=>((X7E a.1 a.2),((),()))}
def X0T.F(a0:(List U5q))(a1:Int):Prop:=(eS [(0,.val false [.lst .str a0 none])] [(0,.val false [.lst .str a0 none])]∧((hdI Xas X5N a0 a1 a1 0)∧∀(y1:(Int×Int)),(hdI Xas X5N a0 a1 y1.1 y1.2)→(X00 (decide (y1.2<(ln a0))) (0≤y1.2∧(y1.2<(ln a0)∧((pMT y1.1)∧∀r2,(Eq r2 ((fMT y1.1),((),())))→(X00 (!((List.getD a0 (tN y1.2) [])==r2.1)) (Eq ((-1),((),())) ((X7E a0 a1),((),()))) (eS [(0,.val false [.lst .str a0 none])] [(0,.val false [.lst .str a0 none])]∧(hdI Xas X5N a0 a1 (wI (y1.1+(1:Int))) (wI (y1.2+(1:Int))))∧(hdM a0 a1 (wI (y1.1+(1:Int))) (wI (y1.2+(1:Int))))<(hdM a0 a1 y1.1 y1.2)))))) (Eq (y1.1,((),())) ((X7E a0 a1),((),()))))))
def X0T.L(a0:(List U5q))(a1:Int):Nat→Option X0e:=fun p=>Go.Proofs.YtcfaphojdacmbaaGreatR.Bv.look p [(26,{kp:={hold:=[0],slots:=[1,5],boxes:=[],rows:=[]},T:=T0q,I:=fun st y=>hdI Xas X5N a0 a1 y.1 y.2,μ:=fun st y=>hdM a0 a1 y.1 y.2})]
theorem X0T.pure(a0:(List U5q))(a1:Int)(h:(X5p a0 a1))(hw:Wf X5a.A (a0,a1)):X0T.F a0 a1:=by
 delta X0T.F ln tN wI eS
 obtain⟨p1,p2⟩:=h
 have hw1:a0.length≤9223372036854775807:=hw.1.1
 simp only[Bs,B0,B1,Prod.mk.injEq,X01]
 refine⟨⟨by omega,by omega,by simp[cL],by simp⟩,?_⟩
 rintro⟨k,i⟩ hI
 simp only at hI ⊢
 have h2:=hI.1
 have h3:=hI.2
 refine⟨fun hi=>?_,fun hi=>XiA hI hi⟩
 · have hs:=X4a Xas ([]:U5q) (l:=a0) (i:=i.toNat) (by omega)
   have hk:=hI.3
   have c1:=X2z X4l (a0.take i.toNat)
   have c2:=X2z X4l (a0.drop (i.toNat+1))
   have c3:=X4l (a0.getD i.toNat ([]:U5q))
   have hmod:Int.tmod k 3=k % 3:=Int.tmod_eq_emod_of_nonneg (by omega)
   have no:X5N (a0.getD i.toNat ([]:U5q)) k=false→-1=X7E a0 a1:=fun ho=>Xo2 ([]:U5q) hI hi ho
   have yes:X5N (a0.getD i.toNat ([]:U5q)) k=true→hdI Xas X5N a0 a1 (k+Xas (a0.getD i.toNat ([]:U5q))) (i+1):=fun ho=>Xff ([]:U5q) hI hi ho rfl
   generalize a0.getD i.toNat ([]:U5q)=x at*
   have hc:Xas x=Xas x:=rfl
   conv at hc=>rhs;unfold Xas
   simp only[X5N]at no yes
   simp (disch:=omega) only[w64,pMT]
   repeat' (with_reducible (first | (refine And.intro ?_ ?_) | intro _))
   all_goals (first | omega | (unfold hdM;omega) | skip)
   all_goals (try simp (disch:=first | omega | assumption) only[X42,X3I,w64,Bool.not_eq_false]at*)
   all_goals (try simp (disch:=first | omega | assumption) only[X42,X3I,w64,Bool.not_eq_false]at*)
   all_goals (first | omega | grind)
theorem X0T.eq:EqS X5a Tryz.f151 [3] [X0M.e] [] (fun i x=>X0T.L x.1 x.2) (fun i x=>X0T.F x.1 x.2):=by intro i x;kernel_rfl
theorem X0T.ok:X0k Tryz.prog 151 X5a:=X1Z X0T.eq Tryz.func151 rfl (by kernel_rfl) fun i x h hi hw=>X0T.pure x.1 x.2 h hw
def X0T.e:GE:=⟨151,X5a,⟨_,Tryz.func151,rfl,rfl⟩,X0T.ok⟩
end Go.Proofs.YtcfaphojdacmbaaGreatR.B
