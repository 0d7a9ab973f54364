/- Numbers of fixed width,sums,frames. -/
import Derived.Test.YtegmokdppbagiaaCNum
set_option maxRecDepth 100000
set_option linter.unusedVariables false
set_option linter.unusedSimpArgs false
namespace Go.Proofs.Ytegmokdppbagiaa.B
open Go Go.Proofs.Ytegmokdppbagiaa.Bv
def fx:Nat→Nat→List Int
 | 0,_=>[]
 | w+1,n=>fx w (n / 256)++[((n % 256:Nat):Int)]
theorem X4V:∀w n,(fx w n).length=w
 | 0,_=>rfl
 | w+1,n=>by simp[fx,X4V w]
def X7T(n w:Int):Prop:=n≤9223372036854775807
def X0s(n w:Int):List UInt8:=if fIn w 1 7=true∧0≤n∧n<256 ^ w.toNat then X1i (fx w.toNat n.toNat) else []
theorem X2w(n w:Int):(X0s n w).length≤7:=by
 unfold X0s
 split
 · rename_i h
   have:=h.1
   simp only[fIn,Bool.and_eq_true,decide_eq_true_eq]at this
   simp only[X1i,List.length_map,X4V];omega
 · simp
theorem X9L(a b:List Int):X1i (a++b)=X1i a++X1i b:=by simp[X1i]
def fxJ(n0 w i:Int)(out:List Int):Prop:=-1≤i∧i<w∧1≤w∧w≤7∧0≤n0∧n0<256 ^ w.toNat∧out=fx (w - 1 - i).toNat (n0 / 256 ^ (i+1).toNat).toNat
def fxN(n0 w i:Int)(out:List Int):Nat:=(i+1).toNat
theorem XcN(x:Int):IntKind.wrap .u8 x=x % 256:=IntKind.wrap_u8 x
theorem Xjg(i:Nat):(2:Int) ^ (8*i)=256 ^ i:=by rw[Int.pow_mul];rfl
theorem X6a(i:Nat):(0:Int)<256 ^ i:=Int.pow_pos (by omega)
theorem Xc8(n:Int)(i:Nat):n / 256 ^ (i+1)=n / 256 ^ i / 256:=by
 rw[Int.pow_succ,Int.ediv_ediv_of_nonneg (Int.le_of_lt (X6a i))]
theorem Xb5{n:Int}(h:0≤n)(i:Nat):0≤n / 256 ^ i:=Int.ediv_nonneg h (Int.le_of_lt (X6a i))
theorem Xi4(w:Nat){n:Int}(h:0≤n):fx (w+1) n.toNat=fx w (n / 256).toNat++[n % 256]:=by
 have e1:n.toNat / 256=(n / 256).toNat:=by omega
 have e2:((n.toNat % 256:Nat):Int)=n % 256:=by omega
 simp only[fx,e1,e2]
theorem Xey{n w:Int}(h:fIn w 1 7=false):[]=X0s n w:=by simp[X0s,h]
theorem XdZ{n w:Int}(h:n<0):[]=X0s n w:=by unfold X0s;rw[if_neg (by omega)]
def X4s:Con:={A:=T0q,shA:=[.one,.one],R:=.str,shR:=[(false,1)],pre:=fun _ a=>(X7T a.1 a.2),f:=some fun _ a=>((X0s a.1 a.2),((),()))}
def X1n.F(a0:Int)(a1:Int):Prop:=(True∧∀r1,(Eq r1 ((fIn a1 1 7),((),())))→(X04 (!r1.1) (Eq ([],((),())) ((X0s a0 a1),((),()))) (X04 (decide (a0<(0:Int))) (Eq ([],((),())) ((X0s a0 a1),((),()))) (0≤(wI ((8:Int)*a1))∧(X04 ((Int.fdiv a0 (2 ^ (min (tN (wI ((8:Int)*a1))) (IntKind.bits .i64))))!=(0:Int)) (Eq ([],((),())) ((X0s a0 a1),((),()))) (eS [(0,.val false [.int .i64 a0])] [(0,.val false [.int .i64 a0])]∧((fxJ a0 a1 (wI (a1 - (1:Int))) ([]:List Int))∧∀(y2:(Int×(List Int))),(fxJ a0 a1 y2.1 y2.2)→(X04 (decide (y2.1≥(0:Int))) (0≤(wI ((8:Int)*y2.1))∧(List.length y2.2+List.length [(IntKind.wrap .u8 (Int.fdiv a0 (2 ^ (min (tN (wI ((8:Int)*y2.1))) (IntKind.bits .i64)))))]≤9223372036854775807∧((List.length y2.2+List.length [(IntKind.wrap .u8 (Int.fdiv a0 (2 ^ (min (tN (wI ((8:Int)*y2.1))) (IntKind.bits .i64)))))])*1≤140737488355328∧(eS [(0,.val false [.int .i64 a0])] [(0,.val false [.int .i64 a0])]∧(fxJ a0 a1 (wI (y2.1 - (1:Int))) (y2.2++[(IntKind.wrap .u8 (Int.fdiv a0 (2 ^ (min (tN (wI ((8:Int)*y2.1))) (IntKind.bits .i64)))))]))∧(fxN a0 a1 (wI (y2.1 - (1:Int))) (y2.2++[(IntKind.wrap .u8 (Int.fdiv a0 (2 ^ (min (tN (wI ((8:Int)*y2.1))) (IntKind.bits .i64)))))]))<(fxN a0 a1 y2.1 y2.2))))) (Eq ((List.map (fun n=>UInt8.ofNat (Int.toNat n)) y2.2),((),())) ((X0s a0 a1),((),())))))))))))
def X1n.L(a0:Int)(a1:Int):Nat→Option X0g:=fun p=>Go.Proofs.Ytegmokdppbagiaa.Bv.look p [(122,{kp:={hold:=[0],slots:=[5,6],boxes:=[],rows:=[{bx:=false,s:=5,i:=0,k:=1000643,e:=5,hot:=true}]},T:=(.pair (.int .i64) T6q),I:=fun st y=>fxJ a0 a1 y.1 y.2,μ:=fun st y=>fxN a0 a1 y.1 y.2})]
theorem X1n.pure(a0:Int)(a1:Int)(h:(X7T a0 a1))(hw:Wf X4s.A (a0,a1)):X1n.F a0 a1:=by
 delta X1n.F tN wI eS
 have h0:=h
 have hin:fIn a1 1 7=true→1≤a1∧a1≤7:=fun h=>by simpa [fIn] using h
 simp only[Bs,B0,B1,Prod.mk.injEq,X06]
 refine⟨fun h=>Xey h,fun h=>⟨fun h2=>XdZ h2,fun h2=>?_⟩⟩
 obtain⟨h3,h4⟩:=hin h
 have eb:IntKind.bits .i64=64:=rfl
 have e8:∀x:Int,0≤x→x≤7→(2:Int) ^ (min (IntKind.wrap .i64 (8*x)).toNat (IntKind.bits .i64))=256 ^ x.toNat:=fun x q1 q2=>by
  rw[w64 (by omega) (by omega),eb,show min (8*x).toNat 64=8*x.toNat by omega,Xjg]
 have ef:∀x:Int,0≤x→x≤7→Int.fdiv a0 (2 ^ (min (IntKind.wrap .i64 (8*x)).toNat (IntKind.bits .i64)))=a0 / 256 ^ x.toNat:=fun x q1 q2=>by
  rw[e8 x q1 q2];exact Int.fdiv_eq_ediv_of_nonneg _ (Int.le_of_lt (X6a _))
 rw[ef a1 (by omega) (by omega)]
 refine⟨by rw[w64 (by omega) (by omega)];omega,fun h5=>?_,fun h5=>?_⟩
 · unfold X0s
   rw[if_neg]
   rintro⟨_,_,h6⟩
   exact h5 (Int.ediv_eq_zero_of_lt (by omega) h6)
 have h6:a0<256 ^ a1.toNat:=by
  have:=Int.lt_ediv_add_one_mul_self a0 (X6a a1.toNat)
  rw[h5]at this;omega
 refine⟨⟨by rw[w64 (by omega) (by omega)];omega,by rw[w64 (by omega) (by omega)];omega,h3,h4,by omega,h6,by rw[w64 (by omega) (by omega),show(a1 - 1 - (a1 - 1)).toNat=0 by omega];rfl⟩,?_⟩
 rintro⟨i,out⟩ ⟨k1,k2,k3,k4,k5,k6,k7⟩
 simp only at k1 k2 k3 k4 k5 k6 k7 ⊢
 have hl:out.length=(a1 - 1 - i).toNat:=by rw[k7,X4V]
 refine⟨fun hi=>?_,fun hi=>?_⟩
 · rw[ef i hi (by omega),w64 (x:=8*i) (by omega) (by omega),w64 (x:=i - 1) (by omega) (by omega),XcN]
   have hd:=Xb5 k5 i.toNat
   refine⟨by omega,by omega,by omega,⟨by omega,by omega,k3,k4,k5,k6,?_⟩,by unfold fxN;omega⟩
   have e1:(a1 - 1 - (i - 1)).toNat=(a1 - 1 - i).toNat+1:=by omega
   have e2:(i - 1+1).toNat=i.toNat:=by omega
   rw[e1,e2,Xi4 _ hd,k7,tn1 hi,Xc8]
 · have e:i= -1:=by omega
   subst e
   have e1:(a1 - 1 - -1).toNat=a1.toNat:=by omega
   rw[e1]at k7
   unfold X0s
   rw[if_pos ⟨h,k5,k6⟩,k7]
   show X1i _=_
   rw[show((-1:Int)+1).toNat=0 from rfl,Int.pow_zero,Int.ediv_one]
theorem X1n.eq:EqS X4s Try.f37 [9] [X0O.e] [] (fun i x=>X1n.L x.1 x.2) (fun i x=>X1n.F x.1 x.2):=by intro i x;kernel_rfl
theorem X1n.ok:X11 Try.prog 37 X4s:=X3V X1n.eq Try.func37 rfl (by kernel_rfl) fun i x h hi hw=>X1n.pure x.1 x.2 h hw
def X1n.e:GE:=⟨37,X4s,⟨_,Try.func37,rfl,rfl⟩,X1n.ok⟩
def X6V(c:Nat):Nat:=if c % 2=1 then(c / 2) ^^^ 2197175160 else c / 2
def X5l:Nat→Nat→Nat
 | 0,c=>c
 | k+1,c=>X6V (X5l k c)
def X4J(c:Nat)(b:UInt8):Nat:=X5l 8 (c ^^^ b.toNat)
def Xfr(s:List UInt8):Nat:=s.foldl X4J 4294967295
def X6G(s:List UInt8):Int:=4294967295 - (Xfr s:Int)
theorem X6l{a b:Nat}(h:a<4294967296)(h':b<4294967296):a ^^^ b<4294967296:=Nat.xor_lt_two_pow (n:=32) h h'
theorem Xfh{c:Nat}(h:c<4294967296):X6V c<4294967296:=by
 unfold X6V;split
 · exact X6l (by omega) (by omega)
 · omega
theorem X56{c:Nat}(h:c<4294967296):∀k,X5l k c<4294967296
 | 0=>h
 | k+1=>Xfh (X56 h k)
theorem X54{c:Nat}(b:UInt8)(h:c<4294967296):X4J c b<4294967296:=X56 (X6l h (by have:=b.toNat_lt;omega)) 8
theorem Xbb:∀(s:List UInt8) (c:Nat),c<4294967296→s.foldl X4J c<4294967296
 | [],_,h=>h
 | b::s,c,h=>Xbb s _ (X54 b h)
theorem XcT(s:List UInt8):Xfr s<4294967296:=Xbb s _ (by omega)
theorem X91(s:List UInt8):0≤X6G s∧X6G s≤4294967295:=by have:=XcT s;unfold X6G;omega
theorem XeV(s:List UInt8)(i:Nat)(h:i<s.length):Xfr (s.take (i+1))=X4J (Xfr (s.take i)) (s.getD i 0):=by
 rw[X44 0 h];simp[Xfr]
theorem bv64(x:Nat)(h:x<4294967296):(BitVec.ofInt 64 (x:Int)).toNat=x:=by
 rw[BitVec.toNat_ofInt];omega
theorem Xiq(x:Nat)(h:x<4294967296):(BitVec.ofInt 32 (x:Int)).toNat=x:=by
 rw[BitVec.toNat_ofInt];omega
theorem xor64{x y:Nat}(hx:x<4294967296)(hy:y<4294967296):IntKind.wrap .i64 ((BitVec.ofInt (IntKind.bits .i64) (x:Int) ^^^ BitVec.ofInt (IntKind.bits .i64) (y:Int)).toNat:Int)=((x ^^^ y:Nat):Int):=by
 show IntKind.wrap .i64 ((BitVec.ofInt 64 (x:Int) ^^^ BitVec.ofInt 64 (y:Int)).toNat:Int)=_
 have:=X6l hx hy
 rw[BitVec.toNat_xor,bv64 x hx,bv64 y hy,w64 (by omega) (by omega)]
theorem Xiz{x y:Nat}(hx:x<4294967296)(hy:y<4294967296):IntKind.wrap .u32 ((BitVec.ofInt (IntKind.bits .u32) (x:Int) ^^^ BitVec.ofInt (IntKind.bits .u32) (y:Int)).toNat:Int)=((x ^^^ y:Nat):Int):=by
 show IntKind.wrap .u32 ((BitVec.ofInt 32 (x:Int) ^^^ BitVec.ofInt 32 (y:Int)).toNat:Int)=_
 have:=X6l hx hy
 rw[BitVec.toNat_xor,Xiq x hx,Xiq y hy,Go.IntWalk.u32_in _ (by omega)]
theorem and32{x:Nat}(hx:x<4294967296):IntKind.wrap .u32 ((BitVec.ofInt (IntKind.bits .u32) (x:Int)&&&BitVec.ofInt (IntKind.bits .u32) 1).toNat:Int)=((x % 2:Nat):Int):=by
 show IntKind.wrap .u32 ((BitVec.ofInt 32 (x:Int)&&&BitVec.ofInt 32 ((1:Nat):Int)).toNat:Int)=_
 rw[BitVec.toNat_and,Xiq x hx,Xiq 1 (by omega),Nat.and_one_is_mod,Go.IntWalk.u32_in _ (by omega)]
theorem not32{x:Nat}(hx:x<4294967296):IntKind.wrap .u32 ((BitVec.ofInt (IntKind.bits .u32) (if IntKind.signed .u32 then -1 else IntKind.max .u32) ^^^ BitVec.ofInt (IntKind.bits .u32) (x:Int)).toNat:Int)=4294967295 - (x:Int):=by
 show IntKind.wrap .u32 ((BitVec.ofInt 32 ((4294967295:Nat):Int) ^^^ BitVec.ofInt 32 (x:Int)).toNat:Int)=_
 have h2:=X6l (a:=4294967295) (b:=x) (by omega) hx
 have h3:4294967295 ^^^ x=4294967295 - x:=by
  have h4:(~~~ (BitVec.ofNat 32 x)).toNat=(BitVec.ofNat 32 4294967295 ^^^ BitVec.ofNat 32 x).toNat:=by
   congr 1
  rw[BitVec.toNat_not,BitVec.toNat_xor,BitVec.toNat_ofNat,BitVec.toNat_ofNat,Nat.mod_eq_of_lt (by omega),Nat.mod_eq_of_lt (by omega)]at h4
  omega
 rw[BitVec.toNat_xor,Xiq x hx,Xiq _ (by omega),h3,Go.IntWalk.u32_in _ (by omega)]
 omega
def Xir(s:List UInt8):Prop:=s.length≤maxLen
def crI(s:List UInt8)(c i:Int):Prop:=0≤i∧i≤s.length∧c=((Xfr (s.take i.toNat):Nat):Int)
def crM(s:List UInt8)(c i:Int):Nat:=(s.length - i).toNat
def crJ(s:List UInt8)(i c k:Int):Prop:=0≤i∧i<s.length∧0≤k∧k≤8∧c=((X5l k.toNat (Xfr (s.take i.toNat) ^^^ (s.getD i.toNat 0).toNat):Nat):Int)
def crN(s:List UInt8)(i c k:Int):Nat:=(8 - k).toNat
def X6d:Con:={A:=.str,shA:=[.one],R:=(.int .i64),shR:=[(false,1)],pre:=fun _ a=>(Xir a),f:=some fun _ a=>((X6G a),((),()))}
def X2h.F(a0:U3q):Prop:=(eS [(0,.val false [.str a0]),(7,.val false [.int .i64 (ln a0)])] [(0,.val false [.str a0]),(7,.val false [.int .i64 (ln a0)])]∧((crI a0 4294967295 0)∧∀(y1:(Int×Int)),(crI a0 y1.1 y1.2)→(X04 (decide (y1.2<(ln a0))) (0≤y1.2∧(y1.2<(ln a0)∧(eS [(0,.val false [.str a0]),(7,.val false [.int .i64 (ln a0)]),(8,.val false [.int .i64 y1.2])] [(0,.val false [.str a0]),(7,.val false [.int .i64 (ln a0)]),(8,.val false [.int .i64 y1.2])]∧((crJ a0 y1.2 (IntKind.wrap .u32 (BitVec.toNat (BitVec.ofInt (IntKind.bits .u32) y1.1 ^^^ BitVec.ofInt (IntKind.bits .u32) (IntKind.wrap .u32 ((UInt8.toNat (List.getD a0 (tN y1.2) 0):Nat):Int))))) 0)∧∀(y2:(Int×Int)),(crJ a0 y1.2 y2.1 y2.2)→(X04 (decide (y2.2<(8:Int))) (0≤(1:Int)∧(X04 ((IntKind.wrap .u32 (BitVec.toNat (BitVec.ofInt (IntKind.bits .u32) y2.1&&&BitVec.ofInt (IntKind.bits .u32) (1:Int))))==(1:Int)) (eS [(0,.val false [.str a0]),(7,.val false [.int .i64 (ln a0)]),(8,.val false [.int .i64 y1.2])] [(0,.val false [.str a0]),(7,.val false [.int .i64 (ln a0)]),(8,.val false [.int .i64 y1.2])]∧(crJ a0 y1.2 (IntKind.wrap .u32 (BitVec.toNat (BitVec.ofInt (IntKind.bits .u32) (Int.fdiv y2.1 (2 ^ (min (tN (1:Int)) (IntKind.bits .u32)))) ^^^ BitVec.ofInt (IntKind.bits .u32) (2197175160:Int)))) (wI (y2.2+(1:Int))))∧(crN a0 y1.2 (IntKind.wrap .u32 (BitVec.toNat (BitVec.ofInt (IntKind.bits .u32) (Int.fdiv y2.1 (2 ^ (min (tN (1:Int)) (IntKind.bits .u32)))) ^^^ BitVec.ofInt (IntKind.bits .u32) (2197175160:Int)))) (wI (y2.2+(1:Int))))<(crN a0 y1.2 y2.1 y2.2)) (eS [(0,.val false [.str a0]),(7,.val false [.int .i64 (ln a0)]),(8,.val false [.int .i64 y1.2])] [(0,.val false [.str a0]),(7,.val false [.int .i64 (ln a0)]),(8,.val false [.int .i64 y1.2])]∧(crJ a0 y1.2 (Int.fdiv y2.1 (2 ^ (min (tN (1:Int)) (IntKind.bits .u32)))) (wI (y2.2+(1:Int))))∧(crN a0 y1.2 (Int.fdiv y2.1 (2 ^ (min (tN (1:Int)) (IntKind.bits .u32)))) (wI (y2.2+(1:Int))))<(crN a0 y1.2 y2.1 y2.2)))) (eS [(0,.val false [.str a0]),(7,.val false [.int .i64 (ln a0)])] [(0,.val false [.str a0]),(7,.val false [.int .i64 (ln a0)])]∧(crI a0 y2.1 (wI (y1.2+(1:Int))))∧(crM a0 y2.1 (wI (y1.2+(1:Int))))<(crM a0 y1.1 y1.2))))))) (Eq ((wI (IntKind.wrap .u32 (BitVec.toNat (BitVec.ofInt (IntKind.bits .u32) (if IntKind.signed .u32 then -1 else IntKind.max .u32) ^^^ BitVec.ofInt (IntKind.bits .u32) y1.1)))),((),())) ((X6G a0),((),()))))))
def X2h.L(a0:U3q):Nat→Option X0g:=fun p=>Go.Proofs.Ytegmokdppbagiaa.Bv.look p [(58,{kp:={hold:=[0,7],slots:=[3,8],boxes:=[],rows:=[]},T:=(.pair (.int .u32) (.int .i64)),I:=fun st y=>crI a0 y.1 y.2,μ:=fun st y=>crM a0 y.1 y.2}),(29902,{kp:={hold:=[0,7,8],slots:=[3,17],boxes:=[],rows:=[]},T:=(.pair (.int .u32) (.int .i64)),I:=fun st y=>crJ a0 (intC (Xhx st 8 0)) y.1 y.2,μ:=fun st y=>crN a0 (intC (Xhx st 8 0)) y.1 y.2})]
theorem X2h.pure(a0:U3q)(h:(Xir a0))(hw:Wf X6d.A a0):X2h.F a0:=by
 delta X2h.F ln tN wI eS
 simp only[Bs,B0,B1,Prod.mk.injEq,X06]
 have hl:a0.length≤maxLen:=h
 unfold maxLen at hl
 refine⟨⟨by omega,by omega,rfl⟩,?_⟩
 rintro⟨c,i⟩ ⟨h1,h2,h3⟩
 simp only at h1 h2 h3 ⊢
 have hc:=XcT (a0.take i.toNat)
 refine⟨fun hi=>?_,fun hi=>?_⟩
 · have hb:=(a0.getD i.toNat 0).toNat_lt
   have hx:=X6l hc (show(a0.getD i.toNat 0).toNat<4294967296 by omega)
   rw[Go.IntWalk.u32_in ((a0.getD i.toNat 0).toNat:Int) (by omega),h3,Xiz hc (by omega)]
   refine⟨h1,hi,⟨h1,hi,by omega,by omega,rfl⟩,?_⟩
   rintro⟨c2,k⟩ ⟨q1,q2,q3,q4,q5⟩
   simp only at q1 q2 q3 q4 q5 ⊢
   have hcb:=X56 hx k.toNat
   refine⟨fun hk=>?_,fun hk=>?_⟩
   · have e1:IntKind.wrap .i64 (k+1)=k+1:=w64 (by omega) (by omega)
     have step:crJ a0 i ((X6V (X5l k.toNat (Xfr (a0.take i.toNat) ^^^ (a0.getD i.toNat 0).toNat)):Nat):Int) (k+1):=⟨h1,hi,by omega,by omega,by rw[tn1 q3];rfl⟩
     have eb:min (Int.toNat 1) (IntKind.bits .u32)=1:=by decide
     have e3:Int.fdiv c2 (2 ^ 1)=c2 / 2:=Int.fdiv_eq_ediv_of_nonneg _ (by omega)
     rw[e1,eb,e3,q5,and32 hcb,show((X5l k.toNat (Xfr (a0.take i.toNat) ^^^ (a0.getD i.toNat 0).toNat):Nat):Int) / 2=((X5l k.toNat (Xfr (a0.take i.toNat) ^^^ (a0.getD i.toNat 0).toNat) / 2:Nat):Int) by omega]
     refine⟨by omega,fun ho=>?_,fun ho=>?_⟩
     · rw[show(2197175160:Int)=((2197175160:Nat):Int) from rfl,Xiz (by omega) (by omega)]
       unfold X6V at step
       rw[if_pos (by omega)]at step
       exact⟨step,by unfold crN;omega⟩
     · unfold X6V at step
       rw[if_neg (by omega)]at step
       exact⟨step,by unfold crN;omega⟩
   · have e:k=8:=by omega
     subst e
     rw[w64 (x:=i+1) (by omega) (by omega)]
     refine⟨⟨by omega,by omega,?_⟩,by unfold crM;omega⟩
     rw[q5,tn1 h1,XeV a0 i.toNat (by omega)]
     rfl
 · have e:i.toNat=a0.length:=by omega
   rw[e,List.take_length]at h3
   have hc2:=XcT a0
   rw[h3]
   rw[not32 hc2,w64 (by omega) (by omega)]
   rfl
theorem X2h.eq:EqS X6d Try.f38 [3] [] [] (fun i x=>X2h.L x) (fun i x=>X2h.F x):=by intro i x;kernel_rfl
theorem X2h.ok:X11 Try.prog 38 X6d:=X3V X2h.eq Try.func38 rfl (by kernel_rfl) fun i x h hi hw=>X2h.pure x h hw
def X2h.e:GE:=⟨38,X6d,⟨_,Try.func38,rfl,rfl⟩,X2h.ok⟩
def X1W(b:List UInt8):List UInt8:=if fIn b.length 1 2000=true then X0s b.length 4++X0s (X6G (X0s b.length 4++b)) 4++b else []
theorem XaU(b:List UInt8):(X1W b).length≤2014:=by
 unfold X1W
 split
 · rename_i h
   simp only[fIn,Bool.and_eq_true,decide_eq_true_eq]at h
   have h1:=X2w b.length 4
   have h2:=X2w (X6G (X0s b.length 4++b)) 4
   simp only[List.length_append];omega
 · simp
theorem X0Z{a l h:Int}:fIn a l h=true↔l≤a∧a≤h:=by simp[fIn]
theorem Xdf{a l h:Int}:fIn a l h=false↔¬(l≤a∧a≤h):=by rw[←X0Z];simp
def X4m:Con:={A:=.str,shA:=[.one],R:=.str,shR:=[(false,1)],pre:=fun _ _=>True,f:=some fun _ a=>((X1W a),((),()))}
def X1O.F(a0:U3q):Prop:=(True∧∀r1,(Eq r1 ((fIn (ln a0) 1 2000),((),())))→(X04 (!r1.1) (Eq ([],((),())) ((X1W a0),((),()))) ((X7T (ln a0) 4)∧∀r2,(Eq r2 ((X0s (ln a0) 4),((),())))→(List.length r2.1+List.length a0≤9223372036854775807∧((Xir (r2.1++a0))∧∀r3,(Eq r3 ((X6G (r2.1++a0)),((),())))→((X7T r3.1 4)∧∀r4,(Eq r4 ((X0s r3.1 4),((),())))→(List.length r2.1+List.length r4.1≤9223372036854775807∧(List.length (r2.1++r4.1)+List.length a0≤9223372036854775807∧(Eq (((r2.1++r4.1)++a0),((),())) ((X1W a0),((),())))))))))))
theorem X1O.pure(a0:U3q)(h:True)(hw:Wf X4m.A a0):X1O.F a0:=by
 delta X1O.F ln
 have h1:=X2w a0.length 4
 have h2:=X2w (X6G (X0s a0.length 4++a0)) 4
 have h3:=X91 (X0s a0.length 4++a0)
 simp only[Bs,B0,B1,Prod.mk.injEq,X06,X7T,Xir,maxLen,X0Z,Xdf]
 repeat' (with_reducible (first | (refine And.intro ?_ ?_) | intro _))
 all_goals (try simp (disch:=omega) only[w64,wu8,tn0,tn1,tm1,tm2,List.length_append,List.length_cons,List.length_nil]at*)
 all_goals (try simp (disch:=omega) only[w64,wu8,tn0,tn1,tm1,tm2,List.length_append,List.length_cons,List.length_nil]at*)
 all_goals (try omega)
 all_goals (try grind[X1W,X0Z])
 all_goals (unfold X1W;rw[if_pos (X0Z.2 (by omega))])
theorem X1O.eq:EqS X4m Try.f82 [9] [X1n.e,X2h.e,X0O.e] [] noL (fun i x=>X1O.F x):=by intro i x;kernel_rfl
theorem X1O.ok:X11 Try.prog 82 X4m:=X3V X1O.eq Try.func82 rfl (by kernel_rfl) fun i x h hi hw=>X1O.pure x h hw
def X1O.e:GE:=⟨82,X4m,⟨_,Try.func82,rfl,rfl⟩,X1O.ok⟩
end Go.Proofs.Ytegmokdppbagiaa.B
