/- Numbers of fixed width,sums,frames. -/
import Derived.Test.YtgmafgmjbaoomaaGreatCNum
set_option maxRecDepth 100000
set_option linter.unusedVariables false
set_option linter.unusedSimpArgs false
namespace Go.Proofs.YtgmafgmjbaoomaaGreat.B
open Go Go.Proofs.YtgmafgmjbaoomaaGreat.Bv
def fx:Nat→Nat→List Int
 | 0,_=>[]
 | w+1,n=>fx w (n / 256)++[((n % 256:Nat):Int)]
theorem X7k:∀w n,(fx w n).length=w
 | 0,_=>rfl
 | w+1,n=>by simp[fx,X7k w]
def X93(n w:Int):Prop:=n≤9223372036854775807
def X14(n w:Int):List UInt8:=if fIn w 1 7=true∧0≤n∧n<256 ^ w.toNat then X1Q (fx w.toNat n.toNat) else []
theorem X3V(n w:Int):(X14 n w).length≤7:=by
 unfold X14
 split
 · rename_i h
   have:=h.1
   simp only[fIn,Bool.and_eq_true,decide_eq_true_eq]at this
   simp only[X1Q,List.length_map,X7k];omega
 · simp
theorem X90(a b:List Int):X1Q (a++b)=X1Q a++X1Q b:=by simp[X1Q]
def fxI(n0 w n:Int)(out:List UInt8)(i:Int):Prop:=0≤i∧i≤w∧1≤w∧w≤7∧0≤n0∧n=n0 / 256 ^ i.toNat∧(out.length:Int)=i∧X1Q (fx (w - i).toNat n.toNat)++out=X1Q (fx w.toNat n0.toNat)
def fxM(n0 w n:Int)(out:List UInt8)(i:Int):Nat:=(w - i).toNat
def fxJ(n0 w i:Int)(out:List Int):Prop:=-1≤i∧i<w∧1≤w∧w≤7∧0≤n0∧n0<256 ^ w.toNat∧out=fx (w - 1 - i).toNat (n0 / 256 ^ (i+1).toNat).toNat
def fxN(n0 w i:Int)(out:List Int):Nat:=(i+1).toNat
theorem Xgs(x:Int):IntKind.wrap .u8 x=x % 256:=IntKind.wrap_u8 x
theorem XoR(i:Nat):(2:Int) ^ (8*i)=256 ^ i:=by rw[Int.pow_mul];rfl
theorem X63(i:Nat):(0:Int)<256 ^ i:=Int.pow_pos (by omega)
theorem XaY(n:Int)(i:Nat):n / 256 ^ (i+1)=n / 256 ^ i / 256:=by
 rw[Int.pow_succ,Int.ediv_ediv_of_nonneg (Int.le_of_lt (X63 i))]
theorem X9S{n:Int}(h:0≤n)(i:Nat):0≤n / 256 ^ i:=Int.ediv_nonneg h (Int.le_of_lt (X63 i))
theorem Xjt(w:Nat){n:Int}(h:0≤n):fx (w+1) n.toNat=fx w (n / 256).toNat++[n % 256]:=by
 have e1:n.toNat / 256=(n / 256).toNat:=by omega
 have e2:((n.toNat % 256:Nat):Int)=n % 256:=by omega
 simp only[fx,e1,e2]
theorem XdJ{n w:Int}(h:fIn w 1 7=false):[]=X14 n w:=by simp[X14,h]
theorem Xd8{n w:Int}(h:n<0):[]=X14 n w:=by unfold X14;rw[if_neg (by omega)]
def X6t:Con:={A:=T0q,shA:=[.one,.one],R:=.str,shR:=[(false,1)],pre:=fun _ a=>(X93 a.1 a.2),f:=some fun _ a=>((X14 a.1 a.2),((),()))}
def X2G.F(a0:Int)(a1:Int):Prop:=(True∧∀r1,(Eq r1 ((fIn a1 1 7),((),())))→(X00 (!r1.1) (Eq ([],((),())) ((X14 a0 a1),((),()))) (X00 (decide (a0<(0:Int))) (Eq ([],((),())) ((X14 a0 a1),((),()))) (eS [(1,.val false [.int .i64 a1])] [(1,.val false [.int .i64 a1])]∧((fxI a0 a1 a0 [] 0)∧∀(y2:(Int×(U4q×Int))),(fxI a0 a1 y2.1 y2.2.1 y2.2.2)→(X00 (decide (y2.2.2<a1)) ((256:Int)≠0∧(List.length (List.map (fun n=>UInt8.ofNat (Int.toNat n)) [(IntKind.wrap .u8 (Int.tmod y2.1 (256:Int)))])+List.length y2.2.1≤9223372036854775807∧((256:Int)≠0∧(eS [(1,.val false [.int .i64 a1])] [(1,.val false [.int .i64 a1])]∧(fxI a0 a1 (wI (Int.tdiv y2.1 (256:Int))) ((List.map (fun n=>UInt8.ofNat (Int.toNat n)) [(IntKind.wrap .u8 (Int.tmod y2.1 (256:Int)))])++y2.2.1) (wI (y2.2.2+(1:Int))))∧(fxM a0 a1 (wI (Int.tdiv y2.1 (256:Int))) ((List.map (fun n=>UInt8.ofNat (Int.toNat n)) [(IntKind.wrap .u8 (Int.tmod y2.1 (256:Int)))])++y2.2.1) (wI (y2.2.2+(1:Int))))<(fxM a0 a1 y2.1 y2.2.1 y2.2.2))))) (X00 (decide (y2.1>(0:Int))) (Eq ([],((),())) ((X14 a0 a1),((),()))) (Eq (y2.2.1,((),())) ((X14 a0 a1),((),()))))))))))
def X2G.L(a0:Int)(a1:Int):Nat→Option X0a:=fun p=>Go.Proofs.YtgmafgmjbaoomaaGreat.Bv.look p [(122,{kp:={hold:=[1],slots:=[0,5,6],boxes:=[],rows:=[]},T:=(.pair (.int .i64) Xir),I:=fun st y=>fxI a0 a1 y.1 y.2.1 y.2.2,μ:=fun st y=>fxM a0 a1 y.1 y.2.1 y.2.2})]
theorem X2G.pure(a0:Int)(a1:Int)(h:(X93 a0 a1))(hw:Wf X6t.A (a0,a1)):X2G.F a0 a1:=by
 delta X2G.F wI eS
 have h0:=h
 have hin:fIn a1 1 7=true→1≤a1∧a1≤7:=fun h=>by simpa [fIn] using h
 simp only[Bs,B0,B1,Prod.mk.injEq,X03]
 refine⟨fun h=>XdJ h,fun h=>⟨fun h2=>Xd8 h2,fun h2=>?_⟩⟩
 obtain⟨h3,h4⟩:=hin h
 refine⟨⟨by omega,by omega,h3,h4,by omega,by simp,rfl,by simp⟩,?_⟩
 rintro⟨n,out,i⟩ ⟨k1,k2,k3,k4,k5,k6,k7,k8⟩
 simp only at k1 k2 k3 k4 k5 k6 k7 k8 ⊢
 have hn:0≤n:=by rw[k6];exact X9S k5 _
 refine⟨fun hi=>?_,fun hi=>?_⟩
 · have e1:Int.tmod n 256=n % 256:=Int.tmod_eq_emod_of_nonneg hn
   have e2:Int.tdiv n 256=n / 256:=Int.tdiv_eq_ediv_of_nonneg hn
   have hp:=X63 i.toNat
   have hle:n≤a0:=by rw[k6];exact Int.ediv_le_self _ k5
   have hp1:a0≤9223372036854775807:=h0
   rw[e1,e2,wu8 (by omega) (by omega),w64 (by omega) (by omega),w64 (x:=i+1) (by omega) (by omega)]
   refine⟨by omega,by simp;omega,by omega,⟨by omega,by omega,k3,k4,k5,?_,by simp;omega,?_⟩,by unfold fxM;omega⟩
   · rw[tn1 k1,XaY,←k6]
   · have e3:(a1 - i).toNat=(a1 - (i+1)).toNat+1:=by omega
     rw[e3,Xjt _ hn,X90,List.append_assoc]at k8
     exact k8
 · have e:i=a1:=by omega
   subst e
   rw[Int.sub_self]at k8
   simp only[Int.toNat_zero,fx,X1Q,List.map_nil,List.nil_append]at k8
   refine⟨fun h5=>?_,fun h5=>?_⟩
   · unfold X14
     rw[if_neg]
     rintro⟨_,_,h6⟩
     have:n=0:=by rw[k6];exact Int.ediv_eq_zero_of_lt k5 h6
     omega
   · have h8:a0<256 ^ i.toNat:=by
      have h7:n=0:=by omega
      rw[k6]at h7
      have:=Int.lt_ediv_add_one_mul_self a0 (X63 i.toNat)
      rw[h7]at this;omega
     unfold X14
     rw[if_pos ⟨h,k5,h8⟩]
     exact k8
theorem X2G.eq:EqS X6t Tryz.f164 [9] [X1j.e] [] (fun i x=>X2G.L x.1 x.2) (fun i x=>X2G.F x.1 x.2):=by intro i x;kernel_rfl
theorem X2G.ok:X0o Tryz.prog 164 X6t:=X2u X2G.eq Tryz.func164 rfl (by kernel_rfl) fun i x h hi hw=>X2G.pure x.1 x.2 h hw
def X2G.e:GE:=⟨164,X6t,⟨_,Tryz.func164,rfl,rfl⟩,X2G.ok⟩
def X6v:Con:={A:=T0q,shA:=[.one,.one],R:=.str,shR:=[(false,1)],pre:=fun _ a=>(X93 a.1 a.2),f:=some fun _ a=>((X14 a.1 a.2),((),()))}
def X2N.F(a0:Int)(a1:Int):Prop:=(True∧∀r1,(Eq r1 ((fIn a1 1 7),((),())))→(X00 (!r1.1) (Eq ([],((),())) ((X14 a0 a1),((),()))) (X00 (decide (a0<(0:Int))) (Eq ([],((),())) ((X14 a0 a1),((),()))) (0≤(wI ((8:Int)*a1))∧(X00 ((Int.fdiv a0 (2 ^ (min (tN (wI ((8:Int)*a1))) (IntKind.bits .i64))))!=(0:Int)) (Eq ([],((),())) ((X14 a0 a1),((),()))) (eS [(0,.val false [.int .i64 a0])] [(0,.val false [.int .i64 a0])]∧((fxJ a0 a1 (wI (a1 - (1:Int))) ([]:List Int))∧∀(y2:(Int×(List Int))),(fxJ a0 a1 y2.1 y2.2)→(X00 (decide (y2.1≥(0:Int))) (0≤(wI ((8:Int)*y2.1))∧(List.length y2.2+List.length [(IntKind.wrap .u8 (Int.fdiv a0 (2 ^ (min (tN (wI ((8:Int)*y2.1))) (IntKind.bits .i64)))))]≤9223372036854775807∧((List.length y2.2+List.length [(IntKind.wrap .u8 (Int.fdiv a0 (2 ^ (min (tN (wI ((8:Int)*y2.1))) (IntKind.bits .i64)))))])*1≤140737488355328∧(eS [(0,.val false [.int .i64 a0])] [(0,.val false [.int .i64 a0])]∧(fxJ a0 a1 (wI (y2.1 - (1:Int))) (y2.2++[(IntKind.wrap .u8 (Int.fdiv a0 (2 ^ (min (tN (wI ((8:Int)*y2.1))) (IntKind.bits .i64)))))]))∧(fxN a0 a1 (wI (y2.1 - (1:Int))) (y2.2++[(IntKind.wrap .u8 (Int.fdiv a0 (2 ^ (min (tN (wI ((8:Int)*y2.1))) (IntKind.bits .i64)))))]))<(fxN a0 a1 y2.1 y2.2))))) (Eq ((List.map (fun n=>UInt8.ofNat (Int.toNat n)) y2.2),((),())) ((X14 a0 a1),((),())))))))))))
def X2N.L(a0:Int)(a1:Int):Nat→Option X0a:=fun p=>Go.Proofs.YtgmafgmjbaoomaaGreat.Bv.look p [(122,{kp:={hold:=[0],slots:=[5,6],boxes:=[],rows:=[{bx:=false,s:=5,i:=0,k:=1000643,e:=5,hot:=true}]},T:=(.pair (.int .i64) (.list (.int .u8))),I:=fun st y=>fxJ a0 a1 y.1 y.2,μ:=fun st y=>fxN a0 a1 y.1 y.2})]
theorem X2N.pure(a0:Int)(a1:Int)(h:(X93 a0 a1))(hw:Wf X6v.A (a0,a1)):X2N.F a0 a1:=by
 delta X2N.F tN wI eS
 have h0:=h
 have hin:fIn a1 1 7=true→1≤a1∧a1≤7:=fun h=>by simpa [fIn] using h
 simp only[Bs,B0,B1,Prod.mk.injEq,X03]
 refine⟨fun h=>XdJ h,fun h=>⟨fun h2=>Xd8 h2,fun h2=>?_⟩⟩
 obtain⟨h3,h4⟩:=hin h
 have eb:IntKind.bits .i64=64:=rfl
 have e8:∀x:Int,0≤x→x≤7→(2:Int) ^ (min (IntKind.wrap .i64 (8*x)).toNat (IntKind.bits .i64))=256 ^ x.toNat:=fun x q1 q2=>by
  rw[w64 (by omega) (by omega),eb,show min (8*x).toNat 64=8*x.toNat by omega,XoR]
 have ef:∀x:Int,0≤x→x≤7→Int.fdiv a0 (2 ^ (min (IntKind.wrap .i64 (8*x)).toNat (IntKind.bits .i64)))=a0 / 256 ^ x.toNat:=fun x q1 q2=>by
  rw[e8 x q1 q2];exact Int.fdiv_eq_ediv_of_nonneg _ (Int.le_of_lt (X63 _))
 rw[ef a1 (by omega) (by omega)]
 refine⟨by rw[w64 (by omega) (by omega)];omega,fun h5=>?_,fun h5=>?_⟩
 · unfold X14
   rw[if_neg]
   rintro⟨_,_,h6⟩
   exact h5 (Int.ediv_eq_zero_of_lt (by omega) h6)
 have h6:a0<256 ^ a1.toNat:=by
  have:=Int.lt_ediv_add_one_mul_self a0 (X63 a1.toNat)
  rw[h5]at this;omega
 refine⟨⟨by rw[w64 (by omega) (by omega)];omega,by rw[w64 (by omega) (by omega)];omega,h3,h4,by omega,h6,by rw[w64 (by omega) (by omega),show(a1 - 1 - (a1 - 1)).toNat=0 by omega];rfl⟩,?_⟩
 rintro⟨i,out⟩ ⟨k1,k2,k3,k4,k5,k6,k7⟩
 simp only at k1 k2 k3 k4 k5 k6 k7 ⊢
 have hl:out.length=(a1 - 1 - i).toNat:=by rw[k7,X7k]
 refine⟨fun hi=>?_,fun hi=>?_⟩
 · rw[ef i hi (by omega),w64 (x:=8*i) (by omega) (by omega),w64 (x:=i - 1) (by omega) (by omega),Xgs]
   have hd:=X9S k5 i.toNat
   refine⟨by omega,by omega,by omega,⟨by omega,by omega,k3,k4,k5,k6,?_⟩,by unfold fxN;omega⟩
   have e1:(a1 - 1 - (i - 1)).toNat=(a1 - 1 - i).toNat+1:=by omega
   have e2:(i - 1+1).toNat=i.toNat:=by omega
   rw[e1,e2,Xjt _ hd,k7,tn1 hi,XaY]
 · have e:i= -1:=by omega
   subst e
   have e1:(a1 - 1 - -1).toNat=a1.toNat:=by omega
   rw[e1]at k7
   unfold X14
   rw[if_pos ⟨h,k5,k6⟩,k7]
   show X1Q _=_
   rw[show((-1:Int)+1).toNat=0 from rfl,Int.pow_zero,Int.ediv_one]
theorem X2N.eq:EqS X6v Tryz.f188 [9] [X0A.e] [] (fun i x=>X2N.L x.1 x.2) (fun i x=>X2N.F x.1 x.2):=by intro i x;kernel_rfl
theorem X2N.ok:X0o Tryz.prog 188 X6v:=X2u X2N.eq Tryz.func188 rfl (by kernel_rfl) fun i x h hi hw=>X2N.pure x.1 x.2 h hw
def X2N.e:GE:=⟨188,X6v,⟨_,Tryz.func188,rfl,rfl⟩,X2N.ok⟩
def Xa4(c:Nat):Nat:=if c % 2=1 then(c / 2) ^^^ 2197175160 else c / 2
def X7B:Nat→Nat→Nat
 | 0,c=>c
 | k+1,c=>Xa4 (X7B k c)
def Xez(c:Nat)(b:UInt8):Nat:=X7B 8 (c ^^^ b.toNat)
def Xiq(s:List UInt8):Nat:=s.foldl Xez 4294967295
def XeC(s:List UInt8):Int:=4294967295 - (Xiq s:Int)
theorem XcH{a b:Nat}(h:a<4294967296)(h':b<4294967296):a ^^^ b<4294967296:=Nat.xor_lt_two_pow (n:=32) h h'
theorem XiN{c:Nat}(h:c<4294967296):Xa4 c<4294967296:=by
 unfold Xa4;split
 · exact XcH (by omega) (by omega)
 · omega
theorem X8G{c:Nat}(h:c<4294967296):∀k,X7B k c<4294967296
 | 0=>h
 | k+1=>XiN (X8G h k)
theorem Xii{c:Nat}(b:UInt8)(h:c<4294967296):Xez c b<4294967296:=X8G (XcH h (by have:=b.toNat_lt;omega)) 8
theorem XgL:∀(s:List UInt8) (c:Nat),c<4294967296→s.foldl Xez c<4294967296
 | [],_,h=>h
 | b::s,c,h=>XgL s _ (Xii b h)
theorem Xcb(s:List UInt8):Xiq s<4294967296:=XgL s _ (by omega)
theorem Xg2(s:List UInt8):0≤XeC s∧XeC s≤4294967295:=by have:=Xcb s;unfold XeC;omega
theorem XeK(s:List UInt8)(i:Nat)(h:i<s.length):Xiq (s.take (i+1))=Xez (Xiq (s.take i)) (s.getD i 0):=by
 rw[X0S 0 h];simp[Xiq]
theorem bv64(x:Nat)(h:x<4294967296):(BitVec.ofInt 64 (x:Int)).toNat=x:=by
 rw[BitVec.toNat_ofInt];omega
theorem Xo6(x:Nat)(h:x<4294967296):(BitVec.ofInt 32 (x:Int)).toNat=x:=by
 rw[BitVec.toNat_ofInt];omega
theorem XoP{x y:Nat}(hx:x<4294967296)(hy:y<4294967296):IntKind.wrap .i64 ((BitVec.ofInt (IntKind.bits .i64) (x:Int) ^^^ BitVec.ofInt (IntKind.bits .i64) (y:Int)).toNat:Int)=((x ^^^ y:Nat):Int):=by
 show IntKind.wrap .i64 ((BitVec.ofInt 64 (x:Int) ^^^ BitVec.ofInt 64 (y:Int)).toNat:Int)=_
 have:=XcH hx hy
 rw[BitVec.toNat_xor,bv64 x hx,bv64 y hy,w64 (by omega) (by omega)]
theorem XoG{x y:Nat}(hx:x<4294967296)(hy:y<4294967296):IntKind.wrap .u32 ((BitVec.ofInt (IntKind.bits .u32) (x:Int) ^^^ BitVec.ofInt (IntKind.bits .u32) (y:Int)).toNat:Int)=((x ^^^ y:Nat):Int):=by
 show IntKind.wrap .u32 ((BitVec.ofInt 32 (x:Int) ^^^ BitVec.ofInt 32 (y:Int)).toNat:Int)=_
 have:=XcH hx hy
 rw[BitVec.toNat_xor,Xo6 x hx,Xo6 y hy,Go.IntWalk.u32_in _ (by omega)]
theorem and32{x:Nat}(hx:x<4294967296):IntKind.wrap .u32 ((BitVec.ofInt (IntKind.bits .u32) (x:Int)&&&BitVec.ofInt (IntKind.bits .u32) 1).toNat:Int)=((x % 2:Nat):Int):=by
 show IntKind.wrap .u32 ((BitVec.ofInt 32 (x:Int)&&&BitVec.ofInt 32 ((1:Nat):Int)).toNat:Int)=_
 rw[BitVec.toNat_and,Xo6 x hx,Xo6 1 (by omega),Nat.and_one_is_mod,Go.IntWalk.u32_in _ (by omega)]
theorem not32{x:Nat}(hx:x<4294967296):IntKind.wrap .u32 ((BitVec.ofInt (IntKind.bits .u32) (if IntKind.signed .u32 then -1 else IntKind.max .u32) ^^^ BitVec.ofInt (IntKind.bits .u32) (x:Int)).toNat:Int)=4294967295 - (x:Int):=by
 show IntKind.wrap .u32 ((BitVec.ofInt 32 ((4294967295:Nat):Int) ^^^ BitVec.ofInt 32 (x:Int)).toNat:Int)=_
 have h2:=XcH (a:=4294967295) (b:=x) (by omega) hx
 have h3:4294967295 ^^^ x=4294967295 - x:=by
  have h4:(~~~ (BitVec.ofNat 32 x)).toNat=(BitVec.ofNat 32 4294967295 ^^^ BitVec.ofNat 32 x).toNat:=by
   congr 1
  rw[BitVec.toNat_not,BitVec.toNat_xor,BitVec.toNat_ofNat,BitVec.toNat_ofNat,Nat.mod_eq_of_lt (by omega),Nat.mod_eq_of_lt (by omega)]at h4
  omega
 rw[BitVec.toNat_xor,Xo6 x hx,Xo6 _ (by omega),h3,Go.IntWalk.u32_in _ (by omega)]
 omega
def XmK(s:List UInt8):Prop:=s.length≤maxLen
def crI(s:List UInt8)(c i:Int):Prop:=0≤i∧i≤s.length∧c=((Xiq (s.take i.toNat):Nat):Int)
def crM(s:List UInt8)(c i:Int):Nat:=(s.length - i).toNat
def crJ(s:List UInt8)(i c k:Int):Prop:=0≤i∧i<s.length∧0≤k∧k≤8∧c=((X7B k.toNat (Xiq (s.take i.toNat) ^^^ (s.getD i.toNat 0).toNat):Nat):Int)
def crN(s:List UInt8)(i c k:Int):Nat:=(8 - k).toNat
def X8R:Con:={A:=.str,shA:=[.one],R:=(.int .i64),shR:=[(false,1)],pre:=fun _ a=>(XmK a),f:=some fun _ a=>((XeC a),((),()))}
def X3Q.F(a0:U4q):Prop:=(eS [(0,.val false [.str a0])] [(0,.val false [.str a0])]∧((crI a0 4294967295 0)∧∀(y1:(Int×Int)),(crI a0 y1.1 y1.2)→(X00 (decide (y1.2<(ln a0))) (0≤y1.2∧(y1.2<(ln a0)∧(eS [(0,.val false [.str a0]),(4,.val false [.int .i64 y1.2])] [(0,.val false [.str a0]),(4,.val false [.int .i64 y1.2])]∧((crJ a0 y1.2 (IntKind.wrap .i64 (BitVec.toNat (BitVec.ofInt (IntKind.bits .i64) y1.1 ^^^ BitVec.ofInt (IntKind.bits .i64) (wI ((UInt8.toNat (List.getD a0 (tN y1.2) 0):Nat):Int))))) 0)∧∀(y2:(Int×Int)),(crJ a0 y1.2 y2.1 y2.2)→(X00 (decide (y2.2<(8:Int))) ((2:Int)≠0∧((2:Int)≠0∧(X00 ((Int.tmod y2.1 (2:Int))==(1:Int)) (eS [(0,.val false [.str a0]),(4,.val false [.int .i64 y1.2])] [(0,.val false [.str a0]),(4,.val false [.int .i64 y1.2])]∧(crJ a0 y1.2 (IntKind.wrap .i64 (BitVec.toNat (BitVec.ofInt (IntKind.bits .i64) (wI (Int.tdiv y2.1 (2:Int))) ^^^ BitVec.ofInt (IntKind.bits .i64) (2197175160:Int)))) (wI (y2.2+(1:Int))))∧(crN a0 y1.2 (IntKind.wrap .i64 (BitVec.toNat (BitVec.ofInt (IntKind.bits .i64) (wI (Int.tdiv y2.1 (2:Int))) ^^^ BitVec.ofInt (IntKind.bits .i64) (2197175160:Int)))) (wI (y2.2+(1:Int))))<(crN a0 y1.2 y2.1 y2.2)) (eS [(0,.val false [.str a0]),(4,.val false [.int .i64 y1.2])] [(0,.val false [.str a0]),(4,.val false [.int .i64 y1.2])]∧(crJ a0 y1.2 (wI (Int.tdiv y2.1 (2:Int))) (wI (y2.2+(1:Int))))∧(crN a0 y1.2 (wI (Int.tdiv y2.1 (2:Int))) (wI (y2.2+(1:Int))))<(crN a0 y1.2 y2.1 y2.2))))) (eS [(0,.val false [.str a0])] [(0,.val false [.str a0])]∧(crI a0 y2.1 (wI (y1.2+(1:Int))))∧(crM a0 y2.1 (wI (y1.2+(1:Int))))<(crM a0 y1.1 y1.2))))))) (Eq ((wI ((4294967295:Int) - y1.1)),((),())) ((XeC a0),((),()))))))
def X3Q.L(a0:U4q):Nat→Option X0a:=fun p=>Go.Proofs.YtgmafgmjbaoomaaGreat.Bv.look p [(58,{kp:={hold:=[0],slots:=[3,4],boxes:=[],rows:=[]},T:=T0q,I:=fun st y=>crI a0 y.1 y.2,μ:=fun st y=>crM a0 y.1 y.2}),(7462,{kp:={hold:=[0,4],slots:=[3,5],boxes:=[],rows:=[]},T:=T0q,I:=fun st y=>crJ a0 (XdC (X2w st 4 0)) y.1 y.2,μ:=fun st y=>crN a0 (XdC (X2w st 4 0)) y.1 y.2})]
theorem X3Q.pure(a0:U4q)(h:(XmK a0))(hw:Wf X8R.A a0):X3Q.F a0:=by
 delta X3Q.F ln tN wI eS
 simp only[Bs,B0,B1,Prod.mk.injEq,X03]
 have hl:a0.length≤maxLen:=h
 unfold maxLen at hl
 refine⟨⟨by omega,by omega,rfl⟩,?_⟩
 rintro⟨c,i⟩ ⟨h1,h2,h3⟩
 simp only at h1 h2 h3 ⊢
 have hc:=Xcb (a0.take i.toNat)
 refine⟨fun hi=>?_,fun hi=>?_⟩
 · have hb:=(a0.getD i.toNat 0).toNat_lt
   have hx:=XcH hc (show(a0.getD i.toNat 0).toNat<4294967296 by omega)
   rw[w64 (x:=((a0.getD i.toNat 0).toNat:Int)) (by omega) (by omega),h3,XoP hc (by omega)]
   refine⟨h1,hi,⟨h1,hi,by omega,by omega,rfl⟩,?_⟩
   rintro⟨c2,k⟩ ⟨q1,q2,q3,q4,q5⟩
   simp only at q1 q2 q3 q4 q5 ⊢
   have hcb:=X8G hx k.toNat
   refine⟨fun hk=>?_,fun hk=>?_⟩
   · have e1:IntKind.wrap .i64 (k+1)=k+1:=w64 (by omega) (by omega)
     have step:crJ a0 i ((Xa4 (X7B k.toNat (Xiq (a0.take i.toNat) ^^^ (a0.getD i.toNat 0).toNat)):Nat):Int) (k+1):=⟨h1,hi,by omega,by omega,by rw[tn1 q3];rfl⟩
     have e2:Int.tmod c2 2=c2 % 2:=Int.tmod_eq_emod_of_nonneg (by omega)
     have e3:Int.tdiv c2 2=c2 / 2:=Int.tdiv_eq_ediv_of_nonneg (by omega)
     rw[e1,e2,e3,w64 (x:=c2 / 2) (by omega) (by omega),show c2 / 2=((X7B k.toNat (Xiq (a0.take i.toNat) ^^^ (a0.getD i.toNat 0).toNat) / 2:Nat):Int) by omega]
     refine⟨by omega,by omega,fun ho=>?_,fun ho=>?_⟩
     · rw[show(2197175160:Int)=((2197175160:Nat):Int) from rfl,XoP (by omega) (by omega)]
       unfold Xa4 at step
       rw[if_pos (by omega)]at step
       exact⟨step,by unfold crN;omega⟩
     · unfold Xa4 at step
       rw[if_neg (by omega)]at step
       exact⟨step,by unfold crN;omega⟩
   · have e:k=8:=by omega
     subst e
     rw[w64 (x:=i+1) (by omega) (by omega)]
     refine⟨⟨by omega,by omega,?_⟩,by unfold crM;omega⟩
     rw[q5,tn1 h1,XeK a0 i.toNat (by omega)]
     rfl
 · have e:i.toNat=a0.length:=by omega
   rw[e,List.take_length]at h3
   have hc2:=Xcb a0
   rw[h3]
   rw[w64 (by omega) (by omega)]
   rfl
theorem X3Q.eq:EqS X8R Tryz.f165 [3] [] [] (fun i x=>X3Q.L x) (fun i x=>X3Q.F x):=by intro i x;kernel_rfl
theorem X3Q.ok:X0o Tryz.prog 165 X8R:=X2u X3Q.eq Tryz.func165 rfl (by kernel_rfl) fun i x h hi hw=>X3Q.pure x h hw
def X3Q.e:GE:=⟨165,X8R,⟨_,Tryz.func165,rfl,rfl⟩,X3Q.ok⟩
def X8H:Con:={A:=.str,shA:=[.one],R:=(.int .i64),shR:=[(false,1)],pre:=fun _ a=>(XmK a),f:=some fun _ a=>((XeC a),((),()))}
def X3R.F(a0:U4q):Prop:=(eS [(0,.val false [.str a0]),(7,.val false [.int .i64 (ln a0)])] [(0,.val false [.str a0]),(7,.val false [.int .i64 (ln a0)])]∧((crI a0 4294967295 0)∧∀(y1:(Int×Int)),(crI a0 y1.1 y1.2)→(X00 (decide (y1.2<(ln a0))) (0≤y1.2∧(y1.2<(ln a0)∧(eS [(0,.val false [.str a0]),(7,.val false [.int .i64 (ln a0)]),(8,.val false [.int .i64 y1.2])] [(0,.val false [.str a0]),(7,.val false [.int .i64 (ln a0)]),(8,.val false [.int .i64 y1.2])]∧((crJ a0 y1.2 (IntKind.wrap .u32 (BitVec.toNat (BitVec.ofInt (IntKind.bits .u32) y1.1 ^^^ BitVec.ofInt (IntKind.bits .u32) (IntKind.wrap .u32 ((UInt8.toNat (List.getD a0 (tN y1.2) 0):Nat):Int))))) 0)∧∀(y2:(Int×Int)),(crJ a0 y1.2 y2.1 y2.2)→(X00 (decide (y2.2<(8:Int))) (0≤(1:Int)∧(X00 ((IntKind.wrap .u32 (BitVec.toNat (BitVec.ofInt (IntKind.bits .u32) y2.1&&&BitVec.ofInt (IntKind.bits .u32) (1:Int))))==(1:Int)) (eS [(0,.val false [.str a0]),(7,.val false [.int .i64 (ln a0)]),(8,.val false [.int .i64 y1.2])] [(0,.val false [.str a0]),(7,.val false [.int .i64 (ln a0)]),(8,.val false [.int .i64 y1.2])]∧(crJ a0 y1.2 (IntKind.wrap .u32 (BitVec.toNat (BitVec.ofInt (IntKind.bits .u32) (Int.fdiv y2.1 (2 ^ (min (tN (1:Int)) (IntKind.bits .u32)))) ^^^ BitVec.ofInt (IntKind.bits .u32) (2197175160:Int)))) (wI (y2.2+(1:Int))))∧(crN a0 y1.2 (IntKind.wrap .u32 (BitVec.toNat (BitVec.ofInt (IntKind.bits .u32) (Int.fdiv y2.1 (2 ^ (min (tN (1:Int)) (IntKind.bits .u32)))) ^^^ BitVec.ofInt (IntKind.bits .u32) (2197175160:Int)))) (wI (y2.2+(1:Int))))<(crN a0 y1.2 y2.1 y2.2)) (eS [(0,.val false [.str a0]),(7,.val false [.int .i64 (ln a0)]),(8,.val false [.int .i64 y1.2])] [(0,.val false [.str a0]),(7,.val false [.int .i64 (ln a0)]),(8,.val false [.int .i64 y1.2])]∧(crJ a0 y1.2 (Int.fdiv y2.1 (2 ^ (min (tN (1:Int)) (IntKind.bits .u32)))) (wI (y2.2+(1:Int))))∧(crN a0 y1.2 (Int.fdiv y2.1 (2 ^ (min (tN (1:Int)) (IntKind.bits .u32)))) (wI (y2.2+(1:Int))))<(crN a0 y1.2 y2.1 y2.2)))) (eS [(0,.val false [.str a0]),(7,.val false [.int .i64 (ln a0)])] [(0,.val false [.str a0]),(7,.val false [.int .i64 (ln a0)])]∧(crI a0 y2.1 (wI (y1.2+(1:Int))))∧(crM a0 y2.1 (wI (y1.2+(1:Int))))<(crM a0 y1.1 y1.2))))))) (Eq ((wI (IntKind.wrap .u32 (BitVec.toNat (BitVec.ofInt (IntKind.bits .u32) (if IntKind.signed .u32 then -1 else IntKind.max .u32) ^^^ BitVec.ofInt (IntKind.bits .u32) y1.1)))),((),())) ((XeC a0),((),()))))))
def X3R.L(a0:U4q):Nat→Option X0a:=fun p=>Go.Proofs.YtgmafgmjbaoomaaGreat.Bv.look p [(58,{kp:={hold:=[0,7],slots:=[3,8],boxes:=[],rows:=[]},T:=(.pair (.int .u32) (.int .i64)),I:=fun st y=>crI a0 y.1 y.2,μ:=fun st y=>crM a0 y.1 y.2}),(29902,{kp:={hold:=[0,7,8],slots:=[3,17],boxes:=[],rows:=[]},T:=(.pair (.int .u32) (.int .i64)),I:=fun st y=>crJ a0 (XdC (X2w st 8 0)) y.1 y.2,μ:=fun st y=>crN a0 (XdC (X2w st 8 0)) y.1 y.2})]
theorem X3R.pure(a0:U4q)(h:(XmK a0))(hw:Wf X8H.A a0):X3R.F a0:=by
 delta X3R.F ln tN wI eS
 simp only[Bs,B0,B1,Prod.mk.injEq,X03]
 have hl:a0.length≤maxLen:=h
 unfold maxLen at hl
 refine⟨⟨by omega,by omega,rfl⟩,?_⟩
 rintro⟨c,i⟩ ⟨h1,h2,h3⟩
 simp only at h1 h2 h3 ⊢
 have hc:=Xcb (a0.take i.toNat)
 refine⟨fun hi=>?_,fun hi=>?_⟩
 · have hb:=(a0.getD i.toNat 0).toNat_lt
   have hx:=XcH hc (show(a0.getD i.toNat 0).toNat<4294967296 by omega)
   rw[Go.IntWalk.u32_in ((a0.getD i.toNat 0).toNat:Int) (by omega),h3,XoG hc (by omega)]
   refine⟨h1,hi,⟨h1,hi,by omega,by omega,rfl⟩,?_⟩
   rintro⟨c2,k⟩ ⟨q1,q2,q3,q4,q5⟩
   simp only at q1 q2 q3 q4 q5 ⊢
   have hcb:=X8G hx k.toNat
   refine⟨fun hk=>?_,fun hk=>?_⟩
   · have e1:IntKind.wrap .i64 (k+1)=k+1:=w64 (by omega) (by omega)
     have step:crJ a0 i ((Xa4 (X7B k.toNat (Xiq (a0.take i.toNat) ^^^ (a0.getD i.toNat 0).toNat)):Nat):Int) (k+1):=⟨h1,hi,by omega,by omega,by rw[tn1 q3];rfl⟩
     have eb:min (Int.toNat 1) (IntKind.bits .u32)=1:=by decide
     have e3:Int.fdiv c2 (2 ^ 1)=c2 / 2:=Int.fdiv_eq_ediv_of_nonneg _ (by omega)
     rw[e1,eb,e3,q5,and32 hcb,show((X7B k.toNat (Xiq (a0.take i.toNat) ^^^ (a0.getD i.toNat 0).toNat):Nat):Int) / 2=((X7B k.toNat (Xiq (a0.take i.toNat) ^^^ (a0.getD i.toNat 0).toNat) / 2:Nat):Int) by omega]
     refine⟨by omega,fun ho=>?_,fun ho=>?_⟩
     · rw[show(2197175160:Int)=((2197175160:Nat):Int) from rfl,XoG (by omega) (by omega)]
       unfold Xa4 at step
       rw[if_pos (by omega)]at step
       exact⟨step,by unfold crN;omega⟩
     · unfold Xa4 at step
       rw[if_neg (by omega)]at step
       exact⟨step,by unfold crN;omega⟩
   · have e:k=8:=by omega
     subst e
     rw[w64 (x:=i+1) (by omega) (by omega)]
     refine⟨⟨by omega,by omega,?_⟩,by unfold crM;omega⟩
     rw[q5,tn1 h1,XeK a0 i.toNat (by omega)]
     rfl
 · have e:i.toNat=a0.length:=by omega
   rw[e,List.take_length]at h3
   have hc2:=Xcb a0
   rw[h3]
   rw[not32 hc2,w64 (by omega) (by omega)]
   rfl
theorem X3R.eq:EqS X8H Tryz.f189 [3] [] [] (fun i x=>X3R.L x) (fun i x=>X3R.F x):=by intro i x;kernel_rfl
theorem X3R.ok:X0o Tryz.prog 189 X8H:=X2u X3R.eq Tryz.func189 rfl (by kernel_rfl) fun i x h hi hw=>X3R.pure x h hw
def X3R.e:GE:=⟨189,X8H,⟨_,Tryz.func189,rfl,rfl⟩,X3R.ok⟩
def X28(b:List UInt8):List UInt8:=if fIn b.length 1 2000=true then X14 b.length 4++X14 (XeC (X14 b.length 4++b)) 4++b else []
theorem XdZ(b:List UInt8):(X28 b).length≤2014:=by
 unfold X28
 split
 · rename_i h
   simp only[fIn,Bool.and_eq_true,decide_eq_true_eq]at h
   have h1:=X3V b.length 4
   have h2:=X3V (XeC (X14 b.length 4++b)) 4
   simp only[List.length_append];omega
 · simp
theorem X0u{a l h:Int}:fIn a l h=true↔l≤a∧a≤h:=by simp[fIn]
theorem XbN{a l h:Int}:fIn a l h=false↔¬(l≤a∧a≤h):=by rw[←X0u];simp
def X6J:Con:={A:=.str,shA:=[.one],R:=.str,shR:=[(false,1)],pre:=fun _ _=>True,f:=some fun _ a=>((X28 a),((),()))}
def X2W.F(a0:U4q):Prop:=(X00 ((ln a0)==(0:Int)) (Eq ([],((),())) ((X28 a0),((),()))) (X00 (decide ((ln a0)>(2000:Int))) (Eq ([],((),())) ((X28 a0),((),()))) ((X93 (ln a0) 4)∧∀r1,(Eq r1 ((X14 (ln a0) 4),((),())))→(List.length r1.1+List.length a0≤9223372036854775807∧((XmK (r1.1++a0))∧∀r2,(Eq r2 ((XeC (r1.1++a0)),((),())))→((X93 r2.1 4)∧∀r3,(Eq r3 ((X14 r2.1 4),((),())))→(List.length r1.1+List.length r3.1≤9223372036854775807∧(List.length (r1.1++r3.1)+List.length a0≤9223372036854775807∧(Eq (((r1.1++r3.1)++a0),((),())) ((X28 a0),((),())))))))))))
theorem X2W.pure(a0:U4q)(h:True)(hw:Wf X6J.A a0):X2W.F a0:=by
 delta X2W.F ln
 have h1:=X3V a0.length 4
 have h2:=X3V (XeC (X14 a0.length 4++a0)) 4
 have h3:=Xg2 (X14 a0.length 4++a0)
 simp only[Bs,B0,B1,Prod.mk.injEq,X03,X93,XmK,maxLen]
 repeat' (with_reducible (first | (refine And.intro ?_ ?_) | intro _))
 all_goals (try simp (disch:=omega) only[w64,wu8,tn0,tn1,tm1,tm2,List.length_append,List.length_cons,List.length_nil]at*)
 all_goals (try simp (disch:=omega) only[w64,wu8,tn0,tn1,tm1,tm2,List.length_append,List.length_cons,List.length_nil]at*)
 all_goals (try omega)
 all_goals (try grind[X28,X0u])
 all_goals (unfold X28;rw[if_pos (X0u.2 (by omega))])
theorem X2W.eq:EqS X6J Tryz.f118 [9] [X2G.e,X3Q.e] [] noL (fun i x=>X2W.F x):=by intro i x;kernel_rfl
theorem X2W.ok:X0o Tryz.prog 118 X6J:=X2u X2W.eq Tryz.func118 rfl (by kernel_rfl) fun i x h hi hw=>X2W.pure x h hw
def X2W.e:GE:=⟨118,X6J,⟨_,Tryz.func118,rfl,rfl⟩,X2W.ok⟩
def X6M:Con:={A:=.str,shA:=[.one],R:=.str,shR:=[(false,1)],pre:=fun _ _=>True,f:=some fun _ a=>((X28 a),((),()))}
def X2V.F(a0:U4q):Prop:=(True∧∀r1,(Eq r1 ((fIn (ln a0) 1 2000),((),())))→(X00 (!r1.1) (Eq ([],((),())) ((X28 a0),((),()))) ((X93 (ln a0) 4)∧∀r2,(Eq r2 ((X14 (ln a0) 4),((),())))→(List.length r2.1+List.length a0≤9223372036854775807∧((XmK (r2.1++a0))∧∀r3,(Eq r3 ((XeC (r2.1++a0)),((),())))→((X93 r3.1 4)∧∀r4,(Eq r4 ((X14 r3.1 4),((),())))→(List.length r2.1+List.length r4.1≤9223372036854775807∧(List.length (r2.1++r4.1)+List.length a0≤9223372036854775807∧(Eq (((r2.1++r4.1)++a0),((),())) ((X28 a0),((),())))))))))))
theorem X2V.pure(a0:U4q)(h:True)(hw:Wf X6M.A a0):X2V.F a0:=by
 delta X2V.F ln
 have h1:=X3V a0.length 4
 have h2:=X3V (XeC (X14 a0.length 4++a0)) 4
 have h3:=Xg2 (X14 a0.length 4++a0)
 simp only[Bs,B0,B1,Prod.mk.injEq,X03,X93,XmK,maxLen,X0u,XbN]
 repeat' (with_reducible (first | (refine And.intro ?_ ?_) | intro _))
 all_goals (try simp (disch:=omega) only[w64,wu8,tn0,tn1,tm1,tm2,List.length_append,List.length_cons,List.length_nil]at*)
 all_goals (try simp (disch:=omega) only[w64,wu8,tn0,tn1,tm1,tm2,List.length_append,List.length_cons,List.length_nil]at*)
 all_goals (try omega)
 all_goals (try grind[X28,X0u])
 all_goals (unfold X28;rw[if_pos (X0u.2 (by omega))])
theorem X2V.eq:EqS X6M Tryz.f153 [9] [X0A.e,X2N.e,X3R.e] [] noL (fun i x=>X2V.F x):=by intro i x;kernel_rfl
theorem X2V.ok:X0o Tryz.prog 153 X6M:=X2u X2V.eq Tryz.func153 rfl (by kernel_rfl) fun i x h hi hw=>X2V.pure x h hw
def X2V.e:GE:=⟨153,X6M,⟨_,Tryz.func153,rfl,rfl⟩,X2V.ok⟩
end Go.Proofs.YtgmafgmjbaoomaaGreat.B
