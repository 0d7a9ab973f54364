/- Buckets:deleted,sought,dealt out. -/
import Derived.Test.YtgmafgmjbaoomaaGreatCSt
import Derived.Test.YtgmafgmjbaoomaaGreatCMrgB
import Derived.Test.YtgmafgmjbaoomaaGreatCEngU
import Derived.Test.YtgmafgmjbaoomaaGreatCOp
import Derived.Test.YtgmafgmjbaoomaaGreatCBlk
set_option maxRecDepth 100000
set_option linter.unusedVariables false
set_option linter.unusedSimpArgs false
namespace Go.Proofs.YtgmafgmjbaoomaaGreat.B
open Go Go.Proofs.YtgmafgmjbaoomaaGreat.Bv
def X98(c:Int×(Int×Int))(p:Bkt):Bool:=X5F p.1 c.2.2
def XaT(l:List Bkt)(c:Int×(Int×Int)):Prop:=l.length≤1099511627776
def X5C(l:List Bkt)(c:Int×(Int×Int)):Int:=if l.findIdx (X98 c)<l.length then((l.findIdx (X98 c):Nat):Int) else -1
def XhC(l:List Bkt)(c:Int×(Int×Int))(i:Int):Prop:=0≤i∧i≤l.length∧∀j,j<i.toNat→X98 c (l.getD j (0,0))=false
def Xld(l:List Bkt)(c:Int×(Int×Int))(i:Int):Nat:=(l.length - i).toNat
theorem XkM{l:List Bkt}{c:Int×(Int×Int)}{i:Int}(h:XhC l c i)(hi:i<l.length)(hd:X98 c (l.getD i.toNat (0,0))=true):i=X5C l c:=by
 obtain⟨h1,h2,h3⟩:=h
 have e:l.findIdx (X98 c)=i.toNat:=by
  refine(List.findIdx_eq (by omega)).2 ⟨by rw[X1A (by omega)]at hd;exact hd,fun j hj=>?_⟩
  have:=h3 j hj
  rw[X1A (by omega)]at this;exact this
 unfold X5C
 rw[e,if_pos (by omega)];omega
theorem Xnr{l:List Bkt}{c:Int×(Int×Int)}{i:Int}(h:XhC l c i)(hi:¬i<l.length):-1=X5C l c:=by
 obtain⟨h1,h2,h3⟩:=h
 have e:¬l.findIdx (X98 c)<l.length:=fun hlt=>by
  have a:=List.findIdx_getElem (w:=hlt)
  have b:=h3 (l.findIdx (X98 c)) (by omega)
  rw[X1A hlt,a]at b;cases b
 unfold X5C
 rw[if_neg e]
def XdF(l:List Bkt)(c:Int×(Int×Int)):List Bkt:=l.filter fun p=>!X98 c p
structure Xix (l:List Bkt) (c:Int×(Int×Int)) (i j:Int) (s:List Bkt):Prop where
 h1:0≤i
 h2:i<j
 h3:j≤l.length
 h4:s.length=l.length
 h5:s.take i.toNat=(l.take j.toNat).filter fun p=>!X98 c p
 h6:s.drop j.toNat=l.drop j.toNat
def XnG(l:List Bkt)(c:Int×(Int×Int))(i j:Int)(s:List Bkt):Nat:=(l.length - j).toNat
theorem Xle{l:List Bkt}{c:Int×(Int×Int)}(h:¬X5C l c= -1):0≤X5C l c∧X5C l c<l.length∧Xix l c (X5C l c) (X5C l c+1) l:=by
 unfold X5C at h ⊢
 split at h
 · rename_i hlt
   rw[if_pos hlt]
   refine⟨by omega,by omega,⟨by omega,by omega,by omega,rfl,?_,rfl⟩⟩
   rw[tn1 (by omega),Int.toNat_natCast,X0S (0,0) hlt,List.filter_append]
   have a:=List.findIdx_getElem (w:=hlt)
   have hk:(l.take (l.findIdx (X98 c))).filter (fun p=>!X98 c p)=l.take (l.findIdx (X98 c)):=List.filter_eq_self.2 fun x hx=>by
    obtain⟨k,hk,e⟩:=List.getElem_of_mem hx
    rw[List.length_take]at hk
    have:=List.not_of_lt_findIdx (xs:=l) (p:=X98 c) (i:=k) (by omega)
    rw[List.getElem_take]at e
    rw[←e];simpa using this
   rw[hk,X1A hlt]
   simp[a]
 · exact absurd rfl h
theorem Xnu{l:List Bkt}{c:Int×(Int×Int)}(h:X5C l c= -1):l=XdF l c:=by
 unfold X5C at h
 split at h
 · omega
 · rename_i hn
   refine(List.filter_eq_self.2 fun x hx=>?_).symm
   have:=List.findIdx_eq_length.1 (Nat.le_antisymm (List.findIdx_le_length (p:=X98 c)) (by omega)) x hx
   simp[this]
theorem Xnv{l:List Bkt}{c:Int×(Int×Int)}{i j:Int}{s:List Bkt}(h:Xix l c i j s)(hj:j<l.length):s.getD j.toNat (0,0)=l.getD j.toNat (0,0):=by
 obtain⟨h1,h2,h3,h4,h5,h6⟩:=h
 have a:=X66 (0,0) (l:=s) (i:=j.toNat) (by omega)
 have b:=X66 (0,0) (l:=l) (i:=j.toNat) (by omega)
 rw[a,b]at h6
 exact(List.cons.inj h6).1
theorem XkL{l:List Bkt}{c:Int×(Int×Int)}{i j:Int}{s:List Bkt}(h:Xix l c i j s)(hj:j<l.length)(hd:X98 c (l.getD j.toNat (0,0))=false):Xix l c (i+1) (j+1) (s.set i.toNat (l.getD j.toNat (0,0))):=by
 obtain⟨h1,h2,h3,h4,h5,h6⟩:=h
 refine⟨by omega,by omega,by omega,by rw[List.length_set,h4],?_,?_⟩
 · rw[tn1 h1,tn1 (by omega:0≤j),X0S (0,0) (by omega:j.toNat<l.length),List.filter_append,←h5]
   have:(s.set i.toNat (l.getD j.toNat (0,0))).take (i.toNat+1)=s.take i.toNat++[l.getD j.toNat (0,0)]:=by
    rw[X0S (0,0) (by rw[List.length_set];omega),List.take_set_of_le (Nat.le_refl _)]
    congr 2
    rw[List.getD_eq_getElem?_getD,List.getElem?_set_self (by omega)];rfl
   rw[this]
   generalize l.getD j.toNat (0,0)=x at hd ⊢
   simp[hd]
 · rw[tn1 (by omega:0≤j),List.drop_set_of_lt (by omega),←List.drop_drop,h6,List.drop_drop]
theorem Xlq{l:List Bkt}{c:Int×(Int×Int)}{i j:Int}{s:List Bkt}(h:Xix l c i j s)(hj:j<l.length)(hd:X98 c (l.getD j.toNat (0,0))=true):Xix l c i (j+1) s:=by
 obtain⟨h1,h2,h3,h4,h5,h6⟩:=h
 refine⟨by omega,by omega,by omega,h4,?_,?_⟩
 · rw[tn1 (by omega:0≤j),X0S (0,0) (by omega:j.toNat<l.length),List.filter_append,←h5]
   generalize l.getD j.toNat (0,0)=x at hd ⊢
   simp[hd]
 · rw[tn1 (by omega:0≤j),←List.drop_drop,h6,List.drop_drop]
theorem Xnd{l:List Bkt}{c:Int×(Int×Int)}{i j:Int}{s r:List Bkt}(h:Xix l c i j s)(hj:¬j<l.length):List.take i.toNat (List.take i.toNat s++r)=XdF l c:=by
 obtain⟨h1,h2,h3,h4,h5,h6⟩:=h
 have e:j.toNat=l.length:=by omega
 rw[e,List.take_length]at h5
 rw[List.take_append_of_le_length (by rw[List.length_take];omega),List.take_take,Nat.min_self,h5];rfl
def X9l(c:Int×(Int×Int))(p:Int):Bool:=X5F p c.2.2
def XaZ(l:List Int)(c:Int×(Int×Int)):Prop:=l.length≤1099511627776
def X5z(l:List Int)(c:Int×(Int×Int)):Int:=if l.findIdx (X9l c)<l.length then((l.findIdx (X9l c):Nat):Int) else -1
def Xi8(l:List Int)(c:Int×(Int×Int))(i:Int):Prop:=0≤i∧i≤l.length∧∀j,j<i.toNat→X9l c (l.getD j 0)=false
def Xlp(l:List Int)(c:Int×(Int×Int))(i:Int):Nat:=(l.length - i).toNat
theorem XlV{l:List Int}{c:Int×(Int×Int)}{i:Int}(h:Xi8 l c i)(hi:i<l.length)(hd:X9l c (l.getD i.toNat 0)=true):i=X5z l c:=by
 obtain⟨h1,h2,h3⟩:=h
 have e:l.findIdx (X9l c)=i.toNat:=by
  refine(List.findIdx_eq (by omega)).2 ⟨by rw[X1A (by omega)]at hd;exact hd,fun j hj=>?_⟩
  have:=h3 j hj
  rw[X1A (by omega)]at this;exact this
 unfold X5z
 rw[e,if_pos (by omega)];omega
theorem XnN{l:List Int}{c:Int×(Int×Int)}{i:Int}(h:Xi8 l c i)(hi:¬i<l.length):-1=X5z l c:=by
 obtain⟨h1,h2,h3⟩:=h
 have e:¬l.findIdx (X9l c)<l.length:=fun hlt=>by
  have a:=List.findIdx_getElem (w:=hlt)
  have b:=h3 (l.findIdx (X9l c)) (by omega)
  rw[X1A hlt,a]at b;cases b
 unfold X5z
 rw[if_neg e]
def XbG(l:List Int)(c:Int×(Int×Int)):List Int:=l.filter fun p=>!X9l c p
structure Xiy (l:List Int) (c:Int×(Int×Int)) (i j:Int) (s:List Int):Prop where
 h1:0≤i
 h2:i<j
 h3:j≤l.length
 h4:s.length=l.length
 h5:s.take i.toNat=(l.take j.toNat).filter fun p=>!X9l c p
 h6:s.drop j.toNat=l.drop j.toNat
def XmY(l:List Int)(c:Int×(Int×Int))(i j:Int)(s:List Int):Nat:=(l.length - j).toNat
theorem Xla{l:List Int}{c:Int×(Int×Int)}(h:¬X5z l c= -1):0≤X5z l c∧X5z l c<l.length∧Xiy l c (X5z l c) (X5z l c+1) l:=by
 unfold X5z at h ⊢
 split at h
 · rename_i hlt
   rw[if_pos hlt]
   refine⟨by omega,by omega,⟨by omega,by omega,by omega,rfl,?_,rfl⟩⟩
   rw[tn1 (by omega),Int.toNat_natCast,X0S 0 hlt,List.filter_append]
   have a:=List.findIdx_getElem (w:=hlt)
   have hk:(l.take (l.findIdx (X9l c))).filter (fun p=>!X9l c p)=l.take (l.findIdx (X9l c)):=List.filter_eq_self.2 fun x hx=>by
    obtain⟨k,hk,e⟩:=List.getElem_of_mem hx
    rw[List.length_take]at hk
    have:=List.not_of_lt_findIdx (xs:=l) (p:=X9l c) (i:=k) (by omega)
    rw[List.getElem_take]at e
    rw[←e];simpa using this
   rw[hk,X1A hlt]
   simp[a]
 · exact absurd rfl h
theorem Xna{l:List Int}{c:Int×(Int×Int)}(h:X5z l c= -1):l=XbG l c:=by
 unfold X5z at h
 split at h
 · omega
 · rename_i hn
   refine(List.filter_eq_self.2 fun x hx=>?_).symm
   have:=List.findIdx_eq_length.1 (Nat.le_antisymm (List.findIdx_le_length (p:=X9l c)) (by omega)) x hx
   simp[this]
theorem Xnn{l:List Int}{c:Int×(Int×Int)}{i j:Int}{s:List Int}(h:Xiy l c i j s)(hj:j<l.length):s.getD j.toNat 0=l.getD j.toNat 0:=by
 obtain⟨h1,h2,h3,h4,h5,h6⟩:=h
 have a:=X66 0 (l:=s) (i:=j.toNat) (by omega)
 have b:=X66 0 (l:=l) (i:=j.toNat) (by omega)
 rw[a,b]at h6
 exact(List.cons.inj h6).1
theorem Xlc{l:List Int}{c:Int×(Int×Int)}{i j:Int}{s:List Int}(h:Xiy l c i j s)(hj:j<l.length)(hd:X9l c (l.getD j.toNat 0)=false):Xiy l c (i+1) (j+1) (s.set i.toNat (l.getD j.toNat 0)):=by
 obtain⟨h1,h2,h3,h4,h5,h6⟩:=h
 refine⟨by omega,by omega,by omega,by rw[List.length_set,h4],?_,?_⟩
 · rw[tn1 h1,tn1 (by omega:0≤j),X0S 0 (by omega:j.toNat<l.length),List.filter_append,←h5]
   have:(s.set i.toNat (l.getD j.toNat 0)).take (i.toNat+1)=s.take i.toNat++[l.getD j.toNat 0]:=by
    rw[X0S 0 (by rw[List.length_set];omega),List.take_set_of_le (Nat.le_refl _)]
    congr 2
    rw[List.getD_eq_getElem?_getD,List.getElem?_set_self (by omega)];rfl
   rw[this]
   generalize l.getD j.toNat 0=x at hd ⊢
   simp[hd]
 · rw[tn1 (by omega:0≤j),List.drop_set_of_lt (by omega),←List.drop_drop,h6,List.drop_drop]
theorem XlE{l:List Int}{c:Int×(Int×Int)}{i j:Int}{s:List Int}(h:Xiy l c i j s)(hj:j<l.length)(hd:X9l c (l.getD j.toNat 0)=true):Xiy l c i (j+1) s:=by
 obtain⟨h1,h2,h3,h4,h5,h6⟩:=h
 refine⟨by omega,by omega,by omega,h4,?_,?_⟩
 · rw[tn1 (by omega:0≤j),X0S 0 (by omega:j.toNat<l.length),List.filter_append,←h5]
   generalize l.getD j.toNat 0=x at hd ⊢
   simp[hd]
 · rw[tn1 (by omega:0≤j),←List.drop_drop,h6,List.drop_drop]
theorem Xn2{l:List Int}{c:Int×(Int×Int)}{i j:Int}{s r:List Int}(h:Xiy l c i j s)(hj:¬j<l.length):List.take i.toNat (List.take i.toNat s++r)=XbG l c:=by
 obtain⟨h1,h2,h3,h4,h5,h6⟩:=h
 have e:j.toNat=l.length:=by omega
 rw[e,List.take_length]at h5
 rw[List.take_append_of_le_length (by rw[List.length_take];omega),List.take_take,Nat.min_self,h5];rfl
def dlB(p:Bkt)(c:Int×(Int×Int)):Bool:=X98 c p
def XmU(p:Int)(c:Int×(Int×Int)):Bool:=X9l c p
def X4a:Con:={A:=(.pair T0q (.pair (.int .i64) T0q)),shA:=[.agg 2,.pptr 3],R:=.bool,shR:=[(false,1)],pre:=fun _ _=>True,f:=some fun _ a=>((dlB a.1 a.2),((),()))}
def X19.F(a0:(Int×Int))(a1:XfH):Prop:=(True∧∀r1,(Eq r1 ((X5F a0.1 a1.2.2),((),())))→(Eq (r1.1,((),())) ((dlB a0 a1),((),()))))
theorem X19.pure(a0:(Int×Int))(a1:XfH)(h:True)(hw:Wf X4a.A (a0,a1)):X19.F a0 a1:=by
 unfold X19.F
 simp only[Bs,B0,B1,Prod.mk.injEq,X03,dlB,X98]
theorem X19.eq:EqS X4a Tryz.f100 [4] [X3c.e] [] noL (fun i x=>X19.F x.1 x.2):=by intro i x;kernel_rfl
theorem X19.ok:X0o Tryz.prog 100 X4a:=X2u X19.eq Tryz.func100 rfl (by kernel_rfl) fun i x h hi hw=>X19.pure x.1 x.2 h hw
def X19.e:GE:=⟨100,X4a,⟨_,Tryz.func100,rfl,rfl⟩,X19.ok⟩
def X3O:Con:={A:=(.pair (.int .i64) (.pair (.int .i64) T0q)),shA:=[.one,.pptr 3],R:=.bool,shR:=[(false,1)],pre:=fun _ _=>True,f:=some fun _ a=>((XmU a.1 a.2),((),()))}
def X0U.F(a0:Int)(a1:XfH):Prop:=(True∧∀r1,(Eq r1 ((X5F a0 a1.2.2),((),())))→(Eq (r1.1,((),())) ((XmU a0 a1),((),()))))
theorem X0U.pure(a0:Int)(a1:XfH)(h:True)(hw:Wf X3O.A (a0,a1)):X0U.F a0 a1:=by
 unfold X0U.F
 simp only[Bs,B0,B1,Prod.mk.injEq,X03,XmU,X9l]
theorem X0U.eq:EqS X3O Tryz.f145 [4] [X3c.e] [] noL (fun i x=>X0U.F x.1 x.2):=by intro i x;kernel_rfl
theorem X0U.ok:X0o Tryz.prog 145 X3O:=X2u X0U.eq Tryz.func145 rfl (by kernel_rfl) fun i x h hi hw=>X0U.pure x.1 x.2 h hw
def X0U.e:GE:=⟨145,X3O,⟨_,Tryz.func145,rfl,rfl⟩,X0U.ok⟩
def X0z:Con:={A:=(.pair X60 (.pair (.int .i64) T0q)),shA:=[.one,.clop 100 3],R:=(.int .i64),shR:=[(false,1)],pre:=fun _ a=>(XaT a.1 a.2),f:=some fun _ a=>((X5C a.1 a.2),((),()))}
def X07.F(a0:U5q)(a1:XfH):Prop:=(eS [(0,.val false [.lst T0q a0 none]),(1,.fn 100 [] [.pptr [.int .i64 a1.1,.int .i64 a1.2.1,.int .i64 a1.2.2]]),(7,.val false [.int .i64 (ln a0)])] [(0,.val false [.lst T0q a0 none]),(1,.fn 100 [] [.pptr [.int .i64 a1.1,.int .i64 a1.2.1,.int .i64 a1.2.2]]),(7,.val false [.int .i64 (ln a0)])]∧((XhC a0 a1 0)∧∀(y1:Int),(XhC a0 a1 y1)→(X00 (decide (y1<(ln a0))) (0≤y1∧(y1<(ln a0)∧(True∧∀r2,(Eq r2 ((dlB ((List.getD a0 (tN y1) (0,0)).1,(List.getD a0 (tN y1) (0,0)).2) (a1.1,(a1.2.1,a1.2.2))),((),())))→(X00 r2.1 (Eq (y1,((),())) ((X5C a0 a1),((),()))) (eS [(0,.val false [.lst T0q a0 none]),(1,.fn 100 [] [.pptr [.int .i64 a1.1,.int .i64 a1.2.1,.int .i64 a1.2.2]]),(7,.val false [.int .i64 (ln a0)])] [(0,.val false [.lst T0q a0 none]),(1,.fn 100 [] [.pptr [.int .i64 a1.1,.int .i64 a1.2.1,.int .i64 a1.2.2]]),(7,.val false [.int .i64 (ln a0)])]∧(XhC a0 a1 (wI (y1+(1:Int))))∧(Xld a0 a1 (wI (y1+(1:Int))))<(Xld a0 a1 y1)))))) (Eq ((-1),((),())) ((X5C a0 a1),((),()))))))
def X07.L(a0:U5q)(a1:XfH):Nat→Option X0a:=fun p=>Go.Proofs.YtgmafgmjbaoomaaGreat.Bv.look p [(26,{kp:={hold:=[0,1,7],slots:=[8],boxes:=[],rows:=[]},T:=(.int .i64),I:=fun st y=>XhC a0 a1 y,μ:=fun st y=>Xld a0 a1 y})]
theorem X07.pure(a0:U5q)(a1:XfH)(h:(XaT a0 a1))(hw:Wf X0z.A (a0,a1)):X07.F a0 a1:=by
 delta X07.F ln tN wI eS
 simp only[Bs,B0,B1,Prod.mk.injEq,X03,Prod.eta,dlB]
 have hl:a0.length≤1099511627776:=h
 refine⟨⟨by omega,by omega,fun j hj=>absurd hj (by simp)⟩,?_⟩
 rintro i hI
 have q1:=hI.1
 have q2:=hI.2.1
 rw[w64 (x:=i+1) (by omega) (by omega)]
 refine⟨fun hi=>⟨q1,hi,fun hd=>XkM hI hi hd,fun hd=>⟨⟨by omega,by omega,fun j hj=>?_⟩,by unfold Xld;omega⟩⟩,fun hi=>Xnr hI hi⟩
 by_cases e:j=i.toNat
 · rw[e];exact hd
 · exact hI.2.2 j (by omega)
theorem X07.eq:EqS X0z Tryz.f150 [3] [X19.e] [] (fun i x=>X07.L x.1 x.2) (fun i x=>X07.F x.1 x.2):=by intro i x;kernel_rfl
theorem X07.ok:X0o Tryz.prog 150 X0z:=X2u X07.eq Tryz.func150 rfl (by kernel_rfl) fun i x h hi hw=>X07.pure x.1 x.2 h hw
def X07.e:GE:=⟨150,X0z,⟨_,Tryz.func150,rfl,rfl⟩,X07.ok⟩
def X0y:Con:={A:=(.pair X60 (.pair (.int .i64) T0q)),shA:=[.one,.clop 100 3],ownA:=[(0,43)],R:=X60,shR:=[(false,1)],fresh:=[(0,43)],pre:=fun _ a=>(XaT a.1 a.2),f:=some fun _ a=>((XdF a.1 a.2),((),()))}
def X06.F(a0:U5q)(a1:XfH):Prop:=((XaT a0 (a1.1,(a1.2.1,a1.2.2)))∧∀r1,(Eq r1 ((X5C a0 (a1.1,(a1.2.1,a1.2.2))),((),())))→(X00 (r1.1==((-1):Int)) (Eq (a0,((),())) ((XdF a0 a1),((),()))) (eS [(0,.val false [.own T0q 1000003]),(1,.fn 100 [] [.pptr [.int .i64 a1.1,.int .i64 a1.2.1,.int .i64 a1.2.2]])] [(0,.val false [.own T0q 1000003]),(1,.fn 100 [] [.pptr [.int .i64 a1.1,.int .i64 a1.2.1,.int .i64 a1.2.2]])]∧((Xix a0 a1 r1.1 (wI (r1.1+(1:Int))) a0)∧∀(y2:(Int×(Int×U5q))),(Xix a0 a1 y2.1 y2.2.1 y2.2.2)→(X00 (decide (y2.2.1<(ln y2.2.2))) (0≤y2.2.1∧(y2.2.1<(ln y2.2.2)∧(True∧∀r3,(Eq r3 ((dlB ((List.getD y2.2.2 (tN y2.2.1) (0,0)).1,(List.getD y2.2.2 (tN y2.2.1) (0,0)).2) (a1.1,(a1.2.1,a1.2.2))),((),())))→(X00 (!r3.1) (0≤y2.1∧(y2.1<(ln y2.2.2)∧(eS [(0,.val false [.own T0q 1000003]),(1,.fn 100 [] [.pptr [.int .i64 a1.1,.int .i64 a1.2.1,.int .i64 a1.2.2]])] [(0,.val false [.own T0q 1000003]),(1,.fn 100 [] [.pptr [.int .i64 a1.1,.int .i64 a1.2.1,.int .i64 a1.2.2]])]∧(Xix a0 a1 (wI (y2.1+(1:Int))) (wI (y2.2.1+(1:Int))) (List.set y2.2.2 (tN y2.1) ((List.getD y2.2.2 (tN y2.2.1) (0,0)).1,(List.getD y2.2.2 (tN y2.2.1) (0,0)).2)))∧(XnG a0 a1 (wI (y2.1+(1:Int))) (wI (y2.2.1+(1:Int))) (List.set y2.2.2 (tN y2.1) ((List.getD y2.2.2 (tN y2.2.1) (0,0)).1,(List.getD y2.2.2 (tN y2.2.1) (0,0)).2)))<(XnG a0 a1 y2.1 y2.2.1 y2.2.2)))) (eS [(0,.val false [.own T0q 1000003]),(1,.fn 100 [] [.pptr [.int .i64 a1.1,.int .i64 a1.2.1,.int .i64 a1.2.2]])] [(0,.val false [.own T0q 1000003]),(1,.fn 100 [] [.pptr [.int .i64 a1.1,.int .i64 a1.2.1,.int .i64 a1.2.2]])]∧(Xix a0 a1 y2.1 (wI (y2.2.1+(1:Int))) y2.2.2)∧(XnG a0 a1 y2.1 (wI (y2.2.1+(1:Int))) y2.2.2)<(XnG a0 a1 y2.1 y2.2.1 y2.2.2)))))) (0≤y2.1∧(y2.1≤(ln y2.2.2)∧((tN y2.1)≤(List.length y2.2.2)∧((List.length y2.2.2)≤List.length y2.2.2∧(0≤y2.1∧(y2.1≤(ln (List.take (tN y2.1) y2.2.2++(List.replicate ((List.length y2.2.2) - (tN y2.1)) ((0:Int),(0:Int))++List.drop (List.length y2.2.2) y2.2.2)))∧(Eq ((List.take (tN y2.1) (List.take (tN y2.1) y2.2.2++(List.replicate ((List.length y2.2.2) - (tN y2.1)) ((0:Int),(0:Int))++List.drop (List.length y2.2.2) y2.2.2))),((),())) ((XdF a0 a1),((),()))))))))))))))
def X06.L(a0:U5q)(a1:XfH):Nat→Option X0a:=fun p=>Go.Proofs.YtgmafgmjbaoomaaGreat.Bv.look p [(122,{kp:={hold:=[0,1],slots:=[5,6],boxes:=[],rows:=[{bx:=false,s:=0,i:=0,k:=1000003,e:=43,hot:=true}]},T:=(.pair (.int .i64) (.pair (.int .i64) X60)),I:=fun st y=>Xix a0 a1 y.1 y.2.1 y.2.2,μ:=fun st y=>XnG a0 a1 y.1 y.2.1 y.2.2})]
theorem X06.pure(a0:U5q)(a1:XfH)(h:(XaT a0 a1))(hw:Wf X0y.A (a0,a1)):X06.F a0 a1:=by
 delta X06.F ln tN wI eS
 simp only[Bs,B0,B1,Prod.mk.injEq,X03,Prod.eta,XaT,dlB]
 have hl:a0.length≤1099511627776:=h
 refine⟨hl,fun h1=>Xnu h1,fun h1=>?_⟩
 obtain⟨z1,z2,z3⟩:=Xle h1
 rw[w64 (x:=X5C a0 a1+1) (by omega) (by omega)]
 refine⟨z3,?_⟩
 rintro⟨i,j,s⟩ hI
 simp only at hI ⊢
 have q1:=hI.h1
 have q2:=hI.h2
 have q3:=hI.h3
 have q4:=hI.h4
 refine⟨fun hj=>?_,fun hj=>?_⟩
 · have hj':j<(a0.length:Int):=by omega
   have hg:=Xnv hI hj'
   rw[w64 (x:=i+1) (by omega) (by omega),w64 (x:=j+1) (by omega) (by omega)]
   simp only[hg]
   refine⟨by omega,by omega,fun hd=>⟨by omega,by omega,XkL hI hj' hd,by unfold XnG;omega⟩,fun hd=>⟨Xlq hI hj' hd,by unfold XnG;omega⟩⟩
 · have hj':¬j<(a0.length:Int):=by omega
   have he:=fun r=>Xnd (r:=r) hI hj'
   exact⟨by omega,by omega,by omega,by omega,by omega,by simp only[List.length_take,List.length_replicate,List.length_drop];omega,he _⟩
theorem X06.eq:EqS X0y Tryz.f99 [24] [X19.e,X07.e] [41] (fun i x=>X06.L x.1 x.2) (fun i x=>X06.F x.1 x.2):=by intro i x;kernel_rfl
theorem X06.ok:X0o Tryz.prog 99 X0y:=X2u X06.eq Tryz.func99 rfl (by kernel_rfl) fun i x h hi hw=>X06.pure x.1 x.2 h hw
def X06.e:GE:=⟨99,X0y,⟨_,Tryz.func99,rfl,rfl⟩,X06.ok⟩
def X2a:Con:={A:=(.pair X8Z (.pair (.int .i64) T0q)),shA:=[.one,.clop 145 3],R:=(.int .i64),shR:=[(false,1)],pre:=fun _ a=>(XaZ a.1 a.2),f:=some fun _ a=>((X5z a.1 a.2),((),()))}
def X0i.F(a0:(List Int))(a1:XfH):Prop:=(eS [(0,.val false [.lst (.int .i64) a0 none]),(1,.fn 145 [] [.pptr [.int .i64 a1.1,.int .i64 a1.2.1,.int .i64 a1.2.2]]),(7,.val false [.int .i64 (ln a0)])] [(0,.val false [.lst (.int .i64) a0 none]),(1,.fn 145 [] [.pptr [.int .i64 a1.1,.int .i64 a1.2.1,.int .i64 a1.2.2]]),(7,.val false [.int .i64 (ln a0)])]∧((Xi8 a0 a1 0)∧∀(y1:Int),(Xi8 a0 a1 y1)→(X00 (decide (y1<(ln a0))) (0≤y1∧(y1<(ln a0)∧(True∧∀r2,(Eq r2 ((XmU (List.getD a0 (tN y1) 0) (a1.1,(a1.2.1,a1.2.2))),((),())))→(X00 r2.1 (Eq (y1,((),())) ((X5z a0 a1),((),()))) (eS [(0,.val false [.lst (.int .i64) a0 none]),(1,.fn 145 [] [.pptr [.int .i64 a1.1,.int .i64 a1.2.1,.int .i64 a1.2.2]]),(7,.val false [.int .i64 (ln a0)])] [(0,.val false [.lst (.int .i64) a0 none]),(1,.fn 145 [] [.pptr [.int .i64 a1.1,.int .i64 a1.2.1,.int .i64 a1.2.2]]),(7,.val false [.int .i64 (ln a0)])]∧(Xi8 a0 a1 (wI (y1+(1:Int))))∧(Xlp a0 a1 (wI (y1+(1:Int))))<(Xlp a0 a1 y1)))))) (Eq ((-1),((),())) ((X5z a0 a1),((),()))))))
def X0i.L(a0:(List Int))(a1:XfH):Nat→Option X0a:=fun p=>Go.Proofs.YtgmafgmjbaoomaaGreat.Bv.look p [(26,{kp:={hold:=[0,1,7],slots:=[8],boxes:=[],rows:=[]},T:=(.int .i64),I:=fun st y=>Xi8 a0 a1 y,μ:=fun st y=>Xlp a0 a1 y})]
theorem X0i.pure(a0:(List Int))(a1:XfH)(h:(XaZ a0 a1))(hw:Wf X2a.A (a0,a1)):X0i.F a0 a1:=by
 delta X0i.F ln tN wI eS
 simp only[Bs,B0,B1,Prod.mk.injEq,X03,Prod.eta,XmU]
 have hl:a0.length≤1099511627776:=h
 refine⟨⟨by omega,by omega,fun j hj=>absurd hj (by simp)⟩,?_⟩
 rintro i hI
 have q1:=hI.1
 have q2:=hI.2.1
 rw[w64 (x:=i+1) (by omega) (by omega)]
 refine⟨fun hi=>⟨q1,hi,fun hd=>XlV hI hi hd,fun hd=>⟨⟨by omega,by omega,fun j hj=>?_⟩,by unfold Xlp;omega⟩⟩,fun hi=>XnN hI hi⟩
 by_cases e:j=i.toNat
 · rw[e];exact hd
 · exact hI.2.2 j (by omega)
theorem X0i.eq:EqS X2a Tryz.f181 [3] [X0U.e] [] (fun i x=>X0i.L x.1 x.2) (fun i x=>X0i.F x.1 x.2):=by intro i x;kernel_rfl
theorem X0i.ok:X0o Tryz.prog 181 X2a:=X2u X0i.eq Tryz.func181 rfl (by kernel_rfl) fun i x h hi hw=>X0i.pure x.1 x.2 h hw
def X0i.e:GE:=⟨181,X2a,⟨_,Tryz.func181,rfl,rfl⟩,X0i.ok⟩
def X20:Con:={A:=(.pair X8Z (.pair (.int .i64) T0q)),shA:=[.one,.clop 145 3],ownA:=[(0,3)],R:=X8Z,shR:=[(false,1)],fresh:=[(0,3)],pre:=fun _ a=>(XaZ a.1 a.2),f:=some fun _ a=>((XbG a.1 a.2),((),()))}
def X0g.F(a0:(List Int))(a1:XfH):Prop:=((XaZ a0 (a1.1,(a1.2.1,a1.2.2)))∧∀r1,(Eq r1 ((X5z a0 (a1.1,(a1.2.1,a1.2.2))),((),())))→(X00 (r1.1==((-1):Int)) (Eq (a0,((),())) ((XbG a0 a1),((),()))) (eS [(0,.val false [.own (.int .i64) 1000003]),(1,.fn 145 [] [.pptr [.int .i64 a1.1,.int .i64 a1.2.1,.int .i64 a1.2.2]])] [(0,.val false [.own (.int .i64) 1000003]),(1,.fn 145 [] [.pptr [.int .i64 a1.1,.int .i64 a1.2.1,.int .i64 a1.2.2]])]∧((Xiy a0 a1 r1.1 (wI (r1.1+(1:Int))) a0)∧∀(y2:(Int×(Int×(List Int)))),(Xiy a0 a1 y2.1 y2.2.1 y2.2.2)→(X00 (decide (y2.2.1<(ln y2.2.2))) (0≤y2.2.1∧(y2.2.1<(ln y2.2.2)∧(True∧∀r3,(Eq r3 ((XmU (List.getD y2.2.2 (tN y2.2.1) 0) (a1.1,(a1.2.1,a1.2.2))),((),())))→(X00 (!r3.1) (0≤y2.1∧(y2.1<(ln y2.2.2)∧(eS [(0,.val false [.own (.int .i64) 1000003]),(1,.fn 145 [] [.pptr [.int .i64 a1.1,.int .i64 a1.2.1,.int .i64 a1.2.2]])] [(0,.val false [.own (.int .i64) 1000003]),(1,.fn 145 [] [.pptr [.int .i64 a1.1,.int .i64 a1.2.1,.int .i64 a1.2.2]])]∧(Xiy a0 a1 (wI (y2.1+(1:Int))) (wI (y2.2.1+(1:Int))) (List.set y2.2.2 (tN y2.1) (List.getD y2.2.2 (tN y2.2.1) 0)))∧(XmY a0 a1 (wI (y2.1+(1:Int))) (wI (y2.2.1+(1:Int))) (List.set y2.2.2 (tN y2.1) (List.getD y2.2.2 (tN y2.2.1) 0)))<(XmY a0 a1 y2.1 y2.2.1 y2.2.2)))) (eS [(0,.val false [.own (.int .i64) 1000003]),(1,.fn 145 [] [.pptr [.int .i64 a1.1,.int .i64 a1.2.1,.int .i64 a1.2.2]])] [(0,.val false [.own (.int .i64) 1000003]),(1,.fn 145 [] [.pptr [.int .i64 a1.1,.int .i64 a1.2.1,.int .i64 a1.2.2]])]∧(Xiy a0 a1 y2.1 (wI (y2.2.1+(1:Int))) y2.2.2)∧(XmY a0 a1 y2.1 (wI (y2.2.1+(1:Int))) y2.2.2)<(XmY a0 a1 y2.1 y2.2.1 y2.2.2)))))) (0≤y2.1∧(y2.1≤(ln y2.2.2)∧((tN y2.1)≤(List.length y2.2.2)∧((List.length y2.2.2)≤List.length y2.2.2∧(0≤y2.1∧(y2.1≤(ln (List.take (tN y2.1) y2.2.2++(List.replicate ((List.length y2.2.2) - (tN y2.1)) (0:Int)++List.drop (List.length y2.2.2) y2.2.2)))∧(Eq ((List.take (tN y2.1) (List.take (tN y2.1) y2.2.2++(List.replicate ((List.length y2.2.2) - (tN y2.1)) (0:Int)++List.drop (List.length y2.2.2) y2.2.2))),((),())) ((XbG a0 a1),((),()))))))))))))))
def X0g.L(a0:(List Int))(a1:XfH):Nat→Option X0a:=fun p=>Go.Proofs.YtgmafgmjbaoomaaGreat.Bv.look p [(122,{kp:={hold:=[0,1],slots:=[5,6],boxes:=[],rows:=[{bx:=false,s:=0,i:=0,k:=1000003,e:=3,hot:=true}]},T:=(.pair (.int .i64) (.pair (.int .i64) X8Z)),I:=fun st y=>Xiy a0 a1 y.1 y.2.1 y.2.2,μ:=fun st y=>XmY a0 a1 y.1 y.2.1 y.2.2})]
theorem X0g.pure(a0:(List Int))(a1:XfH)(h:(XaZ a0 a1))(hw:Wf X20.A (a0,a1)):X0g.F a0 a1:=by
 delta X0g.F ln tN wI eS
 simp only[Bs,B0,B1,Prod.mk.injEq,X03,Prod.eta,XaZ,XmU]
 have hl:a0.length≤1099511627776:=h
 refine⟨hl,fun h1=>Xna h1,fun h1=>?_⟩
 obtain⟨z1,z2,z3⟩:=Xla h1
 rw[w64 (x:=X5z a0 a1+1) (by omega) (by omega)]
 refine⟨z3,?_⟩
 rintro⟨i,j,s⟩ hI
 simp only at hI ⊢
 have q1:=hI.h1
 have q2:=hI.h2
 have q3:=hI.h3
 have q4:=hI.h4
 refine⟨fun hj=>?_,fun hj=>?_⟩
 · have hj':j<(a0.length:Int):=by omega
   have hg:=Xnn hI hj'
   rw[w64 (x:=i+1) (by omega) (by omega),w64 (x:=j+1) (by omega) (by omega)]
   simp only[hg]
   refine⟨by omega,by omega,fun hd=>⟨by omega,by omega,Xlc hI hj' hd,by unfold XmY;omega⟩,fun hd=>⟨XlE hI hj' hd,by unfold XmY;omega⟩⟩
 · have hj':¬j<(a0.length:Int):=by omega
   have he:=fun r=>Xn2 (r:=r) hI hj'
   exact⟨by omega,by omega,by omega,by omega,by omega,by simp only[List.length_take,List.length_replicate,List.length_drop];omega,he _⟩
theorem X0g.eq:EqS X20 Tryz.f144 [139] [X0U.e,X0i.e] [41] (fun i x=>X0g.L x.1 x.2) (fun i x=>X0g.F x.1 x.2):=by intro i x;kernel_rfl
theorem X0g.ok:X0o Tryz.prog 144 X20:=X2u X0g.eq Tryz.func144 rfl (by kernel_rfl) fun i x h hi hw=>X0g.pure x.1 x.2 h hw
def X0g.e:GE:=⟨144,X20,⟨_,Tryz.func144,rfl,rfl⟩,X0g.ok⟩
end Go.Proofs.YtgmafgmjbaoomaaGreat.B
