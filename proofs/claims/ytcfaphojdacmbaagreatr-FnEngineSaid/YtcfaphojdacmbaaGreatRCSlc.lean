/- Points sliced. -/
import Derived.Test.YtcfaphojdacmbaaGreatRCMrgA
set_option maxRecDepth 100000
set_option linter.unusedVariables false
set_option linter.unusedSimpArgs false
namespace Go.Proofs.YtcfaphojdacmbaaGreatR.B
open Go Go.Proofs.YtcfaphojdacmbaaGreatR.Bv
def XoH(p:Pt)(lo hi:Int):Bool:=decide (p.1<lo)||decide (p.1≥hi)
def Xk0(c:Int×Int)(p:Pt):Bool:=XoH p c.1 c.2
def XhA(l:List Pt)(c:Int×Int):Prop:=l.length≤1099511627776
def Xa6(l:List Pt)(c:Int×Int):Int:=if l.findIdx (Xk0 c)<l.length then((l.findIdx (Xk0 c):Nat):Int) else -1
def Xqo(l:List Pt)(c:Int×Int)(i:Int):Prop:=0≤i∧i≤l.length∧∀j,j<i.toNat→Xk0 c (l.getD j (0,0))=false
def ixdM(l:List Pt)(c:Int×Int)(i:Int):Nat:=(l.length - i).toNat
theorem Xpl{l:List Pt}{c:Int×Int}{i:Int}(h:Xqo l c i)(hi:i<l.length)(hd:Xk0 c (l.getD i.toNat (0,0))=true):i=Xa6 l c:=by
 obtain⟨h1,h2,h3⟩:=h
 have e:l.findIdx (Xk0 c)=i.toNat:=by
  refine(List.findIdx_eq (by omega)).2 ⟨by rw[X0R (by omega)]at hd;exact hd,fun j hj=>?_⟩
  have:=h3 j hj
  rw[X0R (by omega)]at this;exact this
 unfold Xa6
 rw[e,if_pos (by omega)];omega
theorem Xrd{l:List Pt}{c:Int×Int}{i:Int}(h:Xqo l c i)(hi:¬i<l.length):-1=Xa6 l c:=by
 obtain⟨h1,h2,h3⟩:=h
 have e:¬l.findIdx (Xk0 c)<l.length:=fun hlt=>by
  have a:=List.findIdx_getElem (w:=hlt)
  have b:=h3 (l.findIdx (Xk0 c)) (by omega)
  rw[X0R hlt,a]at b;cases b
 unfold Xa6
 rw[if_neg e]
def XhD(l:List Pt)(c:Int×Int):List Pt:=l.filter fun p=>!Xk0 c p
structure dlI (l:List Pt) (c:Int×Int) (i j:Int) (s:List Pt):Prop where
 h1:0≤i
 h2:i<j
 h3:j≤l.length
 h4:s.length=l.length
 h5:s.take i.toNat=(l.take j.toNat).filter fun p=>!Xk0 c p
 h6:s.drop j.toNat=l.drop j.toNat
def dlM(l:List Pt)(c:Int×Int)(i j:Int)(s:List Pt):Nat:=(l.length - j).toNat
theorem XpA{l:List Pt}{c:Int×Int}(h:¬Xa6 l c= -1):0≤Xa6 l c∧Xa6 l c<l.length∧dlI l c (Xa6 l c) (Xa6 l c+1) l:=by
 unfold Xa6 at h ⊢
 split at h
 · rename_i hlt
   rw[if_pos hlt]
   refine⟨by omega,by omega,⟨by omega,by omega,by omega,rfl,?_,rfl⟩⟩
   rw[tn1 (by omega),Int.toNat_natCast,X1S (0,0) hlt,List.filter_append]
   have a:=List.findIdx_getElem (w:=hlt)
   have hk:(l.take (l.findIdx (Xk0 c))).filter (fun p=>!Xk0 c p)=l.take (l.findIdx (Xk0 c)):=List.filter_eq_self.2 fun x hx=>by
    obtain⟨k,hk,e⟩:=List.getElem_of_mem hx
    rw[List.length_take]at hk
    have:=List.not_of_lt_findIdx (xs:=l) (p:=Xk0 c) (i:=k) (by omega)
    rw[List.getElem_take]at e
    rw[←e];simpa using this
   rw[hk,X0R hlt]
   simp[a]
 · exact absurd rfl h
theorem XqJ{l:List Pt}{c:Int×Int}(h:Xa6 l c= -1):l=XhD l c:=by
 unfold Xa6 at h
 split at h
 · omega
 · rename_i hn
   refine(List.filter_eq_self.2 fun x hx=>?_).symm
   have:=List.findIdx_eq_length.1 (Nat.le_antisymm (List.findIdx_le_length (p:=Xk0 c)) (by omega)) x hx
   simp[this]
theorem XqM{l:List Pt}{c:Int×Int}{i j:Int}{s:List Pt}(h:dlI l c i j s)(hj:j<l.length):s.getD j.toNat (0,0)=l.getD j.toNat (0,0):=by
 obtain⟨h1,h2,h3,h4,h5,h6⟩:=h
 have a:=X4Q (0,0) (l:=s) (i:=j.toNat) (by omega)
 have b:=X4Q (0,0) (l:=l) (i:=j.toNat) (by omega)
 rw[a,b]at h6
 exact(List.cons.inj h6).1
theorem Xpy{l:List Pt}{c:Int×Int}{i j:Int}{s:List Pt}(h:dlI l c i j s)(hj:j<l.length)(hd:Xk0 c (l.getD j.toNat (0,0))=false):dlI l c (i+1) (j+1) (s.set i.toNat (l.getD j.toNat (0,0))):=by
 obtain⟨h1,h2,h3,h4,h5,h6⟩:=h
 refine⟨by omega,by omega,by omega,by rw[List.length_set,h4],?_,?_⟩
 · rw[tn1 h1,tn1 (by omega:0≤j),X1S (0,0) (by omega:j.toNat<l.length),List.filter_append,←h5]
   have:(s.set i.toNat (l.getD j.toNat (0,0))).take (i.toNat+1)=s.take i.toNat++[l.getD j.toNat (0,0)]:=by
    rw[X1S (0,0) (by rw[List.length_set];omega),List.take_set_of_le (Nat.le_refl _)]
    congr 2
    rw[List.getD_eq_getElem?_getD,List.getElem?_set_self (by omega)];rfl
   rw[this]
   generalize l.getD j.toNat (0,0)=x at hd ⊢
   simp[hd]
 · rw[tn1 (by omega:0≤j),List.drop_set_of_lt (by omega),←List.drop_drop,h6,List.drop_drop]
theorem Xpv{l:List Pt}{c:Int×Int}{i j:Int}{s:List Pt}(h:dlI l c i j s)(hj:j<l.length)(hd:Xk0 c (l.getD j.toNat (0,0))=true):dlI l c i (j+1) s:=by
 obtain⟨h1,h2,h3,h4,h5,h6⟩:=h
 refine⟨by omega,by omega,by omega,h4,?_,?_⟩
 · rw[tn1 (by omega:0≤j),X1S (0,0) (by omega:j.toNat<l.length),List.filter_append,←h5]
   generalize l.getD j.toNat (0,0)=x at hd ⊢
   simp[hd]
 · rw[tn1 (by omega:0≤j),←List.drop_drop,h6,List.drop_drop]
theorem XqC{l:List Pt}{c:Int×Int}{i j:Int}{s r:List Pt}(h:dlI l c i j s)(hj:¬j<l.length):List.take i.toNat (List.take i.toNat s++r)=XhD l c:=by
 obtain⟨h1,h2,h3,h4,h5,h6⟩:=h
 have e:j.toNat=l.length:=by omega
 rw[e,List.take_length]at h5
 rw[List.take_append_of_le_length (by rw[List.length_take];omega),List.take_take,Nat.min_self,h5];rfl
def X6l(l:List Pt)(lo hi:Int):Prop:=l.length≤1099511627776
theorem Xl4(l:List Pt)(lo hi:Int):XhD l (lo,hi)=X0Z l lo hi:=by
 unfold XhD X0Z
 congr 1
 funext p
 simp only[Xk0,XoH]
 rw[Bool.eq_iff_iff];simp
structure s8I (l:List Pt) (lo hi:Int) (i:Int) (out:List Pt):Prop where
 h1:0≤i
 h2:i≤l.length
 h3:out=X0Z (l.take i.toNat) lo hi
 h4:(out.length:Int)≤i
def s8M(l:List Pt)(lo hi:Int)(i:Int)(out:List Pt):Nat:=(l.length - i).toNat
theorem Xr7{l:List Pt}{lo hi i:Int}{out:List Pt}(h:s8I l lo hi i out)(hi':i<l.length)(h1:lo≤(l.getD i.toNat (0,0)).1)(h2:(l.getD i.toNat (0,0)).1<hi):s8I l lo hi (i+1) (out++[l.getD i.toNat (0,0)]):=by
 obtain⟨q1,q2,q3,q4⟩:=h
 refine⟨by omega,by omega,?_,by simp;omega⟩
 rw[tn1 q1,X1S (0,0) (by omega),q3]
 unfold X0Z
 rw[List.filter_append]
 generalize l.getD i.toNat (0,0)=x at*
 simp[h1,h2]
theorem XrT{l:List Pt}{lo hi i:Int}{out:List Pt}(h:s8I l lo hi i out)(hi':i<l.length)(h1:¬(lo≤(l.getD i.toNat (0,0)).1∧(l.getD i.toNat (0,0)).1<hi)):s8I l lo hi (i+1) out:=by
 obtain⟨q1,q2,q3,q4⟩:=h
 refine⟨by omega,by omega,?_,by omega⟩
 rw[tn1 q1,X1S (0,0) (by omega),q3]
 unfold X0Z
 rw[List.filter_append]
 generalize l.getD i.toNat (0,0)=x at*
 have:(decide (lo≤x.1)&&decide (x.1<hi))=false:=by
  rw[Bool.eq_false_iff];simpa using h1
 simp[this]
theorem XrA{l:List Pt}{lo hi i:Int}{out:List Pt}(h:s8I l lo hi i out)(hi':¬i<l.length):out=X0Z l lo hi:=by
 obtain⟨q1,q2,q3,q4⟩:=h
 rw[q3,show i.toNat=l.length by omega,List.take_length]
def X6w:Con:={A:=(.pair T0q T0q),shA:=[.agg 2,.ptr 1,.ptr 1],R:=.bool,shR:=[(false,1)],pre:=fun _ _=>True,f:=some fun _ a=>((XoH a.1 a.2.1 a.2.2),((),()))}
def X1Z.F(a0:(Int×Int))(a1:Int)(a2:Int):Prop:=(X00 (decide (a0.1<a1)) (Eq (true,((),())) ((XoH a0 a1 a2),((),()))) (Eq ((decide (a0.1≥a2)),((),())) ((XoH a0 a1 a2),((),()))))
theorem X1Z.pure(a0:(Int×Int))(a1:Int)(a2:Int)(h:True)(hw:Wf X6w.A (a0,a1,a2)):X1Z.F a0 a1 a2:=by
 unfold X1Z.F
 simp only[Bs,B0,B1,Prod.mk.injEq,X01]
 repeat' (with_reducible (first | (refine And.intro ?_ ?_) | intro _))
 all_goals (try simp (disch:=omega) only[w64,wu8,tn0,tn1,tm1,tm2,List.length_append,List.length_cons,List.length_nil]at*)
 all_goals (try simp (disch:=omega) only[w64,wu8,tn0,tn1,tm1,tm2,List.length_append,List.length_cons,List.length_nil]at*)
 all_goals (try omega)
 all_goals (try grind[XoH])
theorem X1Z.eq:EqS X6w Tryz.f177 [4] [] [] noL (fun i x=>X1Z.F x.1 x.2.1 x.2.2):=by intro i x;kernel_rfl
theorem X1Z.ok:X0l Tryz.prog 177 X6w:=X2b X1Z.eq Tryz.func177 rfl (by kernel_rfl) fun i x h hi hw=>X1Z.pure x.1 x.2.1 x.2.2 h hw
def X1Z.e:GE:=⟨177,X6w,⟨_,Tryz.func177,rfl,rfl⟩,X1Z.ok⟩
def X0L:Con:={A:=(.pair X9z T0q),shA:=[.one,.clo 177 [1,1]],R:=(.int .i64),shR:=[(false,1)],pre:=fun _ a=>(XhA a.1 a.2),f:=some fun _ a=>((Xa6 a.1 a.2),((),()))}
def X09.F(a0:U6q)(a1:(Int×Int)):Prop:=(eS [(0,.val false [.lst T0q a0 none]),(1,.fn 177 [] [.ptr [.int .i64 a1.1],.ptr [.int .i64 a1.2]]),(7,.val false [.int .i64 (ln a0)])] [(0,.val false [.lst T0q a0 none]),(1,.fn 177 [] [.ptr [.int .i64 a1.1],.ptr [.int .i64 a1.2]]),(7,.val false [.int .i64 (ln a0)])]∧((Xqo a0 a1 0)∧∀(y1:Int),(Xqo a0 a1 y1)→(X00 (decide (y1<(ln a0))) (0≤y1∧(y1<(ln a0)∧(True∧∀r2,(Eq r2 ((XoH ((List.getD a0 (tN y1) (0,0)).1,(List.getD a0 (tN y1) (0,0)).2) a1.1 a1.2),((),())))→(X00 r2.1 (Eq (y1,((),())) ((Xa6 a0 a1),((),()))) (eS [(0,.val false [.lst T0q a0 none]),(1,.fn 177 [] [.ptr [.int .i64 a1.1],.ptr [.int .i64 a1.2]]),(7,.val false [.int .i64 (ln a0)])] [(0,.val false [.lst T0q a0 none]),(1,.fn 177 [] [.ptr [.int .i64 a1.1],.ptr [.int .i64 a1.2]]),(7,.val false [.int .i64 (ln a0)])]∧(Xqo a0 a1 (wI (y1+(1:Int))))∧(ixdM a0 a1 (wI (y1+(1:Int))))<(ixdM a0 a1 y1)))))) (Eq ((-1),((),())) ((Xa6 a0 a1),((),()))))))
def X09.L(a0:U6q)(a1:(Int×Int)):Nat→Option X0d:=fun p=>Go.Proofs.YtcfaphojdacmbaaGreatR.Bv.look p [(26,{kp:={hold:=[0,1,7],slots:=[8],boxes:=[],rows:=[]},T:=(.int .i64),I:=fun st y=>Xqo a0 a1 y,μ:=fun st y=>ixdM a0 a1 y})]
theorem X09.pure(a0:U6q)(a1:(Int×Int))(h:(XhA a0 a1))(hw:Wf X0L.A (a0,a1)):X09.F a0 a1:=by
 delta X09.F ln tN wI eS
 simp only[Bs,B0,B1,Prod.mk.injEq,X01,Prod.eta]
 have hl:a0.length≤1099511627776:=h
 refine⟨⟨by omega,by omega,fun j hj=>absurd hj (by simp)⟩,?_⟩
 rintro i hI
 have q1:=hI.1
 have q2:=hI.2.1
 rw[w64 (x:=i+1) (by omega) (by omega)]
 refine⟨fun hi=>⟨q1,hi,fun hd=>Xpl hI hi hd,fun hd=>⟨⟨by omega,by omega,fun j hj=>?_⟩,by unfold ixdM;omega⟩⟩,fun hi=>Xrd hI hi⟩
 by_cases e:j=i.toNat
 · rw[e];exact hd
 · exact hI.2.2 j (by omega)
theorem X09.eq:EqS X0L Tryz.f229 [3] [X1Z.e] [] (fun i x=>X09.L x.1 x.2) (fun i x=>X09.F x.1 x.2):=by intro i x;kernel_rfl
theorem X09.ok:X0l Tryz.prog 229 X0L:=X2b X09.eq Tryz.func229 rfl (by kernel_rfl) fun i x h hi hw=>X09.pure x.1 x.2 h hw
def X09.e:GE:=⟨229,X0L,⟨_,Tryz.func229,rfl,rfl⟩,X09.ok⟩
def X0H:Con:={A:=(.pair X9z T0q),shA:=[.one,.clo 177 [1,1]],ownA:=[(0,85)],R:=X9z,shR:=[(false,1)],fresh:=[(0,85)],pre:=fun _ a=>(XhA a.1 a.2),f:=some fun _ a=>((XhD a.1 a.2),((),()))}
def X08.F(a0:U6q)(a1:(Int×Int)):Prop:=((XhA a0 (a1.1,a1.2))∧∀r1,(Eq r1 ((Xa6 a0 (a1.1,a1.2)),((),())))→(X00 (r1.1==((-1):Int)) (Eq (a0,((),())) ((XhD a0 a1),((),()))) (eS [(0,.val false [.own T0q 1000003]),(1,.fn 177 [] [.ptr [.int .i64 a1.1],.ptr [.int .i64 a1.2]])] [(0,.val false [.own T0q 1000003]),(1,.fn 177 [] [.ptr [.int .i64 a1.1],.ptr [.int .i64 a1.2]])]∧((dlI a0 a1 r1.1 (wI (r1.1+(1:Int))) a0)∧∀(y2:(Int×(Int×U6q))),(dlI a0 a1 y2.1 y2.2.1 y2.2.2)→(X00 (decide (y2.2.1<(ln y2.2.2))) (0≤y2.2.1∧(y2.2.1<(ln y2.2.2)∧(True∧∀r3,(Eq r3 ((XoH ((List.getD y2.2.2 (tN y2.2.1) (0,0)).1,(List.getD y2.2.2 (tN y2.2.1) (0,0)).2) a1.1 a1.2),((),())))→(X00 (!r3.1) (0≤y2.1∧(y2.1<(ln y2.2.2)∧(eS [(0,.val false [.own T0q 1000003]),(1,.fn 177 [] [.ptr [.int .i64 a1.1],.ptr [.int .i64 a1.2]])] [(0,.val false [.own T0q 1000003]),(1,.fn 177 [] [.ptr [.int .i64 a1.1],.ptr [.int .i64 a1.2]])]∧(dlI a0 a1 (wI (y2.1+(1:Int))) (wI (y2.2.1+(1:Int))) (List.set y2.2.2 (tN y2.1) ((List.getD y2.2.2 (tN y2.2.1) (0,0)).1,(List.getD y2.2.2 (tN y2.2.1) (0,0)).2)))∧(dlM a0 a1 (wI (y2.1+(1:Int))) (wI (y2.2.1+(1:Int))) (List.set y2.2.2 (tN y2.1) ((List.getD y2.2.2 (tN y2.2.1) (0,0)).1,(List.getD y2.2.2 (tN y2.2.1) (0,0)).2)))<(dlM a0 a1 y2.1 y2.2.1 y2.2.2)))) (eS [(0,.val false [.own T0q 1000003]),(1,.fn 177 [] [.ptr [.int .i64 a1.1],.ptr [.int .i64 a1.2]])] [(0,.val false [.own T0q 1000003]),(1,.fn 177 [] [.ptr [.int .i64 a1.1],.ptr [.int .i64 a1.2]])]∧(dlI a0 a1 y2.1 (wI (y2.2.1+(1:Int))) y2.2.2)∧(dlM a0 a1 y2.1 (wI (y2.2.1+(1:Int))) y2.2.2)<(dlM a0 a1 y2.1 y2.2.1 y2.2.2)))))) (0≤y2.1∧(y2.1≤(ln y2.2.2)∧((tN y2.1)≤(List.length y2.2.2)∧((List.length y2.2.2)≤List.length y2.2.2∧(0≤y2.1∧(y2.1≤(ln (List.take (tN y2.1) y2.2.2++(List.replicate ((List.length y2.2.2) - (tN y2.1)) ((0:Int),(0:Int))++List.drop (List.length y2.2.2) y2.2.2)))∧(Eq ((List.take (tN y2.1) (List.take (tN y2.1) y2.2.2++(List.replicate ((List.length y2.2.2) - (tN y2.1)) ((0:Int),(0:Int))++List.drop (List.length y2.2.2) y2.2.2))),((),())) ((XhD a0 a1),((),()))))))))))))))
def X08.L(a0:U6q)(a1:(Int×Int)):Nat→Option X0d:=fun p=>Go.Proofs.YtcfaphojdacmbaaGreatR.Bv.look p [(122,{kp:={hold:=[0,1],slots:=[5,6],boxes:=[],rows:=[{bx:=false,s:=0,i:=0,k:=1000003,e:=85,hot:=true}]},T:=(.pair (.int .i64) Xlq),I:=fun st y=>dlI a0 a1 y.1 y.2.1 y.2.2,μ:=fun st y=>dlM a0 a1 y.1 y.2.1 y.2.2})]
theorem X08.pure(a0:U6q)(a1:(Int×Int))(h:(XhA a0 a1))(hw:Wf X0H.A (a0,a1)):X08.F a0 a1:=by
 delta X08.F ln tN wI eS
 simp only[Bs,B0,B1,Prod.mk.injEq,X01,Prod.eta,XhA]
 have hl:a0.length≤1099511627776:=h
 refine⟨hl,fun h1=>XqJ h1,fun h1=>?_⟩
 obtain⟨z1,z2,z3⟩:=XpA h1
 rw[w64 (x:=Xa6 a0 a1+1) (by omega) (by omega)]
 refine⟨z3,?_⟩
 rintro⟨i,j,s⟩ hI
 simp only at hI ⊢
 have q1:=hI.h1
 have q2:=hI.h2
 have q3:=hI.h3
 have q4:=hI.h4
 refine⟨fun hj=>?_,fun hj=>?_⟩
 · have hj':j<(a0.length:Int):=by omega
   have hg:=XqM hI hj'
   rw[w64 (x:=i+1) (by omega) (by omega),w64 (x:=j+1) (by omega) (by omega)]
   simp only[hg]
   refine⟨by omega,by omega,fun hd=>⟨by omega,by omega,Xpy hI hj' hd,by unfold dlM;omega⟩,fun hd=>⟨Xpv hI hj' hd,by unfold dlM;omega⟩⟩
 · have hj':¬j<(a0.length:Int):=by omega
   have he:=fun r=>XqC (r:=r) hI hj'
   exact⟨by omega,by omega,by omega,by omega,by omega,by simp only[List.length_take,List.length_replicate,List.length_drop];omega,he _⟩
theorem X08.eq:EqS X0H Tryz.f176 [64] [X1Z.e,X09.e] [41] (fun i x=>X08.L x.1 x.2) (fun i x=>X08.F x.1 x.2):=by intro i x;kernel_rfl
theorem X08.ok:X0l Tryz.prog 176 X0H:=X2b X08.eq Tryz.func176 rfl (by kernel_rfl) fun i x h hi hw=>X08.pure x.1 x.2 h hw
def X08.e:GE:=⟨176,X0H,⟨_,Tryz.func176,rfl,rfl⟩,X08.ok⟩
def X7x:Con:={A:=(.pair X9z T0q),shA:=[.one,.one,.one],R:=X9z,shR:=[(false,1)],fresh:=[(0,85)],pre:=fun _ a=>(X6l a.1 a.2.1 a.2.2),f:=some fun _ a=>((X0Z a.1 a.2.1 a.2.2),((),()))}
def X3l.F(a0:U6q)(a1:Int)(a2:Int):Prop:=((XdR a0)∧∀r1,(Eq r1 ((Xlp a0),((),())))→((XhA r1.1 (a1,a2))∧∀r2,(Eq r2 ((XhD r1.1 (a1,a2)),((),())))→(Eq (r2.1,((),())) ((X0Z a0 a1 a2),((),())))))
theorem X3l.pure(a0:U6q)(a1:Int)(a2:Int)(h:(X6l a0 a1 a2))(hw:Wf X7x.A (a0,a1,a2)):X3l.F a0 a1 a2:=by
 unfold X3l.F
 simp only[Bs,B0,B1,Prod.mk.injEq,X01,Prod.eta,XhA,Xlp,XdR]
 have hl:a0.length≤1099511627776:=h
 exact⟨hl,hl,Xl4 _ _ _⟩
theorem X3l.eq:EqS X7x Tryz.f103 [64] [X0b.e,X08.e,X1Z.e] [] noL (fun i x=>X3l.F x.1 x.2.1 x.2.2):=by intro i x;kernel_rfl
theorem X3l.ok:X0l Tryz.prog 103 X7x:=X2b X3l.eq Tryz.func103 rfl (by kernel_rfl) fun i x h hi hw=>X3l.pure x.1 x.2.1 x.2.2 h hw
def X3l.e:GE:=⟨103,X7x,⟨_,Tryz.func103,rfl,rfl⟩,X3l.ok⟩
def X7a:Con:={A:=(.pair X9z T0q),shA:=[.one,.one,.one],R:=X9z,shR:=[(false,1)],fresh:=[(0,85)],pre:=fun _ a=>(X6l a.1 a.2.1 a.2.2),f:=some fun _ a=>((X0Z a.1 a.2.1 a.2.2),((),()))}
def X1V.F(a0:U6q)(a1:Int)(a2:Int):Prop:=(eS [(0,.val false [.lst T0q a0 none]),(1,.val false [.int .i64 a1]),(2,.val false [.int .i64 a2])] [(0,.val false [.lst T0q a0 none]),(1,.val false [.int .i64 a1]),(2,.val false [.int .i64 a2])]∧((s8I a0 a1 a2 0 ([]:List (Int×Int)))∧∀(y1:(Int×U6q)),(s8I a0 a1 a2 y1.1 y1.2)→(X00 (decide (y1.1<(ln a0))) (0≤y1.1∧(y1.1<(ln a0)∧(X00 (decide (((List.getD a0 (tN y1.1) (0,0)).1)≥a1)) (0≤y1.1∧(y1.1<(ln a0)∧(X00 (decide (((List.getD a0 (tN y1.1) (0,0)).1)<a2)) (0≤y1.1∧(y1.1<(ln a0)∧(List.length y1.2+List.length [((List.getD a0 (tN y1.1) (0,0)).1,(List.getD a0 (tN y1.1) (0,0)).2)]≤9223372036854775807∧((List.length y1.2+List.length [((List.getD a0 (tN y1.1) (0,0)).1,(List.getD a0 (tN y1.1) (0,0)).2)])*16≤140737488355328∧(eS [(0,.val false [.lst T0q a0 none]),(1,.val false [.int .i64 a1]),(2,.val false [.int .i64 a2])] [(0,.val false [.lst T0q a0 none]),(1,.val false [.int .i64 a1]),(2,.val false [.int .i64 a2])]∧(s8I a0 a1 a2 (wI (y1.1+(1:Int))) (y1.2++[((List.getD a0 (tN y1.1) (0,0)).1,(List.getD a0 (tN y1.1) (0,0)).2)]))∧(s8M a0 a1 a2 (wI (y1.1+(1:Int))) (y1.2++[((List.getD a0 (tN y1.1) (0,0)).1,(List.getD a0 (tN y1.1) (0,0)).2)]))<(s8M a0 a1 a2 y1.1 y1.2)))))) (eS [(0,.val false [.lst T0q a0 none]),(1,.val false [.int .i64 a1]),(2,.val false [.int .i64 a2])] [(0,.val false [.lst T0q a0 none]),(1,.val false [.int .i64 a1]),(2,.val false [.int .i64 a2])]∧(s8I a0 a1 a2 (wI (y1.1+(1:Int))) y1.2)∧(s8M a0 a1 a2 (wI (y1.1+(1:Int))) y1.2)<(s8M a0 a1 a2 y1.1 y1.2))))) (eS [(0,.val false [.lst T0q a0 none]),(1,.val false [.int .i64 a1]),(2,.val false [.int .i64 a2])] [(0,.val false [.lst T0q a0 none]),(1,.val false [.int .i64 a1]),(2,.val false [.int .i64 a2])]∧(s8I a0 a1 a2 (wI (y1.1+(1:Int))) y1.2)∧(s8M a0 a1 a2 (wI (y1.1+(1:Int))) y1.2)<(s8M a0 a1 a2 y1.1 y1.2))))) (Eq (y1.2,((),())) ((X0Z a0 a1 a2),((),()))))))
def X1V.L(a0:U6q)(a1:Int)(a2:Int):Nat→Option X0d:=fun p=>Go.Proofs.YtcfaphojdacmbaaGreatR.Bv.look p [(58,{kp:={hold:=[0,1,2],slots:=[7,8],boxes:=[],rows:=[{bx:=false,s:=7,i:=0,k:=1000899,e:=85,hot:=true}]},T:=Xlq,I:=fun st y=>s8I a0 a1 a2 y.1 y.2,μ:=fun st y=>s8M a0 a1 a2 y.1 y.2})]
theorem X1V.pure(a0:U6q)(a1:Int)(a2:Int)(h:(X6l a0 a1 a2))(hw:Wf X7a.A (a0,a1,a2)):X1V.F a0 a1 a2:=by
 delta X1V.F ln tN wI eS
 simp only[Bs,B0,B1,Prod.mk.injEq,X01,Prod.eta]
 have hl:a0.length≤1099511627776:=h
 refine⟨⟨by omega,by omega,by simp[X0Z],by simp⟩,?_⟩
 rintro⟨i,out⟩ hI
 simp only at hI ⊢
 have q1:=hI.h1
 have q2:=hI.h2
 have q4:=hI.h4
 rw[w64 (x:=i+1) (by omega) (by omega)]
 have dn:∀o,s8M a0 a1 a2 (i+1) o<s8M a0 a1 a2 i out∨¬i<(a0.length:Int):=fun o=>by unfold s8M;omega
 refine⟨fun hi=>⟨q1,hi,fun h1=>⟨q1,hi,fun h2=>⟨q1,hi,by omega,by omega,Xr7 hI hi h1 h2,by unfold s8M;omega⟩,fun h2=>⟨XrT hI hi (fun h=>h2 h.2),by unfold s8M;omega⟩⟩,fun h1=>⟨XrT hI hi (fun h=>h1 h.1),by unfold s8M;omega⟩⟩,fun hi=>XrA hI hi⟩
theorem X1V.eq:EqS X7a Tryz.f101 [64] [] [] (fun i x=>X1V.L x.1 x.2.1 x.2.2) (fun i x=>X1V.F x.1 x.2.1 x.2.2):=by intro i x;kernel_rfl
theorem X1V.ok:X0l Tryz.prog 101 X7a:=X2b X1V.eq Tryz.func101 rfl (by kernel_rfl) fun i x h hi hw=>X1V.pure x.1 x.2.1 x.2.2 h hw
def X1V.e:GE:=⟨101,X7a,⟨_,Tryz.func101,rfl,rfl⟩,X1V.ok⟩
end Go.Proofs.YtcfaphojdacmbaaGreatR.B
