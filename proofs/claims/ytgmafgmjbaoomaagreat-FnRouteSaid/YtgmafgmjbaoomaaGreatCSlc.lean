/- Points sliced. -/
import Derived.Test.YtgmafgmjbaoomaaGreatCMrgA
set_option linter.unusedVariables false
set_option linter.unusedSimpArgs false
namespace Go.Proofs.YtgmafgmjbaoomaaGreat.B
open Go Go.Proofs.YtgmafgmjbaoomaaGreat.Bv
def fDel(p:Pt)(lo hi:Int):Bool:=decide (p.1<lo)||decide (p.1≥hi)
def dDel(c:Int×Int)(p:Pt):Bool:=fDel p c.1 c.2
def ixdI(l:List Pt)(c:Int×Int)(i:Int):Prop:=0≤i∧i≤l.length∧∀j,j<i.toNat→dDel c (l.getD j (0,0))=false
def ixdM(l:List Pt)(c:Int×Int)(i:Int):Nat:=(l.length - i).toNat
structure dlI (l:List Pt) (c:Int×Int) (i j:Int) (s:List Pt):Prop where
 h1:0≤i
 h2:i<j
 h3:j≤l.length
 h4:s.length=l.length
 h5:s.take i.toNat=(l.take j.toNat).filter fun p=>!dDel c p
 h6:s.drop j.toNat=l.drop j.toNat
def dlM(l:List Pt)(c:Int×Int)(i j:Int)(s:List Pt):Nat:=(l.length - j).toNat
def XbS(l:List Pt)(lo hi:Int):Prop:=l.length≤1099511627776
structure s8I (l:List Pt) (lo hi:Int) (i:Int) (out:List Pt):Prop where
 h1:0≤i
 h2:i≤l.length
 h3:out=X7U (l.take i.toNat) lo hi
 h4:(out.length:Int)≤i
def s8M(l:List Pt)(lo hi:Int)(i:Int)(out:List Pt):Nat:=(l.length - i).toNat
theorem Xos{l:List Pt}{lo hi i:Int}{out:List Pt}(h:s8I l lo hi i out)(hi':i<l.length)(h1:lo≤(l.getD i.toNat (0,0)).1)(h2:(l.getD i.toNat (0,0)).1<hi):s8I l lo hi (i+1) (out++[l.getD i.toNat (0,0)]):=by
 obtain⟨q1,q2,q3,q4⟩:=h
 refine⟨by omega,by omega,?_,by simp;omega⟩
 rw[tn1 q1,X0S (0,0) (by omega),q3]
 unfold X7U
 rw[List.filter_append]
 generalize l.getD i.toNat (0,0)=x at*
 simp[h1,h2]
theorem Xor{l:List Pt}{lo hi i:Int}{out:List Pt}(h:s8I l lo hi i out)(hi':i<l.length)(h1:¬(lo≤(l.getD i.toNat (0,0)).1∧(l.getD i.toNat (0,0)).1<hi)):s8I l lo hi (i+1) out:=by
 obtain⟨q1,q2,q3,q4⟩:=h
 refine⟨by omega,by omega,?_,by omega⟩
 rw[tn1 q1,X0S (0,0) (by omega),q3]
 unfold X7U
 rw[List.filter_append]
 generalize l.getD i.toNat (0,0)=x at*
 have:(decide (lo≤x.1)&&decide (x.1<hi))=false:=by
  rw[Bool.eq_false_iff];simpa using h1
 simp[this]
theorem Xo9{l:List Pt}{lo hi i:Int}{out:List Pt}(h:s8I l lo hi i out)(hi':¬i<l.length):out=X7U l lo hi:=by
 obtain⟨q1,q2,q3,q4⟩:=h
 rw[q3,show i.toNat=l.length by omega,List.take_length]
def X8F.L(a0:U5q)(a1:(Int×Int)):Nat→Option X0a:=fun p=>Go.Proofs.YtgmafgmjbaoomaaGreat.Bv.look p [(26,{kp:={hold:=[0,1,7],slots:=[8],boxes:=[],rows:=[]},T:=(.int .i64),I:=fun st y=>ixdI a0 a1 y,μ:=fun st y=>ixdM a0 a1 y})]
def X8c.L(a0:U5q)(a1:(Int×Int)):Nat→Option X0a:=fun p=>Go.Proofs.YtgmafgmjbaoomaaGreat.Bv.look p [(122,{kp:={hold:=[0,1],slots:=[5,6],boxes:=[],rows:=[{bx:=false,s:=0,i:=0,k:=1000003,e:=107,hot:=true}]},T:=(.pair (.int .i64) (.pair (.int .i64) X60)),I:=fun st y=>dlI a0 a1 y.1 y.2.1 y.2.2,μ:=fun st y=>dlM a0 a1 y.1 y.2.1 y.2.2})]
def X5v:Con:={A:=(.pair X60 T0q),shA:=[.one,.one,.one],R:=X60,shR:=[(false,1)],fresh:=[(0,107)],pre:=fun _ a=>(XbS a.1 a.2.1 a.2.2),f:=some fun _ a=>((X7U a.1 a.2.1 a.2.2),((),()))}
def X1y.F(a0:U5q)(a1:Int)(a2:Int):Prop:=(eS [(0,.val false [.lst T0q a0 none]),(1,.val false [.int .i64 a1]),(2,.val false [.int .i64 a2])] [(0,.val false [.lst T0q a0 none]),(1,.val false [.int .i64 a1]),(2,.val false [.int .i64 a2])]∧((s8I a0 a1 a2 0 ([]:List (Int×Int)))∧∀(y1:(Int×U5q)),(s8I a0 a1 a2 y1.1 y1.2)→(X00 (decide (y1.1<(ln a0))) (0≤y1.1∧(y1.1<(ln a0)∧(X00 (decide (((List.getD a0 (tN y1.1) (0,0)).1)≥a1)) (0≤y1.1∧(y1.1<(ln a0)∧(X00 (decide (((List.getD a0 (tN y1.1) (0,0)).1)<a2)) (0≤y1.1∧(y1.1<(ln a0)∧(List.length y1.2+List.length [((List.getD a0 (tN y1.1) (0,0)).1,(List.getD a0 (tN y1.1) (0,0)).2)]≤9223372036854775807∧((List.length y1.2+List.length [((List.getD a0 (tN y1.1) (0,0)).1,(List.getD a0 (tN y1.1) (0,0)).2)])*16≤140737488355328∧(eS [(0,.val false [.lst T0q a0 none]),(1,.val false [.int .i64 a1]),(2,.val false [.int .i64 a2])] [(0,.val false [.lst T0q a0 none]),(1,.val false [.int .i64 a1]),(2,.val false [.int .i64 a2])]∧(s8I a0 a1 a2 (wI (y1.1+(1:Int))) (y1.2++[((List.getD a0 (tN y1.1) (0,0)).1,(List.getD a0 (tN y1.1) (0,0)).2)]))∧(s8M a0 a1 a2 (wI (y1.1+(1:Int))) (y1.2++[((List.getD a0 (tN y1.1) (0,0)).1,(List.getD a0 (tN y1.1) (0,0)).2)]))<(s8M a0 a1 a2 y1.1 y1.2)))))) (eS [(0,.val false [.lst T0q a0 none]),(1,.val false [.int .i64 a1]),(2,.val false [.int .i64 a2])] [(0,.val false [.lst T0q a0 none]),(1,.val false [.int .i64 a1]),(2,.val false [.int .i64 a2])]∧(s8I a0 a1 a2 (wI (y1.1+(1:Int))) y1.2)∧(s8M a0 a1 a2 (wI (y1.1+(1:Int))) y1.2)<(s8M a0 a1 a2 y1.1 y1.2))))) (eS [(0,.val false [.lst T0q a0 none]),(1,.val false [.int .i64 a1]),(2,.val false [.int .i64 a2])] [(0,.val false [.lst T0q a0 none]),(1,.val false [.int .i64 a1]),(2,.val false [.int .i64 a2])]∧(s8I a0 a1 a2 (wI (y1.1+(1:Int))) y1.2)∧(s8M a0 a1 a2 (wI (y1.1+(1:Int))) y1.2)<(s8M a0 a1 a2 y1.1 y1.2))))) (Eq (y1.2,((),())) ((X7U a0 a1 a2),((),()))))))
def X1y.L(a0:U5q)(a1:Int)(a2:Int):Nat→Option X0a:=fun p=>Go.Proofs.YtgmafgmjbaoomaaGreat.Bv.look p [(58,{kp:={hold:=[0,1,2],slots:=[7,8],boxes:=[],rows:=[{bx:=false,s:=7,i:=0,k:=1000899,e:=107,hot:=true}]},T:=(.pair (.int .i64) X60),I:=fun st y=>s8I a0 a1 a2 y.1 y.2,μ:=fun st y=>s8M a0 a1 a2 y.1 y.2})]
theorem X1y.pure(a0:U5q)(a1:Int)(a2:Int)(h:(XbS a0 a1 a2))(hw:Wf X5v.A (a0,a1,a2)):X1y.F a0 a1 a2:=by
 delta X1y.F ln tN wI eS
 simp only[Bs,B0,B1,Prod.mk.injEq,X03,Prod.eta]
 have hl:a0.length≤1099511627776:=h
 refine⟨⟨by omega,by omega,by simp[X7U],by simp⟩,?_⟩
 rintro⟨i,out⟩ hI
 simp only at hI ⊢
 have q1:=hI.h1
 have q2:=hI.h2
 have q4:=hI.h4
 rw[w64 (x:=i+1) (by omega) (by omega)]
 have dn:∀o,s8M a0 a1 a2 (i+1) o<s8M a0 a1 a2 i out∨¬i<(a0.length:Int):=fun o=>by unfold s8M;omega
 refine⟨fun hi=>⟨q1,hi,fun h1=>⟨q1,hi,fun h2=>⟨q1,hi,by omega,by omega,Xos hI hi h1 h2,by unfold s8M;omega⟩,fun h2=>⟨Xor hI hi (fun h=>h2 h.2),by unfold s8M;omega⟩⟩,fun h1=>⟨Xor hI hi (fun h=>h1 h.1),by unfold s8M;omega⟩⟩,fun hi=>Xo9 hI hi⟩
set_option maxRecDepth 100000 in
theorem X1y.eq:EqS X5v Tryz.f62 [91] [] [] (fun i x=>X1y.L x.1 x.2.1 x.2.2) (fun i x=>X1y.F x.1 x.2.1 x.2.2):=by intro i x;kernel_rfl
theorem X1y.ok:X0o Tryz.prog 62 X5v:=X2u X1y.eq Tryz.func62 rfl (by kernel_rfl) fun i x h hi hw=>X1y.pure x.1 x.2.1 x.2.2 h hw
def X1y.e:GE:=⟨62,X5v,⟨_,Tryz.func62,rfl,rfl⟩,X1y.ok⟩
end Go.Proofs.YtgmafgmjbaoomaaGreat.B
