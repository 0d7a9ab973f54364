/- A series of a file,found. -/
import Derived.Test.YtegmokdppbagiaaCTake
import Derived.Test.YtegmokdppbagiaaCRFile
set_option linter.unusedVariables false
set_option linter.unusedSimpArgs false
namespace Go.Proofs.Ytegmokdppbagiaa.B
open Go Go.Proofs.Ytegmokdppbagiaa.Bv
def X6z(s k:List UInt8):List Pt×Bool:=match (X02 s).1.find? fun x=>decide (x.1=k) with
 | some x=>(x.2,true)
 | none=>([],false)
def XeA(s k:List UInt8):Prop:=s.length≤maxLen
def fdJ(l:List Ser)(k:List UInt8)(i:Int):Prop:=0≤i∧i≤l.length∧∀j,j<i.toNat→¬(l.getD j ([],[])).1=k
def fdI(s k:List UInt8)(i:Int)(l:List Ser):Prop:=l=(X02 s).1∧fdJ l k i
def fdM(s k:List UInt8)(i:Int)(l:List Ser):Nat:=(l.length - i).toNat
theorem XhN{l:List Ser}{k:List UInt8}{i:Int}(h:fdJ l k i)(hi:i<l.length)(hk:¬(l.getD i.toNat ([],[])).1=k):fdJ l k (i+1):=by
 obtain⟨h1,h2,h3⟩:=h
 refine⟨by omega,by omega,fun j hj=>?_⟩
 by_cases e:j=i.toNat
 · rw[e];exact hk
 · exact h3 j (by omega)
theorem Xiu{s k:List UInt8}{i:Int}(h:fdJ (X02 s).1 k i)(hi:i<(X02 s).1.length)(hk:((X02 s).1.getD i.toNat ([],[])).1=k):(((X02 s).1.getD i.toNat ([],[])).2,true)=X6z s k:=by
 obtain⟨h1,h2,h3⟩:=h
 have hl:i.toNat<(X02 s).1.length:=by omega
 have e:(X02 s).1.find? (fun x=>decide (x.1=k))=some ((X02 s).1.getD i.toNat ([],[])):=by
  rw[List.find?_eq_some_iff_getElem]
  refine⟨decide_eq_true hk,i.toNat,hl,(X1V hl).symm,fun j hj=>?_⟩
  have:=h3 j hj
  rw[X1V (by omega)]at this
  simp[this]
 unfold X6z
 rw[e]
theorem fd_no{s k:List UInt8}{i:Int}(h:fdJ (X02 s).1 k i)(hi:¬i<(X02 s).1.length):(([],false):List Pt×Bool)=X6z s k:=by
 obtain⟨h1,h2,h3⟩:=h
 have e:(X02 s).1.find? (fun x=>decide (x.1=k))=none:=by
  rw[List.find?_eq_none]
  intro x hx
  obtain⟨j,hj,e⟩:=List.getElem_of_mem hx
  have:=h3 j (by omega)
  rw[X1V hj,e]at this
  simpa using this
 unfold X6z
 rw[e]
theorem XiH(s:List UInt8):(X02 s).1.length≤5:=by
 unfold X02
 split
 · rename_i hr;exact(X5O hr.1.1).1
 · simp
def X3c:Con:={A:=(.pair .str .str),shA:=[.one,.one],R:=(.pair (.list T0q) .bool),shR:=[(false,1),(false,1)],fresh:=[(0,39)],pre:=fun _ a=>(XeA a.1 a.2),f:=some fun _ a=>((X6z a.1 a.2),((),()))}
def X0Q.F(a0:U3q)(a1:U3q):Prop:=((Xcn a0)∧∀r1,(Eq r1 ((X02 a0),((),())))→(eS [(1,.val false [.str a1]),(15,.val false [.own T1q 1001923]),(16,.val false [.int .i64 (ln r1.1.1)])] [(1,.val false [.str a1]),(15,.val false [.own T1q 1001923]),(16,.val false [.int .i64 (ln r1.1.1)])]∧((fdI a0 a1 0 r1.1.1)∧∀(y2:(Int×U2q)),(fdI a0 a1 y2.1 y2.2)→(X04 (decide (y2.1<(ln r1.1.1))) (0≤y2.1∧(y2.1<(ln y2.2)∧(X04 (((List.getD y2.2 (tN y2.1) ([],[])).1)==a1) (Eq (((List.getD y2.2 (tN y2.1) ([],[])).2,true),((),())) ((X6z a0 a1),((),()))) (eS [(1,.val false [.str a1]),(15,.val false [.own T1q 1001923]),(16,.val false [.int .i64 (ln r1.1.1)])] [(1,.val false [.str a1]),(15,.val false [.own T1q 1001923]),(16,.val false [.int .i64 (ln r1.1.1)])]∧(fdI a0 a1 (wI (y2.1+(1:Int))) y2.2)∧(fdM a0 a1 (wI (y2.1+(1:Int))) y2.2)<(fdM a0 a1 y2.1 y2.2))))) (Eq ((([]:U4q),false),((),())) ((X6z a0 a1),((),())))))))
def X0Q.L(a0:U3q)(a1:U3q):Nat→Option X0g:=fun p=>Go.Proofs.Ytegmokdppbagiaa.Bv.look p [(58,{kp:={hold:=[1,15,16],slots:=[17],boxes:=[],rows:=[{bx:=false,s:=15,i:=0,k:=1001923,e:=36,hot:=true}]},T:=(.pair (.int .i64) (.list T1q)),I:=fun st y=>fdI a0 a1 y.1 y.2,μ:=fun st y=>fdM a0 a1 y.1 y.2})]
theorem X0Q.pure(a0:U3q)(a1:U3q)(h:(XeA a0 a1))(hw:Wf X3c.A (a0,a1)):X0Q.F a0 a1:=by
 delta X0Q.F ln tN wI eS
 simp only[Bs,B0,B1,Prod.mk.injEq,X06,Prod.eta]
 have hp:Xcn a0:=h
 have hl:=XiH a0
 refine⟨hp,⟨rfl,by omega,by omega,fun j hj=>absurd hj (by simp)⟩,?_⟩
 rintro⟨i,l⟩ ⟨el,hI⟩
 simp only at el hI ⊢
 subst el
 have q1:=hI.1
 have q2:=hI.2.1
 refine⟨fun hi=>⟨q1,hi,fun hk=>Xiu hI hi hk,fun hk=>?_⟩,fun hi=>fd_no hI hi⟩
 rw[w64 (x:=i+1) (by omega) (by omega)]
 exact⟨⟨rfl,XhN hI hi hk⟩,by unfold fdM;omega⟩
set_option maxRecDepth 100000 in
theorem X0Q.eq:EqT X3c Try.f13 [32,4] [X0F.e] [] (fun i x=>X0Q.L x.1 x.2) (fun i x=>X0Q.F x.1 x.2):=by intro i x;kernel_rfl
theorem X0Q.ok:X11 Try.prog 13 X3c:=okT X0Q.eq Try.func13 rfl (by kernel_rfl) fun i x h hi hw=>X0Q.pure x.1 x.2 h hw
def X0Q.e:GE:=⟨13,X3c,⟨_,Try.func13,rfl,rfl⟩,X0Q.ok⟩
end Go.Proofs.Ytegmokdppbagiaa.B
