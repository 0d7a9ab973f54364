/- Files of series:shown. -/
import Derived.Test.YtgmafgmjbaoomaaGreatCBlk
import Derived.Test.YtgmafgmjbaoomaaGreatCTypes
set_option linter.unusedVariables false
set_option linter.unusedSimpArgs false
namespace Go.Proofs.YtgmafgmjbaoomaaGreat.B
open Go Go.Proofs.YtgmafgmjbaoomaaGreat.Bv
def XaE(s:Ser)(n:Nat):List UInt8:=X1H s.1.length++(s.1++(X1H n++(X1H (X0c s.2).length++(X1H (s.2.getD 0 (0,0)).1++X1H (s.2.getD (s.2.length - 1) (0,0)).1))))
def Xkj(p:List UInt8×List UInt8)(s:Ser):List UInt8×List UInt8:=(p.1++X0c s.2,p.2++XaE s p.1.length)
def Xo1(l:List Ser):List UInt8×List UInt8:=l.foldl Xkj ([116,115,98,49],[])
def XfF(p:List UInt8×List UInt8):List UInt8:=p.1++(p.2++X14 p.1.length 4)
def X9Z(l:List Ser):List UInt8:=if X8C l=true∧l≠[] then XfF (Xo1 l)++X14 (XeC (XfF (Xo1 l))) 4 else []
theorem Xav(l:List Pt):(X0c l).length≤2014:=by
 unfold X0c;split
 · exact XdZ _
 · simp
theorem Xjo{l:List Ser}(h:X8C l=true):l.length≤5∧∀i,i<l.length→(l.getD i ([],[])).1.length≤8∧1≤(l.getD i ([],[])).1.length∧(l.getD i ([],[])).2.length≠0∧X1G (l.getD i ([],[])).2=true:=by
 simp only[X8C,Bool.and_eq_true,decide_eq_true_eq,Xbi]at h
 refine⟨h.1,fun i hi=>?_⟩
 have:=h.2 i hi
 simp only[srAt,Bool.and_eq_true,decide_eq_true_eq,X7L,X0u]at this
 exact⟨by omega,by omega,this.2.2.1,this.2.2.2⟩
structure ftI (l:List Ser) (t x:List UInt8) (i:Int):Prop where
 h1:0≤i
 h2:i≤l.length
 h3:X8C l=true
 h4:l≠[]
 h5:(t,x)=Xo1 (l.take i.toNat)
 h6:(t.length:Int)≤4+2014*i
 h7:(x.length:Int)≤43*i
def ftM(l:List Ser)(t x:List UInt8)(i:Int):Nat:=(l.length - i).toNat
def Xlw.L(a0:U8q):Nat→Option X0a:=fun p=>Go.Proofs.YtgmafgmjbaoomaaGreat.Bv.look p [(250,{kp:={hold:=[0],slots:=[3,4,5],boxes:=[],rows:=[]},T:=(.pair .str Xir),I:=fun st y=>ftI a0 y.1 y.2.1 y.2.2,μ:=fun st y=>ftM a0 y.1 y.2.1 y.2.2})]
def Xl2.L(a0:U8q):Nat→Option X0a:=fun p=>Go.Proofs.YtgmafgmjbaoomaaGreat.Bv.look p [(122,{kp:={hold:=[16,17],slots:=[3,4,18],boxes:=[],rows:=[]},T:=(.pair .str Xir),I:=fun st y=>ftI a0 y.1 y.2.1 y.2.2,μ:=fun st y=>ftM a0 y.1 y.2.1 y.2.2})]
end Go.Proofs.YtgmafgmjbaoomaaGreat.B
