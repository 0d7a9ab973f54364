/- Engines:what all keys have. -/
import Derived.Test.YtgmafgmjbaoomaaGreatCEng0
import Derived.Test.YtgmafgmjbaoomaaGreatCMrgB
import Derived.Test.YtgmafgmjbaoomaaGreatCSlc
import Derived.Test.YtgmafgmjbaoomaaGreatCCmp
import Derived.Test.YtgmafgmjbaoomaaGreatCInsS
import Derived.Test.YtgmafgmjbaoomaaGreatCRFile
set_option linter.unusedVariables false
set_option linter.unusedSimpArgs false
namespace Go.Proofs.YtgmafgmjbaoomaaGreat.B
open Go Go.Proofs.YtgmafgmjbaoomaaGreat.Bv
abbrev Eng:=Xhd
structure btI (l:List Ser) (k:List UInt8) (u:Unit) (i j:Int):Prop where
 h1:0≤i
 h2:i≤j
 h3:j≤l.length
 h4:∀x,x<i.toNat→Op.bytesLess (l.getD x ([],[])).1 k=true
 h5:∀x,j.toNat≤x→x<l.length→Op.bytesLess (l.getD x ([],[])).1 k=false
def btM(l:List Ser)(k:List UInt8)(u:Unit)(i j:Int):Nat:=(j - i).toNat
def X5I.L(a0:U8q)(a1:U4q)(a2:Unit):Nat→Option X0a:=fun p=>Go.Proofs.YtgmafgmjbaoomaaGreat.Bv.look p [(60,{kp:={hold:=[0,1,2,8],slots:=[9,10],boxes:=[],rows:=[]},T:=T0q,I:=fun st y=>btI a0 a1 a2 y.1 y.2,μ:=fun st y=>btM a0 a1 a2 y.1 y.2})]
structure laI (l top:List Ser) (i:Int) (out:List Ser):Prop where
 h1:0≤i
 h2:i≤top.length
 h3:Xlg out (top.drop i.toNat)=Xlg l top
 h4:Xp8 out
 h5:tot out+tot (top.drop i.toNat)≤100000000
def laM(l top:List Ser)(i:Int)(out:List Ser):Nat:=(top.length - i).toNat
def Xpf.L(a0:U8q)(a1:U8q):Nat→Option X0a:=fun p=>Go.Proofs.YtgmafgmjbaoomaaGreat.Bv.look p [(26,{kp:={hold:=[9,10],slots:=[0,11],boxes:=[],rows:=[{bx:=false,s:=0,i:=0,k:=1000003,e:=109,hot:=true}]},T:=(.pair (.int .i64) X8V),I:=fun st y=>laI a0 a1 y.1 y.2,μ:=fun st y=>laM a0 a1 y.1 y.2})]
structure raI (l:List Ser) (f i:Int) (out:List Ser):Prop where
 h1:0≤i
 h2:i≤l.length
 h3:out=XjC (l.take i.toNat) f
 h4:(out.length:Int)≤i
def raM(l:List Ser)(f i:Int)(out:List Ser):Nat:=(l.length - i).toNat
def XmQ.L(a0:U8q)(a1:Int):Nat→Option X0a:=fun p=>Go.Proofs.YtgmafgmjbaoomaaGreat.Bv.look p [(58,{kp:={hold:=[1,10,11],slots:=[5,12],boxes:=[],rows:=[{bx:=false,s:=5,i:=0,k:=1000643,e:=109,hot:=true}]},T:=(.pair (.int .i64) X8V),I:=fun st y=>raI a0 a1 y.1 y.2,μ:=fun st y=>raM a0 a1 y.1 y.2})]
end Go.Proofs.YtgmafgmjbaoomaaGreat.B
