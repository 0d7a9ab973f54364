/- Engines:right or not,in the program. -/
import Derived.Test.YtgmafgmjbaoomaaGreatCEng
set_option linter.unusedVariables false
set_option linter.unusedSimpArgs false
namespace Go.Proofs.YtgmafgmjbaoomaaGreat.B
open Go Go.Proofs.YtgmafgmjbaoomaaGreat.Bv
def fCnt(l:List Ser):Int:=cL (fun x:Ser=>(x.2.length:Int)) l
def cnI(l:List Ser)(n i:Int):Prop:=0≤i∧i≤l.length∧n=fCnt (l.take i.toNat)
def cnM(l:List Ser)(n i:Int):Nat:=(l.length - i).toNat
def dLow(c:Eng)(x:Ser):Bool:=decide ((x.2.getD 0 (0,0)).1<c.1)
def ilI(l:List Ser)(c:Eng)(i:Int):Prop:=0≤i∧i≤l.length∧∀j,j<i.toNat→dLow c (l.getD j ([],[]))=false
def ilM(l:List Ser)(c:Eng)(i:Int):Nat:=(l.length - i).toNat
def fCont(l:List Ser)(c:Eng):Bool:=l.any (dLow c)
def Xnm.L(a0:U8q):Nat→Option X0a:=fun p=>Go.Proofs.YtgmafgmjbaoomaaGreat.Bv.look p [(58,{kp:={hold:=[6,7],slots:=[3,8],boxes:=[],rows:=[]},T:=T0q,I:=fun st y=>cnI a0 y.1 y.2,μ:=fun st y=>cnM a0 y.1 y.2})]
def X82.L(a0:U8q)(a1:Xhd):Nat→Option X0a:=fun p=>Go.Proofs.YtgmafgmjbaoomaaGreat.Bv.look p [(26,{kp:={hold:=[0,1,7],slots:=[8],boxes:=[],rows:=[]},T:=(.int .i64),I:=fun st y=>ilI a0 a1 y,μ:=fun st y=>ilM a0 a1 y})]
def fLay(fs:List U4q):List (List Ser):=fs.map fun f=>(XcC f).1
def okF(fs:List U4q):Bool:=fs.all fun f=>(XcC f).2
def Xcu(e:Eng):List Ser×Bool:=if okF e.2.2=true then(XjC (Xlg (Xkk (fLay e.2.2)) e.2.1) e.1,true) else([],false)
def XnF(e:Eng):Prop:=(∀f∈e.2.2,pStr f)∧Xp8 e.2.1∧tot e.2.1≤100000∧e.2.2.length≤1000
structure plI (e:Eng) (i:Int) (fl:Int) (ca:List Ser) (fi:List U4q) (out:List Ser):Prop where
 h0:((fl,(ca,fi)):Eng)=e
 h1:0≤i
 h2:i≤e.2.2.length
 h3:out=Xkk (fLay (e.2.2.take i.toNat))
 h4:Xp8 out
 h5:tot out≤305*i
 h6:okF (e.2.2.take i.toNat)=true
def plM(e:Eng)(i:Int)(fl:Int)(ca:List Ser)(fi:List U4q)(out:List Ser):Nat:=(e.2.2.length - i).toNat
def XnZ.L(a0:Xhd):Nat→Option X0a:=fun p=>Go.Proofs.YtgmafgmjbaoomaaGreat.Bv.look p [(58,{kp:={hold:=[1,11,12],slots:=[4,13],boxes:=[2],rows:=[{bx:=false,s:=4,i:=0,k:=1000515,e:=109,hot:=true}]},T:=(.pair (.int .i64) (.pair (.int .i64) (.pair X8V (.pair (.list .str) X8V)))),I:=fun st y=>plI a0 y.1 y.2.1 y.2.2.1 y.2.2.2.1 y.2.2.2.2,μ:=fun st y=>plM a0 y.1 y.2.1 y.2.2.1 y.2.2.2.1 y.2.2.2.2})]
def fHead(e:Eng):Bool:=X6n e.1&&(X8C e.2.1&&(decide (fCnt e.2.1≤40)&&(decide (e.2.2.length≤4)&&!fCont e.2.1 e)))
def XlL(e:Eng):List Ser×Bool:=if fHead e=true then(if (Xcu e).2=true then((Xcu e).1,X8C (Xcu e).1) else((Xcu e).1,false)) else([],false)
def Xc7(e:Eng):Bool:=(XlL e).2
end Go.Proofs.YtgmafgmjbaoomaaGreat.B
