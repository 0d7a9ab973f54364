/- Values of the program's types:how large,the same,marked. -/
import Derived.Test.YtegmokdppbagiaaCCover
set_option linter.unusedVariables false
set_option linter.unusedSimpArgs false
namespace Go.Proofs.Ytegmokdppbagiaa.B
open Go Go.Proofs.Ytegmokdppbagiaa.Bv
def cpI{α:Type}(d:α)(a:List α)(i:Int)(out:List α):Prop:=0≤i∧i≤a.length∧out=a.take i.toNat++List.replicate (a.length - i.toNat) d
def cpM{α:Type}(a:List α)(i:Int)(out:List α):Nat:=(a.length - i).toNat
def eqLI{α:Type}(a b:List α)(i:Int):Prop:=0≤i∧i≤a.length∧a.length=b.length∧a.take i.toNat=b.take i.toNat
def eqLM{α:Type}(a b:List α)(i:Int):Nat:=(a.length - i).toNat
def cL{α:Type}(c:α→Int)(l:List α):Int:=(l.map c).sum
def mL{α:Type}(c:α→Int)(m:α→Int→α):List α→Int→List α
 | [],_=>[]
 | x::l,k=>m x k::mL c m l (k+c x)
def oL{α:Type}(c:α→Int)(o:α→Int→Bool):List α→Int→Bool
 | [],_=>true
 | x::l,k=>o x k&&oL c o l (k+c x)
theorem Xin{α:Type}(c:α→Int)(x:α)(l:List α):cL c (x::l)=c x+cL c l:=by simp[cL]
structure mkI {α:Type} (c:α→Int) (m:α→Int→α) (a:List α) (k0 k i:Int) (l:List α):Prop where
 h1:0≤i
 h2:i≤a.length
 h3:k=k0+cL c (a.take i.toNat)
 h4:l=mL c m (a.take i.toNat) k0++a.drop i.toNat
def mkM{α:Type}(a:List α)(k0 k i:Int)(l:List α):Nat:=(a.length - i).toNat
structure hdI {α:Type} (c:α→Int) (o:α→Int→Bool) (a:List α) (k0 k i:Int):Prop where
 h1:0≤i
 h2:i≤a.length
 h3:k=k0+cL c (a.take i.toNat)
 h4:oL c o a k0=oL c o (a.drop i.toNat) k
def hdM{α:Type}(a:List α)(k0 k i:Int):Nat:=(a.length - i).toNat
def mtGo(n:Nat)(out:List UInt8):List UInt8:=if n=0 then out else mtGo (n / 10) (UInt8.ofNat (48+n % 10)::out)
termination_by n
decreasing_by omega
def mtI(k0 k:Int)(out:List UInt8):Prop:=0≤k∧0<k0∧out.length+k≤k0∧k0≤4611686018427387904∧mtGo k.toNat out=mtGo k0.toNat []
def mtM(k0 k:Int)(out:List UInt8):Nat:=k.toNat
def XgO.L(a0:Int):Nat→Option X0g:=fun p=>Go.Proofs.Ytegmokdppbagiaa.Bv.look p [(60,{kp:={hold:=[],slots:=[0,3],boxes:=[],rows:=[]},T:=(.pair (.int .i64) .str),I:=fun st y=>mtI a0 y.1 y.2,μ:=fun st y=>mtM a0 y.1 y.2})]
def c_1(x:Int):Int:=1
def m_Int(x k:Int):Int:=k
def o_Int(x k:Int):Bool:=decide (x=k)
def Xia.L(a0:(List Int)):Nat→Option X0g:=fun p=>Go.Proofs.Ytegmokdppbagiaa.Bv.look p [(58,{kp:={hold:=[0,3],slots:=[4],boxes:=[],rows:=[{bx:=false,s:=3,i:=0,k:=1000387,e:=3,hot:=true}]},T:=(.pair (.int .i64) (.list (.int .i64))),I:=fun st y=>cpI (0:Int) a0 y.1 y.2,μ:=fun st y=>cpM a0 y.1 y.2})]
def XhG.L(a0:(List Int))(a1:(List Int)):Nat→Option X0g:=fun p=>Go.Proofs.Ytegmokdppbagiaa.Bv.look p [(58,{kp:={hold:=[0,1],slots:=[5],boxes:=[],rows:=[]},T:=(.int .i64),I:=fun st y=>eqLI a0 a1 y,μ:=fun st y=>eqLM a0 a1 y})]
def XgG.L(a0:(List Int))(a1:Int):Nat→Option X0g:=fun p=>Go.Proofs.Ytegmokdppbagiaa.Bv.look p [(26,{kp:={hold:=[0],slots:=[1,5],boxes:=[],rows:=[{bx:=false,s:=0,i:=0,k:=2,e:=3,hot:=true}]},T:=(.pair (.int .i64) (.pair (.int .i64) (.list (.int .i64)))),I:=fun st y=>mkI c_1 m_Int a0 a1 y.1 y.2.1 y.2.2,μ:=fun st y=>mkM a0 a1 y.1 y.2.1 y.2.2})]
def Xh1.L(a0:(List Int))(a1:Int):Nat→Option X0g:=fun p=>Go.Proofs.Ytegmokdppbagiaa.Bv.look p [(26,{kp:={hold:=[0],slots:=[1,5],boxes:=[],rows:=[]},T:=T0q,I:=fun st y=>hdI c_1 o_Int a0 a1 y.1 y.2,μ:=fun st y=>hdM a0 a1 y.1 y.2})]
end Go.Proofs.Ytegmokdppbagiaa.B
