/- Numbers of fixed width,sums,frames. -/
import Derived.Test.YtegmokdppbagiaaCNum
set_option linter.unusedVariables false
set_option linter.unusedSimpArgs false
namespace Go.Proofs.Ytegmokdppbagiaa.B
open Go Go.Proofs.Ytegmokdppbagiaa.Bv
def fx:Nat→Nat→List Int
 | 0,_=>[]
 | w+1,n=>fx w (n / 256)++[((n % 256:Nat):Int)]
def fxJ(n0 w i:Int)(out:List Int):Prop:=-1≤i∧i<w∧1≤w∧w≤7∧0≤n0∧n0<256 ^ w.toNat∧out=fx (w - 1 - i).toNat (n0 / 256 ^ (i+1).toNat).toNat
def fxN(n0 w i:Int)(out:List Int):Nat:=(i+1).toNat
def Xhe.L(a0:Int)(a1:Int):Nat→Option X0i:=fun p=>Go.Proofs.Ytegmokdppbagiaa.Bv.look p [(122,{kp:={hold:=[0],slots:=[5,6],boxes:=[],rows:=[{bx:=false,s:=5,i:=0,k:=1000643,e:=5,hot:=true}]},T:=(.pair (.int .i64) (.list (.int .u8))),I:=fun st y=>fxJ a0 a1 y.1 y.2,μ:=fun st y=>fxN a0 a1 y.1 y.2})]
def XhC(c:Nat):Nat:=if c % 2=1 then(c / 2) ^^^ 2197175160 else c / 2
def Xcf:Nat→Nat→Nat
 | 0,c=>c
 | k+1,c=>XhC (Xcf k c)
def XgJ(c:Nat)(b:UInt8):Nat:=Xcf 8 (c ^^^ b.toNat)
def crcF(s:List UInt8):Nat:=s.foldl XgJ 4294967295
def crI(s:List UInt8)(c i:Int):Prop:=0≤i∧i≤s.length∧c=((crcF (s.take i.toNat):Nat):Int)
def crM(s:List UInt8)(c i:Int):Nat:=(s.length - i).toNat
def crJ(s:List UInt8)(i c k:Int):Prop:=0≤i∧i<s.length∧0≤k∧k≤8∧c=((Xcf k.toNat (crcF (s.take i.toNat) ^^^ (s.getD i.toNat 0).toNat):Nat):Int)
def crN(s:List UInt8)(i c k:Int):Nat:=(8 - k).toNat
def impl_Crc.L(a0:U9q):Nat→Option X0i:=fun p=>Go.Proofs.Ytegmokdppbagiaa.Bv.look p [(58,{kp:={hold:=[0,7],slots:=[3,8],boxes:=[],rows:=[]},T:=(.pair (.int .u32) (.int .i64)),I:=fun st y=>crI a0 y.1 y.2,μ:=fun st y=>crM a0 y.1 y.2}),(29902,{kp:={hold:=[0,7,8],slots:=[3,17],boxes:=[],rows:=[]},T:=(.pair (.int .u32) (.int .i64)),I:=fun st y=>crJ a0 (Xhj (Xa8 st 8 0)) y.1 y.2,μ:=fun st y=>crN a0 (Xhj (Xa8 st 8 0)) y.1 y.2})]
theorem X34{a l h:Int}:fIn a l h=true↔l≤a∧a≤h:=by simp[fIn]
theorem XhH{a l h:Int}:fIn a l h=false↔¬(l≤a∧a≤h):=by rw[←X34];simp
end Go.Proofs.Ytegmokdppbagiaa.B
