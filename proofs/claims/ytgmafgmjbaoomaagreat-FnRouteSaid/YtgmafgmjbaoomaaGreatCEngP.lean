/- Engines:what a put comes to. -/
import Derived.Test.YtgmafgmjbaoomaaGreatCEngG
set_option linter.unusedVariables false
set_option linter.unusedSimpArgs false
namespace Go.Proofs.YtgmafgmjbaoomaaGreat.B
open Go Go.Proofs.YtgmafgmjbaoomaaGreat.Bv
def Xn4(k:Str)(p:List Pt):Bool→List Ser→List Ser
 | put,[]=>if put then [] else [(k,p)]
 | put,x::l=>(if put=false∧Op.bytesLess k x.1=true then [(k,p)] else [])++((if x.1=k then(x.1,X7W x.2 p) else x)::Xn4 k p (put||(Op.bytesLess k x.1||decide (x.1=k))) l)
def fInto(l:List Ser)(k:Str)(p:List Pt):List Ser:=Xn4 k p false l
structure itI (l:List Ser) (k:Str) (p:List Pt) (out:List Ser) (put:Bool) (i:Int):Prop where
 h1:0≤i
 h2:i≤l.length
 h3:out++Xn4 k p put (l.drop i.toNat)=fInto l k p
 h4:(out.length:Int)≤2*i
def itM(l:List Ser)(k:Str)(p:List Pt)(out:List Ser)(put:Bool)(i:Int):Nat:=(l.length - i).toNat
end Go.Proofs.YtgmafgmjbaoomaaGreat.B
