/- Messages:plain. -/
import Derived.Test.YtakllifahpfmpaaCCoreC
set_option linter.unusedVariables false
set_option linter.unusedSimpArgs false
namespace Go.Proofs.Ytakllifahpfmpaa.B
open Go Go.Proofs.Ytakllifahpfmpaa.Bv
abbrev Msg:=Int×(Int×(Int×(Int×(Int×(Int×(Int×(Bool×(List Ent×List UInt8))))))))
abbrev Mv:=X14×List Msg
def mkMsg(c:X14)(to:Int)(m:Msg):Msg:=(m.1,(c.1,(to,(c.2.2.1,m.2.2.2.2))))
def fSay(x:Mv)(to:Int)(m:Msg):Mv:=(x.1,x.2++[mkMsg x.1 to m])
def Xfz(c:X14)(p:Int):Msg:=(5,(c.1,(p,(c.2.2.1,(c.2.2.2.2.2.2.1,(c.2.2.2.2.2.2.2.1,(0,(false,([],[])))))))))
def Xds(c:X14)(p n:Int):Msg:=(3,(c.1,(p,(c.2.2.1,(n - 1,(X2i c (n - 1),(c.2.2.2.2.2.2.2.2.2.1,(false,((c.2.2.2.2.2.2.2.2.1.drop (n - c.2.2.2.2.2.2.1 - 1).toNat).take 4,[])))))))))
def X6m(c:X14)(p:Int):Msg:=if c.2.2.2.2.2.2.2.2.2.2.2.1.getD p.toNat 0≤c.2.2.2.2.2.2.1 then Xfz c p else Xds c p (c.2.2.2.2.2.2.2.2.2.2.2.1.getD p.toNat 0)
def Xgj(x:Mv)(p:Int):Mv:=(x.1,x.2++[X6m x.1 p])
def toN(c:X14):Nat→List Msg
 | 0=>[]
 | n+1=>if (n:Int)=c.1 then toN c n else toN c n++[X6m c n]
def X9i(c:X14):List Msg:=toN c c.2.1.toNat
def XeV(x:Mv):Mv:=(x.1,x.2++X9i x.1)
structure XeC (c:X14):Prop where
 b:0≤c.2.2.2.2.2.2.1∧c.2.2.2.2.2.2.1≤100000
 l:c.2.2.2.2.2.2.2.2.1.length≤1000
 p:0≤c.2.1∧c.2.1≤5
 n:(c.2.2.2.2.2.2.2.2.2.2.2.1.length:Int)=c.2.1
 x:∀j,j<c.2.2.2.2.2.2.2.2.2.2.2.1.length→0≤c.2.2.2.2.2.2.2.2.2.2.2.1.getD j 0∧c.2.2.2.2.2.2.2.2.2.2.2.1.getD j 0≤c.2.2.2.2.2.2.1+c.2.2.2.2.2.2.2.2.1.length+1
def pTo(c:X14)(p:Int):Prop:=XeC c∧0≤p∧p<c.2.1
def Xhg(x:Mv)(p:Int):Prop:=XeC x.1∧0≤p∧p<x.1.2.1∧x.2.length≤1000
def XcM(x:Mv):Prop:=XeC x.1∧x.2.length≤100
def Xi0(x:Mv)(p:Int)(m:Msg):Prop:=x.2.length≤1000
def Xa6(x:Mv)(to:Int)(m:Msg):Unit×Mv:=((),fSay x to m)
def X6j(x:Mv)(p:Int):Unit×Mv:=((),Xgj x p)
def X6R(x:Mv):Unit×Mv:=((),XeV x)
def otI(x:Mv)(u:Unit)(i b0 b1 b2 b3 b4 b5 b6 b7 b9:Int)(b8:List Ent)(b10 b11 b12:List Int)(ms:List Msg):Prop:=(0≤i∧i≤x.1.2.1)∧((b0,(b1,(b2,(b3,(b4,(b5,(b6,(b7,(b8,(b9,(b10,(b11,b12)))))))))))):X14)=x.1∧ms=x.2++toN x.1 i.toNat
def otM(x:Mv)(u:Unit)(i b0 b1 b2 b3 b4 b5 b6 b7 b9:Int)(b8:List Ent)(b10 b11 b12:List Int)(ms:List Msg):Nat:=(x.1.2.1 - i).toNat
end Go.Proofs.Ytakllifahpfmpaa.B
