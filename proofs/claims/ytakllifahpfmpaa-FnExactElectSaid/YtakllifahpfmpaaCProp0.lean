/- A leader counts:plain. -/
import Derived.Test.YtakllifahpfmpaaCMov0
set_option linter.unusedVariables false
set_option linter.unusedSimpArgs false
namespace Go.Proofs.Ytakllifahpfmpaa.B
open Go Go.Proofs.Ytakllifahpfmpaa.Bv
def cnt(l:List Int)(n:Int):Nat→Int
 | 0=>0
 | k+1=>if n≤l.getD k 0 then cnt l n k+1 else cnt l n k
def XfZ(c:X14)(n:Int):Bool:=decide (2*cnt c.2.2.2.2.2.2.2.2.2.2.2.2 n c.2.2.2.2.2.2.2.2.2.2.2.2.length>c.2.1)&&decide (X2i c n=c.2.2.1)
def Xd9(c:X14):Nat→Int
 | 0=>c.2.2.2.2.2.2.2.2.2.1
 | k+1=>if XfZ c (c.2.2.2.2.2.2.2.2.2.1+k+1)=true then c.2.2.2.2.2.2.2.2.2.1+k+1 else Xd9 c k
def X28(c:X14):Int:=c.2.2.2.2.2.2.1+c.2.2.2.2.2.2.2.2.1.length
def Xhh(c:X14):Int:=Xd9 c (X28 c - c.2.2.2.2.2.2.2.2.2.1).toNat
def X9z(c:X14)(n:Int):X14:=(c.1,(c.2.1,(c.2.2.1,(c.2.2.2.1,(c.2.2.2.2.1,(c.2.2.2.2.2.1,(c.2.2.2.2.2.2.1,(c.2.2.2.2.2.2.2.1,(c.2.2.2.2.2.2.2.2.1,(n,(c.2.2.2.2.2.2.2.2.2.2.1,(c.2.2.2.2.2.2.2.2.2.2.2.1,c.2.2.2.2.2.2.2.2.2.2.2.2))))))))))))
def X2F(c:X14):X14:=X9z c (Xhh c)
def X4q(c:X14):X14:=(c.1,(c.2.1,(c.2.2.1,(c.2.2.2.1,(c.2.2.2.2.1,(c.2.2.2.2.2.1,(c.2.2.2.2.2.2.1,(c.2.2.2.2.2.2.2.1,(c.2.2.2.2.2.2.2.2.1,(c.2.2.2.2.2.2.2.2.2.1,(c.2.2.2.2.2.2.2.2.2.2.1,(c.2.2.2.2.2.2.2.2.2.2.2.1.set c.1.toNat (X28 c+1),c.2.2.2.2.2.2.2.2.2.2.2.2.set c.1.toNat (X28 c)))))))))))))
def X4u(c:X14)(d:List UInt8):X14:=(c.1,(c.2.1,(c.2.2.1,(c.2.2.2.1,(c.2.2.2.2.1,(c.2.2.2.2.2.1,(c.2.2.2.2.2.2.1,(c.2.2.2.2.2.2.2.1,(c.2.2.2.2.2.2.2.2.1++[(c.2.2.1,d)],(c.2.2.2.2.2.2.2.2.2.1,(c.2.2.2.2.2.2.2.2.2.2.1,(c.2.2.2.2.2.2.2.2.2.2.2.1,c.2.2.2.2.2.2.2.2.2.2.2.2))))))))))))
def XeF(c:X14):Bool:=decide (c.2.2.2.2.2.2.2.2.1.length<60)&&decide (X28 c<100000)
def X1M(c:X14)(d:List UInt8):X14:=X2F (X4q (if XeF c=true then X4u c d else c))
structure Xc1 (c:X14):Prop where
 m:XeC c
 mt:(c.2.2.2.2.2.2.2.2.2.2.2.2.length:Int)=c.2.1
 id:0≤c.1∧c.1<c.2.1
 com:c.2.2.2.2.2.2.1≤c.2.2.2.2.2.2.2.2.2.1∧c.2.2.2.2.2.2.2.2.2.1≤X28 c
def Xfc(c:X14)(d:List UInt8):Prop:=Xc1 c
def cuI(x:Mv)(n b0 b1 b2 b3 b4 b5 b6 b7 b9:Int)(b8:List Ent)(b10 b11 b12:List Int)(ms:List Msg):Prop:=(x.1.2.2.2.2.2.2.2.2.2.1≤n∧n≤X28 x.1)∧((b0,(b1,(b2,(b3,(b4,(b5,(b6,(b7,(b8,(b9,(b10,(b11,b12)))))))))))):X14)=x.1∧ms=x.2∧Xhh x.1=Xd9 x.1 (n - x.1.2.2.2.2.2.2.2.2.2.1).toNat
def cuM(x:Mv)(n b0 b1 b2 b3 b4 b5 b6 b7 b9:Int)(b8:List Ent)(b10 b11 b12:List Int)(ms:List Msg):Nat:=(n - x.1.2.2.2.2.2.2.2.2.2.1).toNat
def cvI(x:Mv)(n v i b0 b1 b2 b3 b4 b5 b6 b7 b9:Int)(b8:List Ent)(b10 b11 b12:List Int)(ms:List Msg):Prop:=(0≤i∧i≤x.1.2.2.2.2.2.2.2.2.2.2.2.2.length)∧((b0,(b1,(b2,(b3,(b4,(b5,(b6,(b7,(b8,(b9,(b10,(b11,b12)))))))))))):X14)=x.1∧ms=x.2∧v=cnt x.1.2.2.2.2.2.2.2.2.2.2.2.2 n i.toNat
def cvM(x:Mv)(n v i b0 b1 b2 b3 b4 b5 b6 b7 b9:Int)(b8:List Ent)(b10 b11 b12:List Int)(ms:List Msg):Nat:=(x.1.2.2.2.2.2.2.2.2.2.2.2.2.length - i).toNat
def swI(a:X14)(n b0 b1 b2 b3 b4 b5 b6 b7 b9 z0 z1 z2 z3 z4 z5 z6 z7:Int)(z8:List Ent)(z9:Int)(b8:List Ent)(b10 b11 b12 z10 z11 z12:List Int):Prop:=(a.2.2.2.2.2.2.2.2.2.1≤n∧n≤X28 a)∧((b0,(b1,(b2,(b3,(b4,(b5,(b6,(b7,(b8,(b9,(b10,(b11,b12)))))))))))):X14)=a∧Xhh a=Xd9 a (n - a.2.2.2.2.2.2.2.2.2.1).toNat
def swM(a:X14)(n b0 b1 b2 b3 b4 b5 b6 b7 b9 z0 z1 z2 z3 z4 z5 z6 z7:Int)(z8:List Ent)(z9:Int)(b8:List Ent)(b10 b11 b12 z10 z11 z12:List Int):Nat:=(n - a.2.2.2.2.2.2.2.2.2.1).toNat
def sxI(a:X14)(n v i b0 b1 b2 b3 b4 b5 b6 b7 b9 z0 z1 z2 z3 z4 z5 z6 z7:Int)(z8:List Ent)(z9:Int)(b8:List Ent)(b10 b11 b12 z10 z11 z12:List Int):Prop:=(0≤i∧i≤a.2.2.2.2.2.2.2.2.2.2.2.2.length)∧((b0,(b1,(b2,(b3,(b4,(b5,(b6,(b7,(b8,(b9,(b10,(b11,b12)))))))))))):X14)=a∧v=cnt a.2.2.2.2.2.2.2.2.2.2.2.2 n i.toNat
def sxM(a:X14)(n v i b0 b1 b2 b3 b4 b5 b6 b7 b9 z0 z1 z2 z3 z4 z5 z6 z7:Int)(z8:List Ent)(z9:Int)(b8:List Ent)(b10 b11 b12 z10 z11 z12:List Int):Nat:=(a.2.2.2.2.2.2.2.2.2.2.2.2.length - i).toNat
def X5I(x:Mv):Unit×Mv:=((),(X2F x.1,x.2))
def fOwn(x:Mv):Mv:=XeV (X2F (X4q x.1),x.2)
def Xbb(x:Mv):Unit×Mv:=((),fOwn x)
def XeR(x:Mv):Prop:=Xc1 x.1
def pOwn(x:Mv):Prop:=Xc1 x.1∧x.2.length≤100
def X7G(x:Mv):Bool×Mv:=(XeF x.1,x)
def XhI(x:Mv):Prop:=XeC x.1
end Go.Proofs.Ytakllifahpfmpaa.B
