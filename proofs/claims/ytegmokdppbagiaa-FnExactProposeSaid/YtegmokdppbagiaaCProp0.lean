/- A leader counts:plain. -/
import Derived.Test.YtegmokdppbagiaaCMov0
set_option linter.unusedVariables false
set_option linter.unusedSimpArgs false
namespace Go.Proofs.Ytegmokdppbagiaa.B
open Go Go.Proofs.Ytegmokdppbagiaa.Bv
def cnt(l:List Int)(n:Int):Nat→Int
 | 0=>0
 | k+1=>if n≤l.getD k 0 then cnt l n k+1 else cnt l n k
def Xfj(c:X1Q)(n:Int):Bool:=decide (2*cnt c.2.2.2.2.2.2.2.2.2.2.2.2 n c.2.2.2.2.2.2.2.2.2.2.2.2.length>c.2.1)&&decide (X2C c n=c.2.2.1)
def Xc5(c:X1Q):Nat→Int
 | 0=>c.2.2.2.2.2.2.2.2.2.1
 | k+1=>if Xfj c (c.2.2.2.2.2.2.2.2.2.1+k+1)=true then c.2.2.2.2.2.2.2.2.2.1+k+1 else Xc5 c k
def X2z(c:X1Q):Int:=c.2.2.2.2.2.2.1+c.2.2.2.2.2.2.2.2.1.length
def Xg3(c:X1Q):Int:=Xc5 c (X2z c - c.2.2.2.2.2.2.2.2.2.1).toNat
def Xbi(c:X1Q)(n:Int):X1Q:=(c.1,(c.2.1,(c.2.2.1,(c.2.2.2.1,(c.2.2.2.2.1,(c.2.2.2.2.2.1,(c.2.2.2.2.2.2.1,(c.2.2.2.2.2.2.2.1,(c.2.2.2.2.2.2.2.2.1,(n,(c.2.2.2.2.2.2.2.2.2.2.1,(c.2.2.2.2.2.2.2.2.2.2.2.1,c.2.2.2.2.2.2.2.2.2.2.2.2))))))))))))
def X1I(c:X1Q):X1Q:=Xbi c (Xg3 c)
def X2e(c:X1Q):X1Q:=(c.1,(c.2.1,(c.2.2.1,(c.2.2.2.1,(c.2.2.2.2.1,(c.2.2.2.2.2.1,(c.2.2.2.2.2.2.1,(c.2.2.2.2.2.2.2.1,(c.2.2.2.2.2.2.2.2.1,(c.2.2.2.2.2.2.2.2.2.1,(c.2.2.2.2.2.2.2.2.2.2.1,(c.2.2.2.2.2.2.2.2.2.2.2.1.set c.1.toNat (X2z c+1),c.2.2.2.2.2.2.2.2.2.2.2.2.set c.1.toNat (X2z c)))))))))))))
def X1y(c:X1Q)(d:List UInt8):X1Q:=(c.1,(c.2.1,(c.2.2.1,(c.2.2.2.1,(c.2.2.2.2.1,(c.2.2.2.2.2.1,(c.2.2.2.2.2.2.1,(c.2.2.2.2.2.2.2.1,(c.2.2.2.2.2.2.2.2.1++[(c.2.2.1,d)],(c.2.2.2.2.2.2.2.2.2.1,(c.2.2.2.2.2.2.2.2.2.2.1,(c.2.2.2.2.2.2.2.2.2.2.2.1,c.2.2.2.2.2.2.2.2.2.2.2.2))))))))))))
def Xc2(c:X1Q):Bool:=decide (c.2.2.2.2.2.2.2.2.1.length<60)&&decide (X2z c<100000)
def X6k(c:X1Q)(d:List UInt8):X1Q:=X1I (X2e (if Xc2 c=true then X1y c d else c))
structure Xc4 (c:X1Q):Prop where
 m:Xe1 c
 mt:(c.2.2.2.2.2.2.2.2.2.2.2.2.length:Int)=c.2.1
 id:0≤c.1∧c.1<c.2.1
 com:c.2.2.2.2.2.2.1≤c.2.2.2.2.2.2.2.2.2.1∧c.2.2.2.2.2.2.2.2.2.1≤X2z c
def Xeq(c:X1Q)(d:List UInt8):Prop:=Xc4 c
def X0y(c:X1Q)(d:List UInt8):X1Q×(List Msg×Int):=if X06 c=true then(if c.2.2.2.2.1=3∧d.length≤900∧Xc2 c=true then(X1I (X2e (X1y c d)),(Xbk (X1I (X2e (X1y c d))),X2z (X1y c d))) else(c,([],0))) else(XgN,([],0))
def X51(c:X1Q)(d:List UInt8):Prop:=X2G c
def cuI(x:Mv)(n b0 b1 b2 b3 b4 b5 b6 b7 b9:Int)(b8:List Ent)(b10 b11 b12:List Int)(ms:List Msg):Prop:=(x.1.2.2.2.2.2.2.2.2.2.1≤n∧n≤X2z x.1)∧((b0,(b1,(b2,(b3,(b4,(b5,(b6,(b7,(b8,(b9,(b10,(b11,b12)))))))))))):X1Q)=x.1∧ms=x.2∧Xg3 x.1=Xc5 x.1 (n - x.1.2.2.2.2.2.2.2.2.2.1).toNat
def cuM(x:Mv)(n b0 b1 b2 b3 b4 b5 b6 b7 b9:Int)(b8:List Ent)(b10 b11 b12:List Int)(ms:List Msg):Nat:=(n - x.1.2.2.2.2.2.2.2.2.2.1).toNat
def cvI(x:Mv)(n v i b0 b1 b2 b3 b4 b5 b6 b7 b9:Int)(b8:List Ent)(b10 b11 b12:List Int)(ms:List Msg):Prop:=(0≤i∧i≤x.1.2.2.2.2.2.2.2.2.2.2.2.2.length)∧((b0,(b1,(b2,(b3,(b4,(b5,(b6,(b7,(b8,(b9,(b10,(b11,b12)))))))))))):X1Q)=x.1∧ms=x.2∧v=cnt x.1.2.2.2.2.2.2.2.2.2.2.2.2 n i.toNat
def cvM(x:Mv)(n v i b0 b1 b2 b3 b4 b5 b6 b7 b9:Int)(b8:List Ent)(b10 b11 b12:List Int)(ms:List Msg):Nat:=(x.1.2.2.2.2.2.2.2.2.2.2.2.2.length - i).toNat
def swI(a:X1Q)(n b0 b1 b2 b3 b4 b5 b6 b7 b9 z0 z1 z2 z3 z4 z5 z6 z7:Int)(z8:List Ent)(z9:Int)(b8:List Ent)(b10 b11 b12 z10 z11 z12:List Int):Prop:=(a.2.2.2.2.2.2.2.2.2.1≤n∧n≤X2z a)∧((b0,(b1,(b2,(b3,(b4,(b5,(b6,(b7,(b8,(b9,(b10,(b11,b12)))))))))))):X1Q)=a∧Xg3 a=Xc5 a (n - a.2.2.2.2.2.2.2.2.2.1).toNat
def swM(a:X1Q)(n b0 b1 b2 b3 b4 b5 b6 b7 b9 z0 z1 z2 z3 z4 z5 z6 z7:Int)(z8:List Ent)(z9:Int)(b8:List Ent)(b10 b11 b12 z10 z11 z12:List Int):Nat:=(n - a.2.2.2.2.2.2.2.2.2.1).toNat
def sxI(a:X1Q)(n v i b0 b1 b2 b3 b4 b5 b6 b7 b9 z0 z1 z2 z3 z4 z5 z6 z7:Int)(z8:List Ent)(z9:Int)(b8:List Ent)(b10 b11 b12 z10 z11 z12:List Int):Prop:=(0≤i∧i≤a.2.2.2.2.2.2.2.2.2.2.2.2.length)∧((b0,(b1,(b2,(b3,(b4,(b5,(b6,(b7,(b8,(b9,(b10,(b11,b12)))))))))))):X1Q)=a∧v=cnt a.2.2.2.2.2.2.2.2.2.2.2.2 n i.toNat
def sxM(a:X1Q)(n v i b0 b1 b2 b3 b4 b5 b6 b7 b9 z0 z1 z2 z3 z4 z5 z6 z7:Int)(z8:List Ent)(z9:Int)(b8:List Ent)(b10 b11 b12 z10 z11 z12:List Int):Nat:=(a.2.2.2.2.2.2.2.2.2.2.2.2.length - i).toNat
def X5g(x:Mv):Unit×Mv:=((),(X1I x.1,x.2))
def fOwn(x:Mv):Mv:=XeE (X1I (X2e x.1),x.2)
def XdR(x:Mv):Unit×Mv:=((),fOwn x)
def Xex(x:Mv):Prop:=Xc4 x.1
def pOwn(x:Mv):Prop:=Xc4 x.1∧x.2.length≤100
def X7g(x:Mv):Bool×Mv:=(Xc2 x.1,x)
def XgB(x:Mv):Prop:=Xe1 x.1
end Go.Proofs.Ytegmokdppbagiaa.B
