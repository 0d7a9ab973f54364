/- What the laws of messages say of sizes. -/
import Derived.Test.YtegmokdppbagiaaCLaw
import Derived.Test.YtegmokdppbagiaaCTCore
import Derived.Test.YtegmokdppbagiaaCTMsg
import Derived.Test.YtegmokdppbagiaaCBeat
set_option linter.unusedVariables false
set_option linter.unusedSimpArgs false
namespace Go.Proofs.Ytegmokdppbagiaa.B
open Go Go.Proofs.Ytegmokdppbagiaa.Bv
theorem XeI(x:Int×List UInt8):0≤X09 x∧X09 x≤64:=by simp[X09]
theorem XgE(x:Int):0≤c_1 x∧c_1 x≤64:=by simp[c_1]
def XeR(x:X2Z):Prop:=x.2.2.2.2.2.2.2.2.1.length≤1048576∧x.2.2.2.2.2.2.2.2.2.2.1.length≤1048576∧x.2.2.2.2.2.2.2.2.2.2.2.1.length≤1048576∧x.2.2.2.2.2.2.2.2.2.2.2.2.length≤1048576
theorem XgW{x:X2Z}(h:X7V x≤1048576):XeR x:=by
 unfold X7V nL at h;unfold XeR;omega
theorem Xha{x:X2Z}(h:XeR x):X21 x:=by obtain⟨h1,h2,h3,h4⟩:=h;unfold X21;omega
theorem Xc2{x:X2Z}(h:XeR x):X2J x 1∧¬(1+X2j x<0):=by
 obtain⟨h1,h2,h3,h4⟩:=h
 have a1:=X9k XeI x.2.2.2.2.2.2.2.2.1
 have a2:=X9k XgE x.2.2.2.2.2.2.2.2.2.2.1
 have a3:=X9k XgE x.2.2.2.2.2.2.2.2.2.2.2.1
 have a4:=X9k XgE x.2.2.2.2.2.2.2.2.2.2.2.2
 have:=Xby x
 unfold X2J X2j at*;omega
theorem XfX{x:X2Z}(h:XeR x):X3o (X7u x 1) 1=1+X2j x∧X2J (X7u x 1) 1:=by
 have:=(Xc2 h).1
 unfold X3o X2J at*
 rw[X2Q (XcA x 1).1,(XcA x 1).2]
 exact⟨rfl,this⟩
theorem Xg3(c:X2Z)(p:Int):X0O (X5H c p)≤300:=by
 unfold X5H
 split
 · simp[Xey,X0O,cL]
 · have h:=X9k XeI ((c.2.2.2.2.2.2.2.2.1.drop (c.2.2.2.2.2.2.2.2.2.2.2.1.getD p.toNat 0 - c.2.2.2.2.2.2.1 - 1).toNat).take 4)
   have h4:((c.2.2.2.2.2.2.2.2.1.drop (c.2.2.2.2.2.2.2.2.2.2.2.1.getD p.toNat 0 - c.2.2.2.2.2.2.1 - 1).toNat).take 4).length≤4:=by rw[List.length_take];omega
   simp only[XcW,X0O]
   omega
theorem XgH(c:X2Z):∀n:Nat,0≤cL X0O (toN c n)∧cL X0O (toN c n)≤300*(n:Int)
 | 0=>by simp[toN,cL]
 | n+1=>by
   have ih:=XgH c n
   have h1:=Xg3 c n
   have h2:=X62 (X5H c n)
   unfold toN
   split
   · omega
   · have h0:cL X0O ([]:List Msg)=0:=rfl
     rw[X9g,X7d,h0]
     omega
theorem Xea{x:X2Z}(h:XeR x):XeR (X3t x).1:=by
 unfold X3t;split
 · split<;>exact h
 · simp[XeR,Xh7]
theorem XdI{x:X2Z}(h:XeR x):X2j x≤1000000000:=by
 obtain⟨h1,h2,h3,h4⟩:=h
 have a1:=X9k XeI x.2.2.2.2.2.2.2.2.1
 have a2:=X9k XgE x.2.2.2.2.2.2.2.2.2.2.1
 have a3:=X9k XgE x.2.2.2.2.2.2.2.2.2.2.2.1
 have a4:=X9k XgE x.2.2.2.2.2.2.2.2.2.2.2.2
 unfold X2j;omega
theorem Xge{l:List Msg}{k:Int}(h0:0≤k)(h1:k≤2000000000)(h2:cL X0O l≤3000):X4b l k∧X4b (mL X0O X8K l k) k∧X1O (mL X0O X8K l k) k=k+cL X0O l∧¬(k+cL X0O l<0):=by
 have hp:=X1L X62 l
 obtain⟨o1,o2⟩:=Xb0 Xh6 l k
 refine⟨⟨h0,by omega⟩,⟨h0,by rw[o2];omega⟩,?_,by omega⟩
 unfold X1O
 rw[X2Q o1,o2]
theorem Xgj(x:X2Z):0≤cL X0O (X3t x).2∧cL X0O (X3t x).2≤1500:=by
 unfold X3t;split
 · rename_i h
   split
   · have:=XaT h
     have:=XgH x x.2.1.toNat
     simp only[Xd3];omega
   · simp[cL]
 · simp[cL]
end Go.Proofs.Ytegmokdppbagiaa.B
