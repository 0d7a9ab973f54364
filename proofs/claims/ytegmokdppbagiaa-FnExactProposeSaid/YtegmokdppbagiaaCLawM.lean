/- What the laws of messages say of sizes. -/
import Derived.Test.YtegmokdppbagiaaCLaw
import Derived.Test.YtegmokdppbagiaaCTCore
import Derived.Test.YtegmokdppbagiaaCTMsg
import Derived.Test.YtegmokdppbagiaaCBeat
set_option linter.unusedVariables false
set_option linter.unusedSimpArgs false
namespace Go.Proofs.Ytegmokdppbagiaa.B
open Go Go.Proofs.Ytegmokdppbagiaa.Bv
theorem XeA(x:Int×List UInt8):0≤X0a x∧X0a x≤64:=by simp[X0a]
theorem Xhd(x:Int):0≤c_1 x∧c_1 x≤64:=by simp[c_1]
def Xfm(x:X1Q):Prop:=x.2.2.2.2.2.2.2.2.1.length≤1048576∧x.2.2.2.2.2.2.2.2.2.2.1.length≤1048576∧x.2.2.2.2.2.2.2.2.2.2.2.1.length≤1048576∧x.2.2.2.2.2.2.2.2.2.2.2.2.length≤1048576
theorem XhP{x:X1Q}(h:X8d x≤1048576):Xfm x:=by
 unfold X8d nL at h;unfold Xfm;omega
theorem XhM{x:X1Q}(h:Xfm x):X2G x:=by obtain⟨h1,h2,h3,h4⟩:=h;unfold X2G;omega
theorem XcN{x:X1Q}(h:Xfm x):X30 x 1∧¬(1+X2v x<0):=by
 obtain⟨h1,h2,h3,h4⟩:=h
 have a1:=X9Q XeA x.2.2.2.2.2.2.2.2.1
 have a2:=X9Q Xhd x.2.2.2.2.2.2.2.2.2.2.1
 have a3:=X9Q Xhd x.2.2.2.2.2.2.2.2.2.2.2.1
 have a4:=X9Q Xhd x.2.2.2.2.2.2.2.2.2.2.2.2
 have:=XbC x
 unfold X30 X2v at*;omega
theorem Xgz{x:X1Q}(h:Xfm x):X3v (X7E x 1) 1=1+X2v x∧X30 (X7E x 1) 1:=by
 have:=(XcN h).1
 unfold X3v X30 at*
 rw[X33 (Xdr x 1).1,(Xdr x 1).2]
 exact⟨rfl,this⟩
theorem XgA(c:X1Q)(p:Int):X0U (X61 c p)≤300:=by
 unfold X61
 split
 · simp[XeL,X0U,cL]
 · have h:=X9Q XeA ((c.2.2.2.2.2.2.2.2.1.drop (c.2.2.2.2.2.2.2.2.2.2.2.1.getD p.toNat 0 - c.2.2.2.2.2.2.1 - 1).toNat).take 4)
   have h4:((c.2.2.2.2.2.2.2.2.1.drop (c.2.2.2.2.2.2.2.2.2.2.2.1.getD p.toNat 0 - c.2.2.2.2.2.2.1 - 1).toNat).take 4).length≤4:=by rw[List.length_take];omega
   simp only[Xd0,X0U]
   omega
theorem Xhp(c:X1Q):∀n:Nat,0≤cL X0U (toN c n)∧cL X0U (toN c n)≤300*(n:Int)
 | 0=>by simp[toN,cL]
 | n+1=>by
   have ih:=Xhp c n
   have h1:=XgA c n
   have h2:=X6o (X61 c n)
   unfold toN
   split
   · omega
   · have h0:cL X0U ([]:List Msg)=0:=rfl
     rw[X9m,X7I,h0]
     omega
theorem Xfc{x:X1Q}(h:Xfm x):X2v x≤1000000000:=by
 obtain⟨h1,h2,h3,h4⟩:=h
 have a1:=X9Q XeA x.2.2.2.2.2.2.2.2.1
 have a2:=X9Q Xhd x.2.2.2.2.2.2.2.2.2.2.1
 have a3:=X9Q Xhd x.2.2.2.2.2.2.2.2.2.2.2.1
 have a4:=X9Q Xhd x.2.2.2.2.2.2.2.2.2.2.2.2
 unfold X2v;omega
theorem XgW{l:List Msg}{k:Int}(h0:0≤k)(h1:k≤2000000000)(h2:cL X0U l≤3000):X4x l k∧X4x (mL X0U X8D l k) k∧X1W (mL X0U X8D l k) k=k+cL X0U l∧¬(k+cL X0U l<0):=by
 have hp:=X1Z X6o l
 obtain⟨o1,o2⟩:=XbH Xhw l k
 refine⟨⟨h0,by omega⟩,⟨h0,by rw[o2];omega⟩,?_,by omega⟩
 unfold X1W
 rw[X33 o1,o2]
end Go.Proofs.Ytegmokdppbagiaa.B
