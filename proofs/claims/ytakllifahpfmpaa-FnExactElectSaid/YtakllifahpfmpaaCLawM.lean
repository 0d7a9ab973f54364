/- What the laws of messages say of sizes. -/
import Derived.Test.YtakllifahpfmpaaCLaw
import Derived.Test.YtakllifahpfmpaaCTCore
import Derived.Test.YtakllifahpfmpaaCTMsg
import Derived.Test.YtakllifahpfmpaaCBeat
set_option linter.unusedVariables false
set_option linter.unusedSimpArgs false
namespace Go.Proofs.Ytakllifahpfmpaa.B
open Go Go.Proofs.Ytakllifahpfmpaa.Bv
theorem XfL(x:Int×List UInt8):0≤X0b x∧X0b x≤64:=by simp[X0b]
theorem XhP(x:Int):0≤c_1 x∧c_1 x≤64:=by simp[c_1]
def Xgo(x:X14):Prop:=x.2.2.2.2.2.2.2.2.1.length≤1048576∧x.2.2.2.2.2.2.2.2.2.2.1.length≤1048576∧x.2.2.2.2.2.2.2.2.2.2.2.1.length≤1048576∧x.2.2.2.2.2.2.2.2.2.2.2.2.length≤1048576
theorem Xiu{x:X14}(h:X8s x≤1048576):Xgo x:=by
 unfold X8s nL at h;unfold Xgo;omega
theorem Xij{x:X14}(h:Xgo x):X2P x:=by obtain⟨h1,h2,h3,h4⟩:=h;unfold X2P;omega
theorem Xdd{x:X14}(h:Xgo x):X3a x 1∧¬(1+X2E x<0):=by
 obtain⟨h1,h2,h3,h4⟩:=h
 have a1:=Xa5 XfL x.2.2.2.2.2.2.2.2.1
 have a2:=Xa5 XhP x.2.2.2.2.2.2.2.2.2.2.1
 have a3:=Xa5 XhP x.2.2.2.2.2.2.2.2.2.2.2.1
 have a4:=Xa5 XhP x.2.2.2.2.2.2.2.2.2.2.2.2
 have:=XbH x
 unfold X3a X2E at*;omega
theorem Xhl{x:X14}(h:Xgo x):X3w (X8l x 1) 1=1+X2E x∧X3a (X8l x 1) 1:=by
 have:=(Xdd h).1
 unfold X3w X3a at*
 rw[X3i (XdK x 1).1,(XdK x 1).2]
 exact⟨rfl,this⟩
theorem Xhu(c:X14)(p:Int):X0J (X6m c p)≤300:=by
 unfold X6m
 split
 · simp[Xfz,X0J,cL]
 · have h:=Xa5 XfL ((c.2.2.2.2.2.2.2.2.1.drop (c.2.2.2.2.2.2.2.2.2.2.2.1.getD p.toNat 0 - c.2.2.2.2.2.2.1 - 1).toNat).take 4)
   have h4:((c.2.2.2.2.2.2.2.2.1.drop (c.2.2.2.2.2.2.2.2.2.2.2.1.getD p.toNat 0 - c.2.2.2.2.2.2.1 - 1).toNat).take 4).length≤4:=by rw[List.length_take];omega
   simp only[Xds,X0J]
   omega
theorem Xi8(c:X14):∀n:Nat,0≤cL X0J (toN c n)∧cL X0J (toN c n)≤300*(n:Int)
 | 0=>by simp[toN,cL]
 | n+1=>by
   have ih:=Xi8 c n
   have h1:=Xhu c n
   have h2:=X6a (X6m c n)
   unfold toN
   split
   · omega
   · have h0:cL X0J ([]:List Msg)=0:=rfl
     rw[X7t,X7n,h0]
     omega
theorem XfT{x:X14}(h:Xgo x):X2E x≤1000000000:=by
 obtain⟨h1,h2,h3,h4⟩:=h
 have a1:=Xa5 XfL x.2.2.2.2.2.2.2.2.1
 have a2:=Xa5 XhP x.2.2.2.2.2.2.2.2.2.2.1
 have a3:=Xa5 XhP x.2.2.2.2.2.2.2.2.2.2.2.1
 have a4:=Xa5 XhP x.2.2.2.2.2.2.2.2.2.2.2.2
 unfold X2E;omega
theorem Xhr{l:List Msg}{k:Int}(h0:0≤k)(h1:k≤2000000000)(h2:cL X0J l≤3000):X4F l k∧X4F (mL X0J X9J l k) k∧X25 (mL X0J X9J l k) k=k+cL X0J l∧¬(k+cL X0J l<0):=by
 have hp:=X26 X6a l
 obtain⟨o1,o2⟩:=Xcg Xii l k
 refine⟨⟨h0,by omega⟩,⟨h0,by rw[o2];omega⟩,?_,by omega⟩
 unfold X25
 rw[X3i o1,o2]
end Go.Proofs.Ytakllifahpfmpaa.B
