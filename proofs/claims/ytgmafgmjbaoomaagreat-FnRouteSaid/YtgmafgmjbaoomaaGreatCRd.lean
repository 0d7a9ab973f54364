/- Pieces of a text,one behind the other. -/
import Derived.Test.YtgmafgmjbaoomaaGreatCReadB
set_option linter.unusedVariables false
set_option linter.unusedSimpArgs false
namespace Go.Proofs.YtgmafgmjbaoomaaGreat.B
open Go Go.Proofs.YtgmafgmjbaoomaaGreat.Bv
def Xmz(i:Rd)(n:Int):List UInt8×Rd:=if i.2=true∧n≤i.1.length then(i.1.take n.toNat,(i.1.drop n.toNat,true)) else([],(i.1,false))
def X8g(i:Rd):List UInt8×Rd:=Xmz (X4z i).2 (X4z i).1
def pStr(s:List UInt8):Prop:=s.length≤maxLen
theorem Xny{i:Rd}(h:i.2=true)(h2:(X04 i.1).2≠0):X4z i=((X04 i.1).1,(i.1.drop (X04 i.1).2.toNat,true)):=by
 have:=X1V i.1
 unfold X4z;rw[if_pos ⟨h,by omega⟩]
end Go.Proofs.YtgmafgmjbaoomaaGreat.B
