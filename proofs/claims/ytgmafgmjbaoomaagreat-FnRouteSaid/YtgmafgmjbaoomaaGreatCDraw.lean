/- Numbers that are drawn. -/
import Derived.Test.YtgmafgmjbaoomaaGreatCNewR
import Derived.Test.YtgmafgmjbaoomaaGreatCMrg
set_option linter.unusedVariables false
set_option linter.unusedSimpArgs false
namespace Go.Proofs.YtgmafgmjbaoomaaGreat.B
open Go Go.Proofs.YtgmafgmjbaoomaaGreat.Bv
abbrev Cur:=List Int×(Int×Int)
def CurI(c:Cur):Prop:=0≤c.2.1∧c.2.1≤9223372036854775807∧c.1.length≤9223372036854775807
def inI(c:Cur)(most v n:Int)(b:List Int)(i h:Int)(out:List Int):Prop:=CurI (b,i,h)∧n≤2000∧0≤n∧out.length+n≤2000∧0<out.length+n
end Go.Proofs.YtgmafgmjbaoomaaGreat.B
