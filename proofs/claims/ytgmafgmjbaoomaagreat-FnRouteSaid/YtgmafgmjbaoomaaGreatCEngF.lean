/- Engines:what flushing and packing come to. -/
import Derived.Test.YtgmafgmjbaoomaaGreatCEngR
set_option linter.unusedVariables false
set_option linter.unusedSimpArgs false
namespace Go.Proofs.YtgmafgmjbaoomaaGreat.B
open Go Go.Proofs.YtgmafgmjbaoomaaGreat.Bv
structure XdT (n:Nat) (e:Eng):Prop where
 fl:0≤e.1∧e.1≤1099511627776
 ca:X8C e.2.1=true
 le:e.2.2.length≤n
 ok:okF e.2.2=true
 pl:X8C (Xcu e).1=true
 st:∀f∈e.2.2,pStr f
theorem XdT.R{n:Nat}{e:Eng}(h:XdT n e):Xp8 e.2.1:=(XgH h.ca).1
theorem XdT.E{n:Nat}{e:Eng}(h:XdT n e)(hn:n≤5):XnF e:=by
 have:=XgH h.ca
 have:=h.le
 exact⟨h.st,h.R,by omega,by omega⟩
theorem XdT.mono{n k:Nat}{e:Eng}(h:XdT n e)(hk:n≤k):XdT k e:=⟨h.fl,h.ca,Nat.le_trans h.le hk,h.ok,h.pl,h.st⟩
end Go.Proofs.YtgmafgmjbaoomaaGreat.B
