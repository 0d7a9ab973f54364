/- Bits:numbers with a sign,times,values. -/
import Derived.Test.YtgfgenbmjbhphaaCSum
namespace Go.Proofs.Ytgfgenbmjbhphaa.B
set_option linter.unusedVariables false
set_option linter.unusedSimpArgs false
open Go Go.Proofs.Ytgfgenbmjbhphaa.Bv
def fZig (n:Int):Int:=if fIn n (-140737488355328) 140737488355328 then (if n<0 then -2*n - 1 else 2*n) else -1
def riseAt (l:List Int) (i:Nat):Bool:=fIn (l.getD i 0) 0 1099511627776&&(decide (i=0)||decide (l.getD (i - 1) 0<l.getD i 0))
def fRise (l:List Int):Bool:=fIn l.length 1 60&&allB (riseAt l) l.length
def valAt (l:List Int) (i:Nat):Bool:=fIn (l.getD i 0) (-1099511627776) 1099511627776
def fVals (l:List Int):Bool:=fIn l.length 1 60&&allB (valAt l) l.length
theorem allB_iff {p:Nat→Bool} {n:Nat}:allB p n=true↔∀j,j<n→p j=true:=by simp [allB]
theorem fRise_iff {l:List Int}:fRise l=true↔(1≤l.length∧l.length≤60)∧∀j,j<l.length→riseAt l j=true:=by
 simp only [fRise,Bool.and_eq_true,fIn_iff,allB_iff]
 exact⟨fun h=>⟨by omega,h.2⟩,fun h=>⟨by omega,h.2⟩⟩
theorem fVals_iff {l:List Int}:fVals l=true↔(1≤l.length∧l.length≤60)∧∀j,j<l.length→valAt l j=true:=by
 simp only [fVals,Bool.and_eq_true,fIn_iff,allB_iff]
 exact⟨fun h=>⟨by omega,h.2⟩,fun h=>⟨by omega,h.2⟩⟩
theorem riseAt_iff {l:List Int} {i:Nat}:riseAt l i=true↔(0≤l.getD i 0∧l.getD i 0≤1099511627776)∧(i=0∨l.getD (i - 1) 0<l.getD i 0):=by
 simp [riseAt,fIn]
theorem valAt_iff {l:List Int} {i:Nat}:valAt l i=true↔-1099511627776≤l.getD i 0∧l.getD i 0≤1099511627776:=by simp [valAt,fIn]
def tmPiece (l:List Int) (i:Nat):List UInt8:=if i=0 then fVar (l.getD 0 0) else if i=1 then fVar (l.getD 1 0 - l.getD 0 0) else fVar (fZig (l.getD i 0 - l.getD (i - 1) 0 - (l.getD (i - 1) 0 - l.getD (i - 2) 0)))
def tmS (l:List Int):Nat→List UInt8
 | 0=>[]
 | i+1=>tmS l i++tmPiece l i
def fShowTimes (l:List Int):List UInt8:=if fRise l then tmS l l.length else []
def vlPiece (l:List Int) (i:Nat):List UInt8:=fVar (fZig (l.getD i 0 - (if i=0 then 0 else l.getD (i - 1) 0)))
def vlS (l:List Int):Nat→List UInt8
 | 0=>[]
 | i+1=>vlS l i++vlPiece l i
def fShowValues (l:List Int):List UInt8:=if fVals l then vlS l l.length else []
theorem riseI_of {l:List Int} {i:Nat} (h:fRise l=true) (hi:i<l.length):0≤l.getD i 0∧l.getD i 0≤1099511627776:=(riseAt_iff.1 ((fRise_iff.1 h).2 i hi)).1
theorem valI_of {l:List Int} {i:Nat} (h:fVals l=true) (hi:i<l.length):-1099511627776≤l.getD i 0∧l.getD i 0≤1099511627776:=valAt_iff.1 ((fVals_iff.1 h).2 i hi)
end Go.Proofs.Ytgfgenbmjbhphaa.B
