/- Engines:asked. -/
import Derived.Test.YtnoapekdbmpiaaaGreatCEngE
namespace Go.Proofs.YtnoapekdbmpiaaaGreat.B
set_option linter.unusedVariables false
set_option linter.unusedSimpArgs false
open Go Go.Proofs.YtnoapekdbmpiaaaGreat.Bv
theorem head_parts {e:Eng} (h:fHead e=true):(0≤e.1∧e.1≤1099511627776)∧fSerOk e.2.1=true∧fCnt e.2.1≤40∧e.2.2.length≤4∧fCont e.2.1 e=false:=by
 unfold fHead fTime fIn at h
 simp only [Bool.and_eq_true,decide_eq_true_eq,Bool.not_eq_true'] at h
 exact⟨h.1,h.2.1,h.2.2.1,h.2.2.2.1,h.2.2.2.2⟩
theorem engOk_parts {e:Eng} (h:fEngOk e=true):fHead e=true∧okF e.2.2=true∧fEngRead e=((fPlainE e).1,true)∧fSerOk (fPlainE e).1=true:=by
 have h0:=h
 unfold fEngOk fEngRead at h
 split at h
 · rename_i h1
   split at h
   · rename_i h2
     refine⟨h1,by rw [←okF_plain];exact h2,?_,h⟩
     unfold fEngRead;rw [if_pos h1,if_pos h2,show fSerOk (fPlainE e).1=true from h]
   · cases h
 · cases h
end Go.Proofs.YtnoapekdbmpiaaaGreat.B
