/- What the laws of states say of their argument. -/
import Derived.Test.YtnoapekdbmpiaaaGreatCLaw
import Derived.Test.YtnoapekdbmpiaaaGreatCTState
import Derived.Test.YtnoapekdbmpiaaaGreatCSt
set_option linter.unusedVariables false
set_option linter.unusedSimpArgs false
namespace Go.Proofs.YtnoapekdbmpiaaaGreat.B
open Go Go.Proofs.YtnoapekdbmpiaaaGreat.Bv
theorem nL_len {α:Type} (n:α→Nat) (l:List α):l.length≤nL n l:=Nat.le_add_right ..
theorem pSt_of {s:Stt} (h:WfD T6q s) (hn:n_State s≤1048576):pSt s:=by
 unfold n_State at hn
 refine⟨⟨fun x hx=>(h.2.2.2.2.1.2.1.2 x hx).1,fun f hf=>h.2.2.2.2.1.2.2.2 f hf⟩,?_,?_⟩
 · have he:n_Engine s.2.2.2.2.1≤1048576:=by omega
   have:s.2.2.2.2.1.2.1.length≤n_Engine s.2.2.2.2.1:=Nat.le_trans (nL_len n_Series s.2.2.2.2.1.2.1) (Nat.le_add_right _ _)
   omega
 · have he:n_Engine s.2.2.2.2.1≤1048576:=by omega
   have:s.2.2.2.2.1.2.2.length≤n_Engine s.2.2.2.2.1:=Nat.le_trans (nL_len _ s.2.2.2.2.1.2.2) (Nat.le_add_left _ (nL n_Series s.2.2.2.2.1.2.1))
   omega
end Go.Proofs.YtnoapekdbmpiaaaGreat.B
