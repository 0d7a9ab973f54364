/- What the laws of engines say of their argument. -/
import Derived.Test.YtnoapekdbmpiaaaGreatCLaw
import Derived.Test.YtnoapekdbmpiaaaGreatCTEngine
import Derived.Test.YtnoapekdbmpiaaaGreatCEngQ
namespace Go.Proofs.YtnoapekdbmpiaaaGreat.B
set_option linter.unusedVariables false
set_option linter.unusedSimpArgs false
open Go Go.Proofs.YtnoapekdbmpiaaaGreat.Bv
theorem pEng_of {e:Eng} (h:WfD (.pair (.int .i64) (.pair (.list (.pair .str (.list (.pair (.int .i64) (.int .i64))))) (.list .str))) e):pEng e:=⟨fun x hx=>(h.2.1.2 x hx).1,fun f hf=>h.2.2.2 f hf⟩
theorem nL_cons {α:Type} (n:α→Nat) (x:α) (l:List α):nL n (x::l)=1+n x+nL n l:=by
 unfold nL sumT;rw [List.take_length,List.take_length,List.map_cons,List.sum_cons,List.length_cons];omega
theorem cL_two4:∀l:List (Int×Int),cL c_mPoint l=2*l.length
 | []=>by simp [cL]
 | x::l=>by rw [cL_cons,cL_two4 l,show c_mPoint x=2 from rfl,List.length_cons];omega
theorem cL_ser4:∀l:List Ser,0≤cL c_mSeries l∧cL c_mSeries l≤2*tot l
 | []=>by simp [cL,tot]
 | x::l=>by
   have h1:=cL_ser4 l
   have h2:=cL_two4 x.2
   have h3:tot (x::l)=cS x+tot l:=cL_cons ..
   have h4:c_mSeries x=1+cL c_mPoint x.2:=rfl
   have h5:cS x=(x.2.length:Int)+1:=rfl
   rw [cL_cons];omega
theorem tot_nL:∀l:List Ser,tot l≤nL n_Series l
 | []=>by simp [nL,tot,cL,sumT]
 | x::l=>by
   have h1:=tot_nL l
   have h2:n_Series x=x.1.length+x.2.length:=rfl
   have h3:tot (x::l)=cS x+tot l:=cL_cons ..
   have h5:cS x=(x.2.length:Int)+1:=rfl
   rw [nL_cons];omega
theorem cL_one:∀l:List Str,cL c_1s l=l.length
 | []=>by simp [cL]
 | x::l=>by rw [cL_cons,cL_one l,show c_1s x=1 from rfl,List.length_cons];omega
theorem eng_c {e:Eng} (h:n_Engine e≤1048576):0≤c_sEngine e∧c_sEngine e≤4194304:=by
 have h1:=cL_ser4 e.2.1
 have h2:=tot_nL e.2.1
 have h3:=cL_one e.2.2
 have h4:nL n_Series e.2.1≤1048576:=Nat.le_trans (Nat.le_add_right _ _) h
 have h5:e.2.2.length≤1048576:=Nat.le_trans (Nat.le_trans (Nat.le_add_right e.2.2.length (sumT _ e.2.2 e.2.2.length)) (Nat.le_add_left _ (nL n_Series e.2.1))) h
 have h6:c_sEngine e=cL c_mSeries e.2.1+cL c_1s e.2.2:=rfl
 omega
theorem eqE (x:Eng):fEq_Engine x x=true:=by simp [fEq_Engine]
end Go.Proofs.YtnoapekdbmpiaaaGreat.B
