/- What the law of data told says of sizes. -/
import Derived.Test.YtegmokdppbagiaaCLawM
import Derived.Test.YtegmokdppbagiaaCPropose
set_option linter.unusedVariables false
set_option linter.unusedSimpArgs false
namespace Go.Proofs.Ytegmokdppbagiaa.B
open Go Go.Proofs.Ytegmokdppbagiaa.Bv
theorem XbN{x:X1Q}{d:List UInt8}(h:Xfm x):Xfm (X0y x d).1:=by
 unfold X0y;split
 · split
   · obtain⟨h1,h2,h3,h4⟩:=h
     rename_i hc hr
     have:=X5r hc
     refine⟨?_,h2,?_,?_⟩
     · simp only[X1I,Xbi,X2e,X1y,List.length_append,List.length_cons,List.length_nil];omega
     · simp only[X1I,Xbi,X2e,X1y,List.length_set];exact h3
     · simp only[X1I,Xbi,X2e,X1y,List.length_set];exact h4
   · exact h
 · simp[Xfm,XgN]
theorem Xe4(x:X1Q)(d:List UInt8):0≤cL X0U (X0y x d).2.1∧cL X0U (X0y x d).2.1≤1500:=by
 unfold X0y;split
 · rename_i h
   split
   · have:=X5r h
     have:=Xhp (X1I (X2e (X1y x d))) x.2.1.toNat
     have e:Xbk (X1I (X2e (X1y x d)))=toN (X1I (X2e (X1y x d))) x.2.1.toNat:=rfl
     simp only[e];omega
   · simp[cL]
 · simp[cL]
end Go.Proofs.Ytegmokdppbagiaa.B
