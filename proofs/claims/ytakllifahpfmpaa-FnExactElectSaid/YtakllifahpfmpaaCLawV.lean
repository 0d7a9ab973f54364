/- What the law of votes says of sizes. -/
import Derived.Test.YtakllifahpfmpaaCLawM
import Derived.Test.YtakllifahpfmpaaCElec1
set_option linter.unusedVariables false
set_option linter.unusedSimpArgs false
namespace Go.Proofs.Ytakllifahpfmpaa.B
open Go Go.Proofs.Ytakllifahpfmpaa.Bv
theorem Xiz(c:X14):∀n:Nat,0≤cL X0J (voN c n)∧cL X0J (voN c n)≤300*(n:Int)
 | 0=>by simp[voN,cL]
 | n+1=>by
   have ih:=Xiz c n
   have h1:X0J (X7Y c n)≤300:=by simp[X7Y,X0J,cL]
   have h2:=X6a (X7Y c n)
   unfold voN
   split
   · omega
   · have h0:cL X0J ([]:List Msg)=0:=rfl
     rw[X7t,X7n,h0]
     omega
theorem Xej{x:X14}(h:Xgo x):Xgo (X1h x).1:=by
 unfold X1h;split
 · rename_i hc
   have hin:=X5N hc
   obtain⟨h1,h2,h3,h4⟩:=h
   split
   · exact⟨h1,h2,h3,h4⟩
   · split
     · refine⟨?_,?_,?_,?_⟩
       · simp only[XfY,X1M,X2F,X9z,X4q]
         split
         · simp only[X4u,X3f,X6n,List.length_append,List.length_cons,List.length_nil];omega
         · simp only[X3f,X6n];omega
       · simp only[XfY,X1M,X2F,X9z,X4q]
         split<;>simp[X4u,X3f,X6n]
       · simp only[XfY,X1M,X2F,X9z,X4q]
         split<;>simp only[X4u,X3f,X6n,List.length_set,List.length_replicate]<;>omega
       · simp only[XfY,X1M,X2F,X9z,X4q]
         split<;>simp only[X4u,X3f,X6n,List.length_set,List.length_replicate]<;>omega
     · exact⟨h1,by simp[X6n],h3,h4⟩
 · simp[Xgo,Xic]
theorem Xg8(x:X14):0≤cL X0J (X1h x).2∧cL X0J (X1h x).2≤1500:=by
 unfold X1h;split
 · rename_i h
   have hin:=X5N h
   split
   · simp[cL]
   · split
     · have hp:(X1M (X3f (X6n x)) []).2.1=x.2.1:=by
        unfold X1M X2F X9z X4q;split<;>rfl
       have:=Xi8 (X1M (X3f (X6n x)) []) x.2.1.toNat
       have e:(XfY (X6n x,[])).2=toN (X1M (X3f (X6n x)) []) x.2.1.toNat:=by
        unfold XfY X9i;simp only[List.nil_append];rw[hp]
       rw[e];omega
     · have:=Xiz (X6n x) x.2.1.toNat
       simp only;omega
 · simp[cL]
end Go.Proofs.Ytakllifahpfmpaa.B
