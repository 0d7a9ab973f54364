/- Numbers of seven-bit bytes:what is read is what was written;codes one behind the other. Plain. -/
import Derived.Test.YtegmokdppbagiaaCRvM
set_option linter.unusedVariables false
set_option linter.unusedSimpArgs false
namespace Go.Proofs.Ytegmokdppbagiaa.B
open Go Go.Proofs.Ytegmokdppbagiaa.Bv
theorem XfN:∀(k n:Nat),n<128 ^ (k+1)→dec (X1i (vb n))=n
 | 0,n,h=>by
   rw[X5g (by simpa using h)]
   have h':n<128:=by simpa using h
   simp only[X1i,List.map_cons,List.map_nil,dec]
   simp;omega
 | k+1,n,h=>by
   by_cases hn:n<128
   · exact XfN 0 n (by simpa using hn)
   · rw[XbC hn,X5N]
     have h2:=XfN k (n / 128) (by rw[Nat.div_lt_iff_lt_mul (by omega)];rw[Nat.pow_succ]at h;exact h)
     simp only[dec]
     rw[h2]
     have:(UInt8.ofNat (((128+n % 128:Nat):Int)).toNat).toNat=128+n % 128:=by
      simp only[Int.toNat_natCast,UInt8.toNat_ofNat'];omega
     rw[this];omega
def X3j(v:Int):Prop:=0≤v∧v≤562949953421311
theorem Xd1{v:Int}(h:X3j v):X27 v=X1i (vb v.toNat):=by
 unfold X27;rw[if_pos]
 simp[fIn];exact h
theorem Xc5{v:Int}(h:X3j v):dec (X27 v)=v.toNat:=by
 rw[Xd1 h];exact XfN 6 _ (by have:=h.2;omega)
theorem vb_ne(n:Nat):vb n≠[]:=by
 by_cases h:n<128
 · rw[X5g h];simp
 · rw[XbC h];simp
theorem X59{v:Int}(h:X3j v):0<(X27 v).length:=by
 rw[Xd1 h];unfold X1i;rw[List.length_map]
 exact List.length_pos_iff.2 (vb_ne _)
theorem Xap{v:Int}(h:X3j v):X79 (X27 v):=by
 unfold X79
 rw[Xc5 h,←Xd1 h]
theorem XeM{v:Int}(h:X3j v)(t:List UInt8):X0i (X27 v++t)=(v,((X27 v).length:Int)):=by
 have hp:=X59 h
 have hl:=X0m v
 have hc:=Xap h
 obtain⟨pre,x,he⟩:∃pre x,X27 v=pre++[x]:=⟨_,_,(List.dropLast_concat_getLast (List.length_pos_iff.1 hp)).symm⟩
 rw[he]at hc
 have hci:=(X5E x pre).1 hc
 have hlen:(X27 v).length=pre.length+1:=by rw[he];simp
 have htake:(X27 v++t).take (pre.length+1)=X27 v:=by rw[←hlen];simp
 have hv:=X5W (s:=X27 v++t) (j:=pre.length) (by omega) (by
  unfold Xcq
  rw[htake]
  simp only[Bool.and_eq_true,decide_eq_true_eq]
  exact⟨by simp;omega,Xap h⟩) (fun i hi=>XbB (by simp;omega) (by
   have:(X27 v++t).getD i 0=pre[i]:=by
    rw[he,List.getD_eq_getElem?_getD,List.append_assoc,List.getElem?_append_left (by omega),List.getElem?_eq_getElem (by omega)];rfl
   rw[this]
   exact hci.2.1 _ (List.getElem_mem _)))
 rw[hv,htake,Xc5 h,hlen]
 have:=h.1
 simp only[Prod.mk.injEq]
 omega
def enc(vs:List Int):List UInt8:=vs.flatMap X27
end Go.Proofs.Ytegmokdppbagiaa.B
