/- Numbers of seven-bit bytes:what is read is what was written;codes one behind the other. Plain. -/
import Derived.Test.YtgmafgmjbaoomaaGreatCRvM
set_option linter.unusedVariables false
set_option linter.unusedSimpArgs false
namespace Go.Proofs.YtgmafgmjbaoomaaGreat.B
open Go Go.Proofs.YtgmafgmjbaoomaaGreat.Bv
theorem Xj2:∀(k n:Nat),n<128 ^ (k+1)→dec (X1Q (vb n))=n
 | 0,n,h=>by
   rw[X6N (by simpa using h)]
   have h':n<128:=by simpa using h
   simp only[X1Q,List.map_cons,List.map_nil,dec]
   simp;omega
 | k+1,n,h=>by
   by_cases hn:n<128
   · exact Xj2 0 n (by simpa using hn)
   · rw[XdD hn,X8q]
     have h2:=Xj2 k (n / 128) (by rw[Nat.div_lt_iff_lt_mul (by omega)];rw[Nat.pow_succ]at h;exact h)
     simp only[dec]
     rw[h2]
     have:(UInt8.ofNat (((128+n % 128:Nat):Int)).toNat).toNat=128+n % 128:=by
      simp only[Int.toNat_natCast,UInt8.toNat_ofNat'];omega
     rw[this];omega
def X3K(v:Int):Prop:=0≤v∧v≤562949953421311
theorem XfO{v:Int}(h:X3K v):X1H v=X1Q (vb v.toNat):=by
 unfold X1H;rw[if_pos]
 simp[fIn];exact h
theorem XeJ{v:Int}(h:X3K v):dec (X1H v)=v.toNat:=by
 rw[XfO h];exact Xj2 6 _ (by have:=h.2;omega)
theorem vb_ne(n:Nat):vb n≠[]:=by
 by_cases h:n<128
 · rw[X6N h];simp
 · rw[XdD h];simp
theorem X5r{v:Int}(h:X3K v):0<(X1H v).length:=by
 rw[XfO h];unfold X1Q;rw[List.length_map]
 exact List.length_pos_iff.2 (vb_ne _)
theorem XdK{v:Int}(h:X3K v):X8a (X1H v):=by
 unfold X8a
 rw[XeJ h,←XfO h]
theorem XeF{v:Int}(h:X3K v)(t:List UInt8):X04 (X1H v++t)=(v,((X1H v).length:Int)):=by
 have hp:=X5r h
 have hl:=X1v v
 have hc:=XdK h
 obtain⟨pre,x,he⟩:∃pre x,X1H v=pre++[x]:=⟨_,_,(List.dropLast_concat_getLast (List.length_pos_iff.1 hp)).symm⟩
 rw[he]at hc
 have hci:=(X8l x pre).1 hc
 have hlen:(X1H v).length=pre.length+1:=by rw[he];simp
 have htake:(X1H v++t).take (pre.length+1)=X1H v:=by rw[←hlen];simp
 have hv:=X6R (s:=X1H v++t) (j:=pre.length) (by omega) (by
  unfold XcT
  rw[htake]
  simp only[Bool.and_eq_true,decide_eq_true_eq]
  exact⟨by simp;omega,XdK h⟩) (fun i hi=>XeZ (by simp;omega) (by
   have:(X1H v++t).getD i 0=pre[i]:=by
    rw[he,List.getD_eq_getElem?_getD,List.append_assoc,List.getElem?_append_left (by omega),List.getElem?_eq_getElem (by omega)];rfl
   rw[this]
   exact hci.2.1 _ (List.getElem_mem _)))
 rw[hv,htake,XeJ h,hlen]
 have:=h.1
 simp only[Prod.mk.injEq]
 omega
theorem XjX{s:List UInt8}(h:(X04 s).2≠0):s.take (X04 s).2.toNat=X1H (X04 s).1∧X3K (X04 s).1:=by
 have hb:=X1V s
 refine⟨?_,hb.1,hb.2.1⟩
 unfold X04 at h ⊢
 cases hf:(List.range 7).find? (fun j=>XcT s (j+1)) with
 | none=>rw[hf]at h;exact absurd rfl h
 | some j=>
   have h1:=List.find?_some hf
   have h2:=List.mem_range.1 (List.mem_of_find?_eq_some hf)
   simp only[XcT,Bool.and_eq_true,decide_eq_true_eq]at h1
   have e:((j:Int)+1).toNat=j+1:=by omega
   simp only[e]
   rw[Xh4 (by rw[List.length_take];omega)]
   exact h1.2.symm
def enc(vs:List Int):List UInt8:=vs.flatMap X1H
theorem Xek(v:Int)(vs:List Int):enc (v::vs)=X1H v++enc vs:=rfl
end Go.Proofs.YtgmafgmjbaoomaaGreat.B
