/- Numbers of seven-bit bytes:what is read is what was written;codes one behind the other. Plain. -/
import Derived.Test.YtcfaphojdacmbaaGreatRCRvM
set_option linter.unusedVariables false
set_option linter.unusedSimpArgs false
namespace Go.Proofs.YtcfaphojdacmbaaGreatR.B
open Go Go.Proofs.YtcfaphojdacmbaaGreatR.Bv
theorem XlK:∀(k n:Nat),n<128 ^ (k+1)→dec (X2m (vb n))=n
 | 0,n,h=>by
   rw[X8f (by simpa using h)]
   have h':n<128:=by simpa using h
   simp only[X2m,List.map_cons,List.map_nil,dec]
   simp;omega
 | k+1,n,h=>by
   by_cases hn:n<128
   · exact XlK 0 n (by simpa using hn)
   · rw[Xfm hn,X9n]
     have h2:=XlK k (n / 128) (by rw[Nat.div_lt_iff_lt_mul (by omega)];rw[Nat.pow_succ]at h;exact h)
     simp only[dec]
     rw[h2]
     have:(UInt8.ofNat (((128+n % 128:Nat):Int)).toNat).toNat=128+n % 128:=by
      simp only[Int.toNat_natCast,UInt8.toNat_ofNat'];omega
     rw[this];omega
def X4d(v:Int):Prop:=0≤v∧v≤562949953421311
theorem Xic{v:Int}(h:X4d v):X1J v=X2m (vb v.toNat):=by
 unfold X1J;rw[if_pos]
 simp[fIn];exact h
theorem XgD{v:Int}(h:X4d v):dec (X1J v)=v.toNat:=by
 rw[Xic h];exact XlK 6 _ (by have:=h.2;omega)
theorem vb_ne(n:Nat):vb n≠[]:=by
 by_cases h:n<128
 · rw[X8f h];simp
 · rw[Xfm h];simp
theorem X7j{v:Int}(h:X4d v):0<(X1J v).length:=by
 rw[Xic h];unfold X2m;rw[List.length_map]
 exact List.length_pos_iff.2 (vb_ne _)
theorem Xf0{v:Int}(h:X4d v):X9M (X1J v):=by
 unfold X9M
 rw[XgD h,←Xic h]
theorem XjC{v:Int}(h:X4d v)(t:List UInt8):X0e (X1J v++t)=(v,((X1J v).length:Int)):=by
 have hp:=X7j h
 have hl:=X0v v
 have hc:=Xf0 h
 obtain⟨pre,x,he⟩:∃pre x,X1J v=pre++[x]:=⟨_,_,(List.dropLast_concat_getLast (List.length_pos_iff.1 hp)).symm⟩
 rw[he]at hc
 have hci:=(X9D x pre).1 hc
 have hlen:(X1J v).length=pre.length+1:=by rw[he];simp
 have htake:(X1J v++t).take (pre.length+1)=X1J v:=by rw[←hlen];simp
 have hv:=X87 (s:=X1J v++t) (j:=pre.length) (by omega) (by
  unfold XeQ
  rw[htake]
  simp only[Bool.and_eq_true,decide_eq_true_eq]
  exact⟨by simp;omega,Xf0 h⟩) (fun i hi=>Xh5 (by simp;omega) (by
   have:(X1J v++t).getD i 0=pre[i]:=by
    rw[he,List.getD_eq_getElem?_getD,List.append_assoc,List.getElem?_append_left (by omega),List.getElem?_eq_getElem (by omega)];rfl
   rw[this]
   exact hci.2.1 _ (List.getElem_mem _)))
 rw[hv,htake,XgD h,hlen]
 have:=h.1
 simp only[Prod.mk.injEq]
 omega
theorem XkK{s:List UInt8}(h:(X0e s).2≠0):s.take (X0e s).2.toNat=X1J (X0e s).1∧X4d (X0e s).1:=by
 have hb:=X2T s
 refine⟨?_,hb.1,hb.2.1⟩
 unfold X0e at h ⊢
 cases hf:(List.range 7).find? (fun j=>XeQ s (j+1)) with
 | none=>rw[hf]at h;exact absurd rfl h
 | some j=>
   have h1:=List.find?_some hf
   have h2:=List.mem_range.1 (List.mem_of_find?_eq_some hf)
   simp only[XeQ,Bool.and_eq_true,decide_eq_true_eq]at h1
   have e:((j:Int)+1).toNat=j+1:=by omega
   simp only[e]
   rw[Xj8 (by rw[List.length_take];omega)]
   exact h1.2.symm
def enc(vs:List Int):List UInt8:=vs.flatMap X1J
theorem XfZ(v:Int)(vs:List Int):enc (v::vs)=X1J v++enc vs:=rfl
end Go.Proofs.YtcfaphojdacmbaaGreatR.B
