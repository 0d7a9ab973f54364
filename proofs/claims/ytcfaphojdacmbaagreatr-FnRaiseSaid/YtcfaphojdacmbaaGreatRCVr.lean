/- Numbers of seven-bit bytes:what is read is what was written;codes one behind the other. Plain. -/
import Derived.Test.YtcfaphojdacmbaaGreatRCRvM
set_option linter.unusedVariables false
set_option linter.unusedSimpArgs false
namespace Go.Proofs.YtcfaphojdacmbaaGreatR.B
open Go Go.Proofs.YtcfaphojdacmbaaGreatR.Bv
theorem Xlt:∀(k n:Nat),n<128 ^ (k+1)→dec (X2o (vb n))=n
 | 0,n,h=>by
   rw[X87 (by simpa using h)]
   have h':n<128:=by simpa using h
   simp only[X2o,List.map_cons,List.map_nil,dec]
   simp;omega
 | k+1,n,h=>by
   by_cases hn:n<128
   · exact Xlt 0 n (by simpa using hn)
   · rw[Xfm hn,X9H]
     have h2:=Xlt k (n / 128) (by rw[Nat.div_lt_iff_lt_mul (by omega)];rw[Nat.pow_succ]at h;exact h)
     simp only[dec]
     rw[h2]
     have:(UInt8.ofNat (((128+n % 128:Nat):Int)).toNat).toNat=128+n % 128:=by
      simp only[Int.toNat_natCast,UInt8.toNat_ofNat'];omega
     rw[this];omega
def X4e(v:Int):Prop:=0≤v∧v≤562949953421311
theorem Xin{v:Int}(h:X4e v):X1K v=X2o (vb v.toNat):=by
 unfold X1K;rw[if_pos]
 simp[fIn];exact h
theorem Xhw{v:Int}(h:X4e v):dec (X1K v)=v.toNat:=by
 rw[Xin h];exact Xlt 6 _ (by have:=h.2;omega)
theorem vb_ne(n:Nat):vb n≠[]:=by
 by_cases h:n<128
 · rw[X87 h];simp
 · rw[Xfm h];simp
theorem X7n{v:Int}(h:X4e v):0<(X1K v).length:=by
 rw[Xin h];unfold X2o;rw[List.length_map]
 exact List.length_pos_iff.2 (vb_ne _)
theorem XfB{v:Int}(h:X4e v):X9X (X1K v):=by
 unfold X9X
 rw[Xhw h,←Xin h]
theorem XjM{v:Int}(h:X4e v)(t:List UInt8):X0f (X1K v++t)=(v,((X1K v).length:Int)):=by
 have hp:=X7n h
 have hl:=X0v v
 have hc:=XfB h
 obtain⟨pre,x,he⟩:∃pre x,X1K v=pre++[x]:=⟨_,_,(List.dropLast_concat_getLast (List.length_pos_iff.1 hp)).symm⟩
 rw[he]at hc
 have hci:=(X9J x pre).1 hc
 have hlen:(X1K v).length=pre.length+1:=by rw[he];simp
 have htake:(X1K v++t).take (pre.length+1)=X1K v:=by rw[←hlen];simp
 have hv:=X8j (s:=X1K v++t) (j:=pre.length) (by omega) (by
  unfold Xf0
  rw[htake]
  simp only[Bool.and_eq_true,decide_eq_true_eq]
  exact⟨by simp;omega,XfB h⟩) (fun i hi=>XhW (by simp;omega) (by
   have:(X1K v++t).getD i 0=pre[i]:=by
    rw[he,List.getD_eq_getElem?_getD,List.append_assoc,List.getElem?_append_left (by omega),List.getElem?_eq_getElem (by omega)];rfl
   rw[this]
   exact hci.2.1 _ (List.getElem_mem _)))
 rw[hv,htake,Xhw h,hlen]
 have:=h.1
 simp only[Prod.mk.injEq]
 omega
theorem XlY{s:List UInt8}(h:(X0f s).2≠0):s.take (X0f s).2.toNat=X1K (X0f s).1∧X4e (X0f s).1:=by
 have hb:=X2V s
 refine⟨?_,hb.1,hb.2.1⟩
 unfold X0f at h ⊢
 cases hf:(List.range 7).find? (fun j=>Xf0 s (j+1)) with
 | none=>rw[hf]at h;exact absurd rfl h
 | some j=>
   have h1:=List.find?_some hf
   have h2:=List.mem_range.1 (List.mem_of_find?_eq_some hf)
   simp only[Xf0,Bool.and_eq_true,decide_eq_true_eq]at h1
   have e:((j:Int)+1).toNat=j+1:=by omega
   simp only[e]
   rw[XjR (by rw[List.length_take];omega)]
   exact h1.2.symm
def enc(vs:List Int):List UInt8:=vs.flatMap X1K
theorem Xgn(v:Int)(vs:List Int):enc (v::vs)=X1K v++enc vs:=rfl
end Go.Proofs.YtcfaphojdacmbaaGreatR.B
