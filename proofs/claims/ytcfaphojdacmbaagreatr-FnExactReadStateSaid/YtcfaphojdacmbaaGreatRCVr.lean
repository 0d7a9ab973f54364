/- Numbers of seven-bit bytes:what is read is what was written;codes one behind the other. Plain. -/
import Derived.Test.YtcfaphojdacmbaaGreatRCRvM
set_option linter.unusedVariables false
set_option linter.unusedSimpArgs false
namespace Go.Proofs.YtcfaphojdacmbaaGreatR.B
open Go Go.Proofs.YtcfaphojdacmbaaGreatR.Bv
theorem Xnh:∀(k n:Nat),n<128 ^ (k+1)→dec (X2O (vb n))=n
 | 0,n,h=>by
   rw[X9t (by simpa using h)]
   have h':n<128:=by simpa using h
   simp only[X2O,List.map_cons,List.map_nil,dec]
   simp;omega
 | k+1,n,h=>by
   by_cases hn:n<128
   · exact Xnh 0 n (by simpa using hn)
   · rw[XgP hn,Xb3]
     have h2:=Xnh k (n / 128) (by rw[Nat.div_lt_iff_lt_mul (by omega)];rw[Nat.pow_succ]at h;exact h)
     simp only[dec]
     rw[h2]
     have:(UInt8.ofNat (((128+n % 128:Nat):Int)).toNat).toNat=128+n % 128:=by
      simp only[Int.toNat_natCast,UInt8.toNat_ofNat'];omega
     rw[this];omega
def X1q(v:Int):Prop:=0≤v∧v≤562949953421311
theorem Xk7{v:Int}(h:X1q v):X0v v=X2O (vb v.toNat):=by
 unfold X0v;rw[if_pos]
 simp[fIn];exact h
theorem Xib{v:Int}(h:X1q v):dec (X0v v)=v.toNat:=by
 rw[Xk7 h];exact Xnh 6 _ (by have:=h.2;omega)
theorem vb_ne(n:Nat):vb n≠[]:=by
 by_cases h:n<128
 · rw[X9t h];simp
 · rw[XgP h];simp
theorem X80{v:Int}(h:X1q v):0<(X0v v).length:=by
 rw[Xk7 h];unfold X2O;rw[List.length_map]
 exact List.length_pos_iff.2 (vb_ne _)
theorem Xgm{v:Int}(h:X1q v):Xb1 (X0v v):=by
 unfold Xb1
 rw[Xib h,←Xk7 h]
theorem Xin{v:Int}(h:X1q v)(t:List UInt8):X0f (X0v v++t)=(v,((X0v v).length:Int)):=by
 have hp:=X80 h
 have hl:=X0d v
 have hc:=Xgm h
 obtain⟨pre,x,he⟩:∃pre x,X0v v=pre++[x]:=⟨_,_,(List.dropLast_concat_getLast (List.length_pos_iff.1 hp)).symm⟩
 rw[he]at hc
 have hci:=(Xbf x pre).1 hc
 have hlen:(X0v v).length=pre.length+1:=by rw[he];simp
 have htake:(X0v v++t).take (pre.length+1)=X0v v:=by rw[←hlen];simp
 have hv:=X9E (s:=X0v v++t) (j:=pre.length) (by omega) (by
  unfold XfP
  rw[htake]
  simp only[Bool.and_eq_true,decide_eq_true_eq]
  exact⟨by simp;omega,Xgm h⟩) (fun i hi=>Xiu (by simp;omega) (by
   have:(X0v v++t).getD i 0=pre[i]:=by
    rw[he,List.getD_eq_getElem?_getD,List.append_assoc,List.getElem?_append_left (by omega),List.getElem?_eq_getElem (by omega)];rfl
   rw[this]
   exact hci.2.1 _ (List.getElem_mem _)))
 rw[hv,htake,Xib h,hlen]
 have:=h.1
 simp only[Prod.mk.injEq]
 omega
theorem Xol{s:List UInt8}(h:(X0f s).2≠0):s.take (X0f s).2.toNat=X0v (X0f s).1∧X1q (X0f s).1:=by
 have hb:=X2f s
 refine⟨?_,hb.1,hb.2.1⟩
 unfold X0f at h ⊢
 cases hf:(List.range 7).find? (fun j=>XfP s (j+1)) with
 | none=>rw[hf]at h;exact absurd rfl h
 | some j=>
   have h1:=List.find?_some hf
   have h2:=List.mem_range.1 (List.mem_of_find?_eq_some hf)
   simp only[XfP,Bool.and_eq_true,decide_eq_true_eq]at h1
   have e:((j:Int)+1).toNat=j+1:=by omega
   simp only[e]
   rw[XkB (by rw[List.length_take];omega)]
   exact h1.2.symm
def enc(vs:List Int):List UInt8:=vs.flatMap X0v
theorem Xce(v:Int)(vs:List Int):enc (v::vs)=X0v v++enc vs:=rfl
end Go.Proofs.YtcfaphojdacmbaaGreatR.B
