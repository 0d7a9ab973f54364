/- Numbers of seven-bit bytes:what is read is what was written;codes one behind the other. Plain. -/
import Derived.Test.YtcfaphojdacmbaaGreatRCRvM
set_option linter.unusedVariables false
set_option linter.unusedSimpArgs false
namespace Go.Proofs.YtcfaphojdacmbaaGreatR.B
open Go Go.Proofs.YtcfaphojdacmbaaGreatR.Bv
theorem XlK:∀(k n:Nat),n<128 ^ (k+1)→dec (X2w (vb n))=n
 | 0,n,h=>by
   rw[X8t (by simpa using h)]
   have h':n<128:=by simpa using h
   simp only[X2w,List.map_cons,List.map_nil,dec]
   simp;omega
 | k+1,n,h=>by
   by_cases hn:n<128
   · exact XlK 0 n (by simpa using hn)
   · rw[XfK hn,Xae]
     have h2:=XlK k (n / 128) (by rw[Nat.div_lt_iff_lt_mul (by omega)];rw[Nat.pow_succ]at h;exact h)
     simp only[dec]
     rw[h2]
     have:(UInt8.ofNat (((128+n % 128:Nat):Int)).toNat).toNat=128+n % 128:=by
      simp only[Int.toNat_natCast,UInt8.toNat_ofNat'];omega
     rw[this];omega
def X4s(v:Int):Prop:=0≤v∧v≤562949953421311
theorem Xj1{v:Int}(h:X4s v):X1P v=X2w (vb v.toNat):=by
 unfold X1P;rw[if_pos]
 simp[fIn];exact h
theorem Xiu{v:Int}(h:X4s v):dec (X1P v)=v.toNat:=by
 rw[Xj1 h];exact XlK 6 _ (by have:=h.2;omega)
theorem vb_ne(n:Nat):vb n≠[]:=by
 by_cases h:n<128
 · rw[X8t h];simp
 · rw[XfK h];simp
theorem X7I{v:Int}(h:X4s v):0<(X1P v).length:=by
 rw[Xj1 h];unfold X2w;rw[List.length_map]
 exact List.length_pos_iff.2 (vb_ne _)
theorem Xg8{v:Int}(h:X4s v):Xa2 (X1P v):=by
 unfold Xa2
 rw[Xiu h,←Xj1 h]
theorem Xko{v:Int}(h:X4s v)(t:List UInt8):X0f (X1P v++t)=(v,((X1P v).length:Int)):=by
 have hp:=X7I h
 have hl:=X0w v
 have hc:=Xg8 h
 obtain⟨pre,x,he⟩:∃pre x,X1P v=pre++[x]:=⟨_,_,(List.dropLast_concat_getLast (List.length_pos_iff.1 hp)).symm⟩
 rw[he]at hc
 have hci:=(Xa0 x pre).1 hc
 have hlen:(X1P v).length=pre.length+1:=by rw[he];simp
 have htake:(X1P v++t).take (pre.length+1)=X1P v:=by rw[←hlen];simp
 have hv:=X8Q (s:=X1P v++t) (j:=pre.length) (by omega) (by
  unfold Xfo
  rw[htake]
  simp only[Bool.and_eq_true,decide_eq_true_eq]
  exact⟨by simp;omega,Xg8 h⟩) (fun i hi=>Xiz (by simp;omega) (by
   have:(X1P v++t).getD i 0=pre[i]:=by
    rw[he,List.getD_eq_getElem?_getD,List.append_assoc,List.getElem?_append_left (by omega),List.getElem?_eq_getElem (by omega)];rfl
   rw[this]
   exact hci.2.1 _ (List.getElem_mem _)))
 rw[hv,htake,Xiu h,hlen]
 have:=h.1
 simp only[Prod.mk.injEq]
 omega
theorem XmV{s:List UInt8}(h:(X0f s).2≠0):s.take (X0f s).2.toNat=X1P (X0f s).1∧X4s (X0f s).1:=by
 have hb:=X35 s
 refine⟨?_,hb.1,hb.2.1⟩
 unfold X0f at h ⊢
 cases hf:(List.range 7).find? (fun j=>Xfo s (j+1)) with
 | none=>rw[hf]at h;exact absurd rfl h
 | some j=>
   have h1:=List.find?_some hf
   have h2:=List.mem_range.1 (List.mem_of_find?_eq_some hf)
   simp only[Xfo,Bool.and_eq_true,decide_eq_true_eq]at h1
   have e:((j:Int)+1).toNat=j+1:=by omega
   simp only[e]
   rw[XjC (by rw[List.length_take];omega)]
   exact h1.2.symm
def enc(vs:List Int):List UInt8:=vs.flatMap X1P
theorem Xgv(v:Int)(vs:List Int):enc (v::vs)=X1P v++enc vs:=rfl
end Go.Proofs.YtcfaphojdacmbaaGreatR.B
