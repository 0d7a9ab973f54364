/- Numbers of seven-bit bytes:what is read is what was written;codes one behind the other. Plain. -/
import Derived.Test.YtgfgenbmjbhphaaCRvM
namespace Go.Proofs.Ytgfgenbmjbhphaa.B
set_option linter.unusedVariables false
set_option linter.unusedSimpArgs false
open Go Go.Proofs.Ytgfgenbmjbhphaa.Bv
theorem dec_vb:∀(k n:Nat),n<128 ^ (k+1)→dec (toBytes (vb n))=n
 | 0,n,h=>by
   rw [vb_small (by simpa using h)]
   have h':n<128:=by simpa using h
   simp only [toBytes,List.map_cons,List.map_nil,dec]
   simp;omega
 | k+1,n,h=>by
   by_cases hn:n<128
   · exact dec_vb 0 n (by simpa using hn)
   · rw [vb_big hn,toBytes_cons]
     have h2:=dec_vb k (n / 128) (by rw [Nat.div_lt_iff_lt_mul (by omega)];rw [Nat.pow_succ] at h;exact h)
     simp only [dec]
     rw [h2]
     have:(UInt8.ofNat (((128+n % 128:Nat):Int)).toNat).toNat=128+n % 128:=by
      simp only [Int.toNat_natCast,UInt8.toNat_ofNat'];omega
     rw [this];omega
def inVar (v:Int):Prop:=0≤v∧v≤562949953421311
theorem fVar_eq {v:Int} (h:inVar v):fVar v=toBytes (vb v.toNat):=by
 unfold fVar;rw [if_pos]
 simp [fIn];exact h
theorem fVar_decs {v:Int} (h:inVar v):dec (fVar v)=v.toNat:=by
 rw [fVar_eq h];exact dec_vb 6 _ (by have:=h.2;omega)
theorem vb_ne (n:Nat):vb n≠[]:=by
 by_cases h:n<128
 · rw [vb_small h];simp
 · rw [vb_big h];simp
theorem fVar_pos {v:Int} (h:inVar v):0<(fVar v).length:=by
 rw [fVar_eq h];unfold toBytes;rw [List.length_map]
 exact List.length_pos_iff.2 (vb_ne _)
theorem fVar_canon {v:Int} (h:inVar v):canon (fVar v):=by
 unfold canon
 rw [fVar_decs h,←fVar_eq h]
theorem rv_enc {v:Int} (h:inVar v) (t:List UInt8):fReadVar (fVar v++t)=(v,((fVar v).length:Int)):=by
 have hp:=fVar_pos h
 have hl:=fVar_length v
 have hc:=fVar_canon h
 obtain⟨pre,x,he⟩:∃pre x,fVar v=pre++[x]:=⟨_,_,(List.dropLast_concat_getLast (List.length_pos_iff.1 hp)).symm⟩
 rw [he] at hc
 have hci:=(canon_iff x pre).1 hc
 have hlen:(fVar v).length=pre.length+1:=by rw [he];simp
 have htake:(fVar v++t).take (pre.length+1)=fVar v:=by rw [←hlen];simp
 have hv:=readVar_some (s:=fVar v++t) (j:=pre.length) (by omega) (by
  unfold okAt
  rw [htake]
  simp only [Bool.and_eq_true,decide_eq_true_eq]
  exact⟨by simp;omega,fVar_canon h⟩) (fun i hi=>okAt_last (by simp;omega) (by
   have:(fVar v++t).getD i 0=pre[i]:=by
    rw [he,List.getD_eq_getElem?_getD,List.append_assoc,List.getElem?_append_left (by omega),List.getElem?_eq_getElem (by omega)];rfl
   rw [this]
   exact hci.2.1 _ (List.getElem_mem _)))
 rw [hv,htake,fVar_decs h,hlen]
 have:=h.1
 simp only [Prod.mk.injEq]
 omega
def enc (vs:List Int):List UInt8:=vs.flatMap fVar
end Go.Proofs.Ytgfgenbmjbhphaa.B
