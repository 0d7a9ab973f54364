/- Blocks of points that come evenly. -/
import Derived.Test.YtfnafjgehdeccaaCSame
import Derived.Test.YtfnafjgehdeccaaCRBlk
namespace Go.Proofs.Ytfnafjgehdeccaa.B
set_option linter.unusedVariables false
set_option linter.unusedSimpArgs false
open Go Go.Proofs.Ytfnafjgehdeccaa.Bv
theorem showB_read {l:List Pt} (h:fPtsOk l=true∧l≠[]):fReadBlock (fShowBlock l)=(l,true):=(readB_yes ⟨h,by unfold fShowBlock;rw [if_pos h];rfl⟩).symm
theorem readB_nil:fReadBlock []=([],false):=(readB_no fun l h=>by
 have h1:=h.2
 have h2:=(unframe_frame (bBody_len h.1)).1
 rw [h1] at h2;simp at h2).symm
theorem showB_no {l:List Pt} (h:¬(fPtsOk l=true∧l≠[])):fShowBlock l=[]:=by unfold fShowBlock;rw [if_neg h]
theorem readB_fine {t:List UInt8} (h:(fReadBlock t).2=true):fShowBlock (fReadBlock t).1=t∧fPtsOk (fReadBlock t).1=true:=by
 unfold fReadBlock at h ⊢
 split at h
 · rename_i hr;rw [if_pos hr];exact⟨hr.show,hr.1.1⟩
 · cases h
theorem frame_take {b:List UInt8} (h:1≤b.length∧b.length≤2000):(fFrame b).take 4=toBytes (fx 4 b.length):=by
 unfold fFrame
 have l1:(fFixed b.length 4).length=4:=by rw [fFixed4 h.2,toBytes_length,fx_length]
 rw [if_pos (fIn_iff.2 (by omega)),List.append_assoc,List.take_append_of_le_length (by omega),List.take_of_length_le (by omega),fFixed4 h.2]
theorem not_block {p:List Pt} (h:fPtsOk p=true∧p≠[]):fReadBlock ((fShowBlock p).take ((fShowBlock p).length - 1))=([],false):=(readB_no fun l hl=>by
 have e:fShowBlock p=fFrame (bBody p):=by unfold fShowBlock;rw [if_pos h];rfl
 have b1:=bBody_len h
 have b2:=bBody_len hl.1
 have f1:=(unframe_frame b1).1
 have f2:=(unframe_frame b2).1
 have h2:=hl.2
 rw [e] at h2
 have t1:=frame_take b1
 have t2:=frame_take b2
 rw [h2,List.take_take,show min 4 ((fFrame (bBody p)).length - 1)=4 by omega,t1] at t2
 have n1:=be_fx 4 (bBody p).length (by omega)
 have n2:=be_fx 4 (bBody l).length (by omega)
 rw [t2,n2] at n1
 rw [h2,List.length_take] at f2
 omega).symm
theorem fVar_le {k:Nat} {n:Int} (h:n<128 ^ (k+1)):(fVar n).length≤k+1:=by
 unfold fVar
 split
 · rename_i hn
   have:=(fIn_iff.1 hn).1
   rw [toBytes_length]
   refine vb_length k n.toNat ?_
   have:((n.toNat:Nat):Int)<((128 ^ (k+1):Nat):Int):=by rw [Int.toNat_of_nonneg this];exact_mod_cast h
   exact_mod_cast this
 · simp
def fAt (code:List Int) (i:Int):Int:=if i<code.length then IntKind.wrap .i64 (code.getD i.toNat 0) else Int.tmod (IntKind.wrap .i64 (IntKind.wrap .i64 (i*37)+IntKind.wrap .i64 (code.length*11))) 256
theorem fAt_in {code:List Int} (h:∀x∈code,0≤x∧x≤255) (hl:code.length≤1048576) {i:Int} (h0:0≤i) (h1:i≤10):0≤fAt code i∧fAt code i≤255:=by
 unfold fAt
 split
 · have:=h _ (getD_mem (d:=(0:Int)) (by omega:i.toNat<code.length))
   rw [w64 (by omega) (by omega)];exact this
 · rw [w64 (x:=i*37) (by omega) (by omega),w64 (x:=(code.length:Int)*11) (by omega) (by omega),w64 (by omega) (by omega)]
   have a:=Int.tmod_nonneg 256 (by omega:0≤i*37+(code.length:Int)*11)
   have b:=Int.tmod_lt_of_pos (i*37+(code.length:Int)*11) (by decide:(0:Int)<256)
   omega
def evens (step:Int) (n:Nat):List Pt:=(List.range n).map fun (j:Nat)=>(1000+(j:Int)*step,5+(j:Int))
theorem evens_succ (step:Int) (n:Nat):evens step (n+1)=evens step n++[(1000+(n:Int)*step,5+(n:Int))]:=by simp [evens,List.range_succ]
theorem evens_length (step:Int) (n:Nat):(evens step n).length=n:=by simp [evens]
theorem evens_fst {step:Int} {n i:Nat} (h:i<n):((evens step n).map (·.1)).getD i 0=1000+(i:Int)*step:=by
 rw [getD_lt (by simpa [evens] using h)];simp [evens]
theorem evens_snd {step:Int} {n i:Nat} (h:i<n):((evens step n).map (·.2)).getD i 0=5+(i:Int):=by
 rw [getD_lt (by simpa [evens] using h)];simp [evens]
theorem evens_ok {step:Int} {n:Nat} (h1:1≤step) (h2:step≤256) (hn:n≤51):fPtsOk (evens step n)=true:=by
 have hm:∀x∈evens step n,∃j:Nat,j<n∧x=(1000+(j:Int)*step,5+(j:Int)):=fun x hx=>by
  obtain⟨j,hj,e⟩:=List.mem_map.1 hx
  exact⟨j,List.mem_range.1 hj,e.symm⟩
 have hb:∀j:Nat,j<n→0≤(j:Int)*step∧(j:Int)*step≤13056:=fun j hj=>by
  refine⟨Int.mul_nonneg (by omega) (by omega),?_⟩
  have:(j:Int)*step≤51*256:=Int.mul_le_mul (by omega) h2 (by omega) (by omega)
  omega
 refine ptsOk_mk ⟨?_,fun x hx=>?_⟩ (fun x hx=>?_) (by rw [evens_length];omega)
 · unfold evens
   refine List.pairwise_map.2 (List.Pairwise.imp (fun {a b} hab=>?_) (List.pairwise_lt_range (n:=n)))
   simp only [decide_eq_true_eq]
   have:(a:Int)*step<(b:Int)*step:=Int.mul_lt_mul_of_pos_right (by omega) (by omega)
   omega
 · obtain⟨j,hj,rfl⟩:=hm x hx
   have:=hb j hj
   simp only;omega
 · obtain⟨j,hj,rfl⟩:=hm x hx
   simp only;omega
theorem evens_times {step:Int} {n:Nat} (h1:1≤step) (h2:step≤256):∀i:Nat,i≤n→(tmS ((evens step n).map (·.1)) i).length≤2+i
 | 0,_=>by simp [tmS]
 | i+1,hi=>by
   have ih:=evens_times (n:=n) h1 h2 i (by omega)
   rw [tmS_succ,List.length_append]
   have hp:(tmPiece ((evens step n).map (·.1)) i).length≤if i=0 then 2 else if i=1 then 2 else 1:=by
    unfold tmPiece
    split
    · rename_i e
      rw [evens_fst (by omega)]
      exact fVar_le (k:=1) (by simp)
    · split
      · rename_i e0 e
        rw [evens_fst (by omega),evens_fst (by omega)]
        exact fVar_le (k:=1) (by simp;omega)
      · rename_i e0 e1
        rw [evens_fst (by omega),evens_fst (by omega),evens_fst (by omega)]
        have c1:((i - 1:Nat):Int)=(i:Int) - 1:=by omega
        have c2:((i - 2:Nat):Int)=(i:Int) - 2:=by omega
        have e:1000+(i:Int)*step - (1000+((i - 1:Nat):Int)*step) - (1000+((i - 1:Nat):Int)*step - (1000+((i - 2:Nat):Int)*step))=0:=by
         rw [c1,c2,Int.sub_mul,Int.sub_mul];omega
        rw [e]
        exact fVar_le (k:=0) (by decide)
   by_cases c0:i=0
   · rw [if_pos c0] at hp;subst c0;simp [tmS] at ih ⊢;omega
   · rw [if_neg c0] at hp
     by_cases c1:i=1
     · rw [if_pos c1] at hp
       subst c1
       have e0:(tmS ((evens step n).map (·.1)) 1).length≤2:=by
        rw [tmS_succ,List.length_append]
        have:(tmPiece ((evens step n).map (·.1)) 0).length≤2:=by
         unfold tmPiece
         rw [if_pos rfl,evens_fst (by omega)]
         exact fVar_le (k:=1) (by simp)
        simp [tmS];omega
       omega
     · rw [if_neg c1] at hp;omega
theorem evens_values {step:Int} {n:Nat}:∀i:Nat,i≤n→(vlS ((evens step n).map (·.2)) i).length≤i
 | 0,_=>by simp [vlS]
 | i+1,hi=>by
   have ih:=evens_values (step:=step) (n:=n) i (by omega)
   rw [vlS_succ,List.length_append]
   have hp:(vlPiece ((evens step n).map (·.2)) i).length≤1:=by
    unfold vlPiece
    by_cases c0:i=0
    · rw [if_pos c0,evens_snd (by omega),c0];exact fVar_le (k:=0) (by decide)
    · rw [if_neg c0,evens_snd (by omega),evens_snd (by omega)]
      have e:5+(i:Int) - (5+((i - 1:Nat):Int))=1:=by omega
      rw [e];exact fVar_le (k:=0) (by decide)
   omega
theorem evens_len {step:Int} {n:Nat} (h1:1≤step) (h2:step≤256) (hn:n≤51):(fShowBlock (evens step n)).length≤20+3*n:=by
 unfold fShowBlock
 split
 · rename_i h
   have b:=bBody_len h
   have f:=(unframe_frame b).1
   have e:fFrame (fVar (evens step n).length++fShowTimes ((evens step n).map (·.1))++fShowValues ((evens step n).map (·.2)))=fFrame (bBody (evens step n)):=rfl
   rw [e,f]
   have v:=fVar_le (k:=0) (n:=((evens step n).length:Int)) (by rw [evens_length];simp;omega)
   have t:(fShowTimes ((evens step n).map (·.1))).length≤2+n:=by
    unfold fShowTimes;split
    · have:=evens_times h1 h2 n (Nat.le_refl n);rw [List.length_map,evens_length];exact this
    · simp
   have w:(fShowValues ((evens step n).map (·.2))).length≤n:=by
    unfold fShowValues;split
    · have:=evens_values (step:=step) (n:=n) n (Nat.le_refl n);rw [List.length_map,evens_length];exact this
    · simp
   simp only [bBody,List.length_append];omega
 · simp
end Go.Proofs.Ytfnafjgehdeccaa.B
