/- Numbers of seven-bit bytes: what is read is what was written; codes one behind the other. Plain. -/
import Derived.Test.YthjlommbnfooaaaCRvM
namespace Go.Proofs.Ythjlommbnfooaaa.B
set_option linter.unusedVariables false
set_option linter.unusedSimpArgs false
open Go Go.Proofs.Ythjlommbnfooaaa.Bv

theorem dec_vb : ∀ (k n : Nat), n < 128 ^ (k + 1) → dec (toBytes (vb n)) = n
  | 0, n, h => by
    rw [vb_small (by simpa using h)]
    have h' : n < 128 := by simpa using h
    simp only [toBytes, List.map_cons, List.map_nil, dec]
    simp; omega
  | k + 1, n, h => by
    by_cases hn : n < 128
    · exact dec_vb 0 n (by simpa using hn)
    · rw [vb_big hn, toBytes_cons]
      have h2 := dec_vb k (n / 128) (by rw [Nat.div_lt_iff_lt_mul (by omega)]; rw [Nat.pow_succ] at h; exact h)
      simp only [dec]
      rw [h2]
      have : (UInt8.ofNat (((128 + n % 128 : Nat) : Int)).toNat).toNat = 128 + n % 128 := by
        simp only [Int.toNat_natCast, UInt8.toNat_ofNat']; omega
      rw [this]; omega

def inVar (v : Int) : Prop := 0 ≤ v ∧ v ≤ 562949953421311
theorem fVar_eq {v : Int} (h : inVar v) : fVar v = toBytes (vb v.toNat) := by
  unfold fVar; rw [if_pos]
  simp [fIn]; exact h
theorem fVar_decs {v : Int} (h : inVar v) : dec (fVar v) = v.toNat := by
  rw [fVar_eq h]; exact dec_vb 6 _ (by have := h.2; omega)
theorem vb_ne (n : Nat) : vb n ≠ [] := by
  by_cases h : n < 128
  · rw [vb_small h]; simp
  · rw [vb_big h]; simp
theorem fVar_pos {v : Int} (h : inVar v) : 0 < (fVar v).length := by
  rw [fVar_eq h]; unfold toBytes; rw [List.length_map]
  exact List.length_pos_iff.2 (vb_ne _)
theorem fVar_canon {v : Int} (h : inVar v) : canon (fVar v) := by
  unfold canon
  rw [fVar_decs h, ← fVar_eq h]

/-- What is read back. -/
theorem rv_enc {v : Int} (h : inVar v) (t : List UInt8) : fReadVar (fVar v ++ t) = (v, ((fVar v).length : Int)) := by
  have hp := fVar_pos h
  have hl := fVar_length v
  have hc := fVar_canon h
  obtain ⟨pre, x, he⟩ : ∃ pre x, fVar v = pre ++ [x] := ⟨_, _, (List.dropLast_concat_getLast (List.length_pos_iff.1 hp)).symm⟩
  rw [he] at hc
  have hci := (canon_iff x pre).1 hc
  have hlen : (fVar v).length = pre.length + 1 := by rw [he]; simp
  have htake : (fVar v ++ t).take (pre.length + 1) = fVar v := by rw [← hlen]; simp
  have hv := readVar_some (s := fVar v ++ t) (j := pre.length) (by omega) (by
    unfold okAt
    rw [htake]
    simp only [Bool.and_eq_true, decide_eq_true_eq]
    exact ⟨by simp; omega, fVar_canon h⟩) (fun i hi => okAt_last (by simp; omega) (by
      have : (fVar v ++ t).getD i 0 = pre[i] := by
        rw [he, List.getD_eq_getElem?_getD, List.append_assoc, List.getElem?_append_left (by omega), List.getElem?_eq_getElem (by omega)]; rfl
      rw [this]
      exact hci.2.1 _ (List.getElem_mem _)))
  rw [hv, htake, fVar_decs h, hlen]
  have := h.1
  simp only [Prod.mk.injEq]
  omega

theorem rv_take {s : List UInt8} (h : (fReadVar s).2 ≠ 0) : s.take (fReadVar s).2.toNat = fVar (fReadVar s).1 ∧ inVar (fReadVar s).1 := by
  have hb := readVar_bound s
  refine ⟨?_, hb.1, hb.2.1⟩
  unfold fReadVar at h ⊢
  cases hf : (List.range 7).find? (fun j => okAt s (j + 1)) with
  | none => rw [hf] at h; exact absurd rfl h
  | some j =>
    have h1 := List.find?_some hf
    have h2 := List.mem_range.1 (List.mem_of_find?_eq_some hf)
    simp only [okAt, Bool.and_eq_true, decide_eq_true_eq] at h1
    have e : ((j : Int) + 1).toNat = j + 1 := by omega
    simp only [e]
    rw [fVar_dec (by rw [List.length_take]; omega)]
    exact h1.2.symm

/-! Several, one behind the other. -/
def enc (vs : List Int) : List UInt8 := vs.flatMap fVar
def rdVs : Nat → List UInt8 → Option (List Int × Nat)
  | 0, _ => some ([], 0)
  | n + 1, s => if (fReadVar s).2 = 0 then none else match rdVs n (s.drop (fReadVar s).2.toNat) with
    | none => none
    | some (vs, k) => some ((fReadVar s).1 :: vs, (fReadVar s).2.toNat + k)
theorem enc_cons (v : Int) (vs : List Int) : enc (v :: vs) = fVar v ++ enc vs := rfl
theorem enc_append (a b : List Int) : enc (a ++ b) = enc a ++ enc b := by simp [enc]

theorem rdVs_enc : ∀ (vs : List Int) (t : List UInt8), (∀ v ∈ vs, inVar v) → rdVs vs.length (enc vs ++ t) = some (vs, (enc vs).length)
  | [], t, _ => rfl
  | v :: vs, t, h => by
    have hv := h v (by simp)
    have e : enc (v :: vs) ++ t = fVar v ++ (enc vs ++ t) := by rw [enc_cons, List.append_assoc]
    have hr := rv_enc hv (enc vs ++ t)
    have hp := fVar_pos hv
    rw [e]
    simp only [List.length_cons, rdVs, hr]
    rw [if_neg (by omega), Int.toNat_natCast, List.drop_left, rdVs_enc vs t fun x hx => h x (by simp [hx])]
    simp [enc_cons]

theorem rdVs_some : ∀ {n : Nat} {s : List UInt8} {vs : List Int} {k : Nat}, rdVs n s = some (vs, k) → vs.length = n ∧ (∀ v ∈ vs, inVar v) ∧ k ≤ s.length ∧ s.take k = enc vs
  | 0, s, vs, k, h => by simp only [rdVs, Option.some.injEq, Prod.mk.injEq] at h; obtain ⟨rfl, rfl⟩ := h; exact ⟨rfl, by simp, by simp, by simp [enc]⟩
  | n + 1, s, vs, k, h => by
    simp only [rdVs] at h
    split at h
    · cases h
    · rename_i h0
      split at h
      · cases h
      · rename_i ws m hm
        simp only [Option.some.injEq, Prod.mk.injEq] at h
        obtain ⟨rfl, rfl⟩ := h
        obtain ⟨k1, k2, k3, k4⟩ := rdVs_some hm
        obtain ⟨q1, q2⟩ := rv_take h0
        have hb := readVar_bound s
        rw [List.length_drop] at k3
        refine ⟨by simp [k1], fun v hv => ?_, by omega, ?_⟩
        · rcases List.mem_cons.1 hv with e | hv
          · rw [e]; exact q2
          · exact k2 v hv
        · rw [enc_cons, ← q1, ← k4, List.take_add]

/-- More are read, the same before. -/
theorem rdVs_add : ∀ (n m : Nat) (s : List UInt8), rdVs (n + m) s = match rdVs n s with
    | none => none
    | some (vs, k) => match rdVs m (s.drop k) with
      | none => none
      | some (ws, j) => some (vs ++ ws, k + j)
  | 0, m, s => by
    simp only [Nat.zero_add, rdVs, List.drop_zero, List.nil_append]
    cases rdVs m s with
    | none => rfl
    | some p => rfl
  | n + 1, m, s => by
    rw [show n + 1 + m = (n + m) + 1 by omega]
    simp only [rdVs]
    by_cases h0 : (fReadVar s).2 = 0
    · simp [h0]
    · simp only [if_neg h0]
      rw [rdVs_add n m]
      cases rdVs n (s.drop (fReadVar s).2.toNat) with
      | none => rfl
      | some p =>
        obtain ⟨vs, k⟩ := p
        simp only [List.drop_drop]
        cases rdVs m (s.drop ((fReadVar s).2.toNat + k)) with
        | none => rfl
        | some q => obtain ⟨ws, j⟩ := q; simp [Nat.add_assoc]
end Go.Proofs.Ythjlommbnfooaaa.B
