/- Code, by value; and that it is so. -/
import Derived.Test.YtcbehcpmojnnfaaWL4
namespace Go.Proofs.Ytcbehcpmojnnfaa.Bv
set_option linter.unusedVariables false
set_option linter.unusedSimpArgs false

inductive Ex where
  | normal
  | exit (id : Nat)
  | ret

def thenK (next : St → Prop) (K : Ex → St → Prop) : Ex → St → Prop
  | .normal, st => next st
  | .exit id, st => K (.exit id) st
  | .ret, st => K .ret st

def blockK (id : Nat) (K : Ex → St → Prop) : Ex → St → Prop
  | .exit id', st => if id' = id then K .normal st else K (.exit id') st
  | .normal, st => K .normal st
  | .ret, st => K .ret st

def vc (tab : Tab) (Γ : Gam) (L : Nat → Option LoopAnn) : Code → Nat → St → (Ex → St → Prop) → Prop
  | .skip, _, st, K => K .normal st
  | .region _ ops false, _, st, K => match dstsIn st.nt ops.toList with
    | true => vcOps tab Γ ops.toList ops.toList st (K .normal)
    | false => False
  | .region _ ops true, _, st, K => match dstsIn st.nt ops.toList with
    | true => vcRun tab Γ ops.toList ops.toList st fun outs st' => match mixOk ops.toList outs st with
      | true => K .normal st'
      | false => False
    | false => False
  | .seq x y, p, st, K => vc tab Γ L x (2 * p) st (thenK (fun st' => vc tab Γ L y (2 * p + 1) st' K) K)
  | .cond c x y, p, st, K => match (inOf st c).sv with
    | .val false [.bool b] => caseB b (vc tab Γ L x (2 * p) st K) (vc tab Γ L y (2 * p + 1) st K)
    | _ => False
  | .block id c, p, st, K => vc tab Γ L c (2 * p) st (blockK id K)
  | .loop c, p, st, K => match L p with
    | some an => enterV tab an st fun s0 x0 => an.I st x0 ∧ ∀ x, an.I st x → headV an s0 x fun s =>
        vc tab Γ L c (2 * p) s (thenK (fun st' => again tab an s0 st' fun y => an.I st y ∧ an.μ st y < an.μ st x) K)
    | none => False
  | .exit id, _, st, K => K (.exit id) st
  | .ret, _, st, K => K .ret st
  | _, _, _, _ => False

def toExit : Ex → Exit
  | .normal => .normal
  | .exit id => .exit id
  | .ret => .ret

variable {P : Program} {base : World} {M0 : Mem} {ios : Ios} {σ : Sg} {M : Mem} {w : World} {a : Act} {st : St} {tab : Tab} {Γ : Gam}

theorem least {α : Type} (R : α → Prop) (μ : α → Nat) : ∀ n x, R x → μ x ≤ n → ∃ x, R x ∧ ∀ y, R y → μ x ≤ μ y := by
  intro n
  induction n with
  | zero => intro x hx hn; exact ⟨x, hx, fun y _ => by omega⟩
  | succ n ih =>
    intro x hx hn
    by_cases h : ∃ y, R y ∧ μ y ≤ n
    · obtain ⟨y, hy, hyn⟩ := h; exact ih y hy hyn
    · refine ⟨x, hx, fun y hy => ?_⟩
      rcases Nat.lt_or_ge n (μ y) with h1 | h1
      · omega
      · exact absurd ⟨y, hy, h1⟩ h

open Classical in
theorem wp_loop_rel {α : Type} {c : Code} {Q : Exit → Act → World → Prop} (R : α → Act → World → Prop) (μ : α → Nat) {x : α} (h0 : R x a w)
    (round : ∀ x a w, R x a w → c.wp P (Exit.then (fun a' w' => ∃ y, R y a' w' ∧ μ y < μ x) Q) a w) : (Code.loop c).wp P Q a w := by
  let m : Act → World → Nat := fun a w => if h : ∃ x, R x a w ∧ ∀ y, R y a w → μ x ≤ μ y then μ h.choose else 0
  refine wp_loop (fun a w => ∃ x, R x a w) m ⟨x, h0⟩ fun a w ⟨x, hx⟩ => ?_
  have hl := least (fun x => R x a w) μ _ x hx (Nat.le_refl _)
  have hm : m a w = μ hl.choose := dif_pos hl
  refine wp_mono (round hl.choose a w hl.choose_spec.1) fun e a' w' hq => ?_
  cases e with
  | normal =>
    obtain ⟨y, hy, hlt⟩ := hq
    refine ⟨⟨y, hy⟩, ?_⟩
    have hl' := least (fun x => R x a' w') μ _ y hy (Nat.le_refl _)
    have hm' : m a' w' = μ hl'.choose := dif_pos hl'
    rw [hm, hm']
    exact Nat.lt_of_le_of_lt (hl'.choose_spec.2 y hy) hlt
  | _ => exact hq

theorem vc_sound {L : Nat → Option LoopAnn} (hm : P.follows .mixedOrders = true) (hT : TabOk P tab) (hΓ : GamOk P Γ) : ∀ (c : Code) (p : Nat) (st : St) (K : Ex → St → Prop) (Q : Exit → Act → World → Prop) (σ : Sg) (M : Mem) (w : World) (a : Act), Sim P base M0 ios σ M w a st →
    (∀ e σ' M' w' a' st', Sim P base M0 ios σ' M' w' a' st' → K e st' → Q (toExit e) a' w') → vc tab Γ L c p st K → c.wp P Q a w := by
  intro c
  induction c with
  | skip => intro p st K Q σ M w a hS hq h; exact wp_skip (hq .normal _ _ _ _ _ hS h)
  | region id ops draw =>
    intro p st K Q σ M w a hS hq h
    cases draw with
    | true =>
      simp only [vc] at h
      split at h
      · rename_i hd
        obtain ⟨outs, st', hlen, hK, hext, hgood⟩ := vcRun_spec _ _ _ h
        split at hK
        · rename_i hok
          refine wp_region_any hm (drawn_sound hT hΓ hd hlen hok hgood (fun σ' M' w' a' hS' => hq .normal _ _ _ _ _ (hS'.ext hext.symm) hK) _ _ σ M _ a (by simp) ?_ ?_ ?_)
          · unfold unl
            exact Nat.le_trans (List.countP_le_length) (by simp)
          · intro j hj
            rw [Array.getD_eq_getD_getElem?, Array.getElem?_replicate] at hj
            split at hj <;> simp at hj
          · rw [mixI_none (fun i _ => by rw [Array.getD_eq_getD_getElem?, Array.getElem?_replicate]; split <;> rfl)]
            exact hS.sameHeap rfl rfl rfl rfl
        · exact hK.elim
      · exact h.elim
    | false =>
      simp only [vc] at h
      split at h
      · rename_i hd
        exact wp_region_list (vcOps_sound hT hΓ (fun σ' M' w' a' st' hS' hK => hq .normal σ' M' w' a' st' hS' hK) _ _ _ _ _ _ (dstsIn_spec hd) hS h)
      · exact h.elim
  | seq x y ihx ihy =>
    intro p st K Q σ M w a hS hq h
    refine wp_seq (ihx _ st _ _ σ M w a hS ?_ h)
    intro e σ' M' w' a' st' hS' hK
    cases e with
    | normal => exact ihy _ st' K Q σ' M' w' a' hS' hq hK
    | exit id => exact hq _ _ _ _ _ _ hS' hK
    | ret => exact hq _ _ _ _ _ _ hS' hK
  | cond c x y ihx ihy =>
    intro p st K Q σ M w a hS hq h
    simp only [vc] at h
    split at h
    · rename_i b hb
      replace h := caseB_to h
      have hr := (inOf_rep (M := M) hS c).rep
      rw [hb] at hr
      have hc : a.eval c = .bool b := (RepVal.one hr).1
      refine wp_cond_split hc (fun e => ihx _ st K Q σ M w a hS hq (h.1 e)) (fun e => ihy _ st K Q σ M w a hS hq (h.2 e))
    · exact h.elim
  | block id c ih =>
    intro p st K Q σ M w a hS hq h
    refine wp_block (ih _ st _ _ σ M w a hS ?_ h)
    intro e σ' M' w' a' st' hS' hK
    cases e with
    | normal => exact hq .normal _ _ _ _ _ hS' hK
    | exit id' =>
      simp only [blockK] at hK
      show (if id' = id then Q .normal a' w' else Q (.exit id') a' w')
      split at hK
      · rename_i e; rw [if_pos e]; exact hq .normal _ _ _ _ _ hS' hK
      · rename_i e; rw [if_neg e]; exact hq (.exit id') _ _ _ _ _ hS' hK
    | ret => exact hq .ret _ _ _ _ _ hS' hK
  | loop c ih =>
    intro p st K Q σ M w a hS hq h
    simp only [vc] at h
    split at h
    · rename_i an _
      obtain ⟨x0, s0, σ0, M0', ⟨hI0, hround⟩, hs0, hS0⟩ := again_sound hT h hS
      refine wp_loop_rel (fun x a w => an.I st x ∧ ∃ s σ M, headSt an.kp (weaken an.kp st) (flat an.T x) = some s ∧ Sim P base M0 ios σ M w a s) (an.μ st) (x := x0) ⟨hI0, s0, σ0, M0', hs0, hS0⟩ ?_
      rintro x a w ⟨hI, s, σ, M, hs, hS⟩
      have hb := hround x hI
      unfold headV at hb
      rw [hs] at hb
      refine ih _ _ _ _ σ M w a hS ?_ hb
      intro e σ' M' w' a' st' hS' hK
      cases e with
      | normal =>
        obtain ⟨y, s', σ2, M2, ⟨hIy, hlt⟩, hs', hS2⟩ := again_sound hT hK hS'
        exact ⟨y, ⟨hIy, s', σ2, M2, hs', hS2⟩, hlt⟩
      | exit id => exact hq _ _ _ _ _ _ hS' hK
      | ret => exact hq _ _ _ _ _ _ hS' hK
    · exact h.elim
  | exit id => intro p st K Q σ M w a hS hq h; exact wp_exit (hq (.exit id) _ _ _ _ _ hS h)
  | ret => intro p st K Q σ M w a hS hq h; exact wp_ret (hq .ret _ _ _ _ _ hS h)
  | _ => intro p st K Q σ M w a hS hq h; exact h.elim

end Go.Proofs.Ytcbehcpmojnnfaa.Bv
