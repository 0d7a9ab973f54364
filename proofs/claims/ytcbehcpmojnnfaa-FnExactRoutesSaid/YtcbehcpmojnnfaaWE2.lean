/- All operations together (2): slices, append, copy, stores. -/
import Derived.Test.YtcbehcpmojnnfaaWE1
namespace Go.Proofs.Ytcbehcpmojnnfaa.Bv
set_option linter.unusedVariables false
set_option linter.unusedSimpArgs false

variable {P : Program} {base : World} {M0 : Mem} {ios : Ios} {σ : Sg} {M : Mem} {w : World} {a : Act} {st : St} {tab : Tab} {Γ : Gam} {o : Oper} {next : Act → World → Prop} {Q : Exit → Act → World → Prop}

theorem ownAt (hS : Sim P base M0 ios σ M w a st) {x : Operand} {τ : Ty} {r : Nat} {rv : RowV} (hsv : (inOf st x).sv = .val false [.own τ r]) (hl : look r (inOf st x).rows = some rv) : look r st.rows = some rv ∧ a.eval x = σ.row r := by
  have hx := inOf_rep (M := M) hS x
  have hr := hx.rep
  rw [hsv] at hr
  have hl' := hx.rows r rv hl
  exact ⟨hl', (RepVal.one hr).2 (by rw [hl']; rfl)⟩

theorem subAt (hS : Sim P base M0 ios σ M w a st) {x : Operand} {τ : Ty} {r lo hi : Nat} {rv : RowV} (hsv : (inOf st x).sv = .val false [.sub τ r lo hi]) (hl : look r (inOf st x).rows = some rv) : look r st.rows = some rv ∧ subOf τ (σ.row r) lo hi (a.eval x) := by
  have hx := inOf_rep (M := M) hS x
  have hr := hx.rep
  rw [hsv] at hr
  have hl' := hx.rows r rv hl
  exact ⟨hl', (RepVal.one hr).2 (by rw [hl']; rfl)⟩

theorem castL_rfl {τ : Ty} (l : List (El τ)) : castL rfl l = l := rfl

theorem sliceV_sound {t : TypeId} {ti : TI} {x : Operand} {lo hi : Option Operand} {n m : Option Int} {kl kh : IntKind} {ps : List Prop} {e : Eff} (hT : TabOk P tab) (hS : Sim P base M0 ios σ M w a st) (hop : o.op = .slice t x lo hi none) (hd : ∀ d, o.dst = some d → d < st.nt)
    (ht : look t tab = some ti) (hlo : lo.map a.eval = n.map (Value.int kl)) (hhi : hi.map a.eval = m.map (Value.int kh))
    (h : sliceV tab Γ o ti (inOf st x) n m = some (ps, e)) (hps : ∀ p ∈ ps, p) (hf : noTags st e.nrow = true) (hn : Goes P base M0 ios a o st e next) : o.wp P a w next Q := by
  have hr1 := (inOf_rep (M := M) hS x).rep
  unfold sliceV at h
  split at h
  · rename_i s hsv hty hg
    rw [hsv] at hr1
    split at h <;> (simp only [Option.some.injEq, Prod.mk.injEq] at h; obtain ⟨rfl, rfl⟩ := h)
    · exact op_slice_str hT hS hop hd ht hty hg hr1 hlo hhi (fun _ e => by cases e) (fun _ e => by cases e) (by simp [loOf]) (by simp [hiOf]) (by simpa [loOf, hiOf] using hn)
    · rename_i j
      have h0 : 0 ≤ j := hps _ (by simp)
      have h1 : j ≤ s.length := hps _ (by simp)
      exact op_slice_str hT hS hop hd ht hty hg hr1 hlo hhi (fun _ e => by cases e; exact h0) (fun _ e => by cases e) (by simp only [loOf, hiOf]; omega) (by simp [hiOf]) (by simpa [loOf, hiOf] using hn)
    · rename_i j
      have h0 : 0 ≤ j := hps _ (by simp)
      have h1 : j ≤ s.length := hps _ (by simp)
      exact op_slice_str hT hS hop hd ht hty hg hr1 hlo hhi (fun _ e => by cases e) (fun _ e => by cases e; exact h0) (by simp [loOf]) (by simp only [hiOf]; omega) (by simpa [loOf, hiOf] using hn)
    · rename_i j j'
      have h0 : 0 ≤ j := hps _ (by simp)
      have h2 : j ≤ j' := hps _ (by simp)
      have h1 : j' ≤ s.length := hps _ (by simp)
      exact op_slice_str hT hS hop hd ht hty hg hr1 hlo hhi (fun _ e => by cases e; exact h0) (fun _ e => by cases e; omega) (by simp only [loOf, hiOf]; omega) (by simp only [hiOf]; omega) (by simpa [loOf, hiOf] using hn)
  · rename_i τ l tag τ0 hsv hty hg
    rw [hsv] at hr1
    split at h
    · rename_i te he
      split at h
      · rename_i hs
        simp only [Option.some.injEq, Prod.mk.injEq] at h
        obtain ⟨rfl, rfl⟩ := h
        obtain ⟨k1, k2, k3, k4, k5, k6⟩ := sliceL_spec hps
        rw [k5] at hn
        exact op_slice_list hT hS hop hd ht hty hg he hs hr1 hlo hhi k1 k2 k3 k4 hn
      · cases h
    · cases h
  · rename_i τ r τ0 hsv hty hg
    split at h
    · rename_i te e' τ' l ver z he hl
      obtain ⟨hl', hx⟩ := ownAt hS hsv hl
      split at h
      · rename_i hτ
        subst hτ
        split at h
        · rename_i hs
          simp only [castL_rfl] at h
          split at h
          · rename_i d hdst htk
            simp only [Option.some.injEq, Prod.mk.injEq] at h
            obtain ⟨rfl, rfl⟩ := h
            simp only [noTags, Bool.and_true] at hf
            exact op_slice_take hT hS hop hdst (hd d hdst) ht hty hg he hs hl' hx hlo hhi hps hf hn
          · simp only [Option.some.injEq, Prod.mk.injEq] at h
            obtain ⟨rfl, rfl⟩ := h
            exact op_slice_own hT hS hop hd ht hty hg he hs hl' hx hlo hhi hps hn
        · cases h
      · cases h
    · cases h
  · rename_i τ r lo0 hi0 τ0 hsv hty hg
    split at h
    · rename_i te e' τ' l ver z he hl
      obtain ⟨hl', hx⟩ := subAt hS hsv hl
      split at h
      · rename_i hτ
        subst hτ
        split at h
        · rename_i hs
          simp only [castL_rfl, Option.some.injEq, Prod.mk.injEq] at h
          obtain ⟨rfl, rfl⟩ := h
          exact op_slice_sub hT hS hop hd ht hty hg he hs hl' hx hlo hhi hps hn
        · cases h
      · cases h
    · cases h
  · rename_i τ l r ver p τ0 hsv hty hg
    split at h
    · rename_i te e' τ' l' ver' ho z he hl
      split at h
      · rename_i hv
        subst hv
        split at h
        · rename_i hs
          simp only [Option.some.injEq, Prod.mk.injEq] at h
          obtain ⟨rfl, rfl⟩ := h
          rw [hsv] at hr1
          exact op_slice_bor hT hS hop hd ht hty hg he hs ((inOf_rep (M := M) hS x).rows _ _ hl) rfl (RepVal.one hr1) hlo hhi hps hn
        · cases h
      · cases h
    · cases h
  · cases h

theorem slice_sound {t : TypeId} {x : Operand} {lo hi : Option Operand} {ps : List Prop} {e : Eff} (hT : TabOk P tab) (hS : Sim P base M0 ios σ M w a st) (hop : o.op = .slice t x lo hi none) (hd : ∀ d, o.dst = some d → d < st.nt)
    (h : sliceEff tab Γ o t lo hi (inOf st x) ((lo.toList ++ hi.toList).map (inOf st)) = some (ps, e)) (hps : ∀ p ∈ ps, p) (hf : noTags st e.nrow = true) (hn : Goes P base M0 ios a o st e next) : o.wp P a w next Q := by
  unfold sliceEff at h
  cases ht : look t tab with
  | none => simp [ht] at h
  | some ti =>
    simp only [ht] at h
    cases lo with
    | none => cases hi with
      | none => exact sliceV_sound (n := none) (m := none) (kl := .i64) (kh := .i64) hT hS hop hd ht rfl rfl h hps hf hn
      | some z =>
        simp only [Option.toList_none, Option.toList_some, List.nil_append, List.map_cons, List.map_nil] at h
        cases hz : intOf? (inOf st z) with
        | none => simp [hz] at h
        | some m =>
          simp only [hz] at h
          obtain ⟨k, hk⟩ := intOf_rep hS hz
          exact sliceV_sound (n := none) (m := some m) (kl := .i64) (kh := k) hT hS hop hd ht rfl (by simp [hk]) h hps hf hn
    | some y => cases hi with
      | none =>
        simp only [Option.toList_none, Option.toList_some, List.append_nil, List.map_cons, List.map_nil] at h
        cases hy : intOf? (inOf st y) with
        | none => simp [hy] at h
        | some n =>
          simp only [hy] at h
          obtain ⟨k, hk⟩ := intOf_rep hS hy
          exact sliceV_sound (n := some n) (m := none) (kl := k) (kh := .i64) hT hS hop hd ht (by simp [hk]) rfl h hps hf hn
      | some z =>
        simp only [Option.toList_some, List.cons_append, List.nil_append, List.map_cons, List.map_nil] at h
        cases hy : intOf? (inOf st y) with
        | none => simp [hy] at h
        | some n =>
          cases hz : intOf? (inOf st z) with
          | none => simp [hy, hz] at h
          | some m =>
            simp only [hy, hz] at h
            obtain ⟨k, hk⟩ := intOf_rep hS hy
            obtain ⟨k', hk'⟩ := intOf_rep hS hz
            exact sliceV_sound (n := some n) (m := some m) (kl := k) (kh := k') hT hS hop hd ht (by simp [hk]) (by simp [hk']) h hps hf hn

/-! ### append -/

theorem behind_rep (hS : Sim P base M0 ios σ M w a st) {τ : Ty} {yc : CellV} {yi : In} {v : Value} {l2 : List (El τ)} {ks : List Nat} (hyr : ∀ r rv, look r yi.rows = some rv → look r st.rows = some rv) (hy : RdT σ st.rows M v yc) (hb : behindV τ yc yi = some (l2, ks)) :
    ∃ b', Behind w τ v l2 b' ∧ b'.Nodup ∧ (∀ g ∈ b', ∃ r ∈ ks, isHot r st.rows ∧ g ∈ σ.foot r) := by
  unfold behindV at hb
  cases hfl : flatTy τ with
  | true =>
    simp only [hfl] at hb
    split at hb
    · rename_i t' l' tag hv
      split at hb
      · rename_i htt
        subst htt
        simp only [castL_rfl, Option.some.injEq, Prod.mk.injEq] at hb
        obtain ⟨rfl, rfl⟩ := hb
        exact ⟨[], Behind.flat hfl (valC_rep hS hyr hy hv), List.nodup_nil, fun g hg => by cases hg⟩
      · cases hb
    · cases hb
  | false =>
    simp only [hfl] at hb
    cases yc with
    | own t' r =>
      simp only at hb
      split at hb
      · rename_i e1 t1 l1 v1 z1 hl
        split at hb
        · rename_i h1
          subst h1
          split at hb
          · rename_i h2
            subst h2
            simp only [castL_rfl, Option.some.injEq, Prod.mk.injEq] at hb
            obtain ⟨rfl, rfl⟩ := hb
            have hl' := hyr _ _ hl
            have hok := hS.hotAt hl'
            have hv : v = σ.row r := hy.2 (by rw [hl']; rfl)
            obtain ⟨b', k1, k2, k3⟩ := Behind.own (show OwnL w _ (σ.row r) _ (σ.foot r) from hok.own) hok.nodup
            rw [hv]
            exact ⟨b', k1, k2, fun g hg => ⟨r, by simp, ⟨_, _, _, _, _, _, hl'⟩, k3 g hg⟩⟩
          · cases hb
        · cases hb
      · cases hb
    | lst t' l tag =>
      match l, tag, hy, hb with
      | [], some 0, hy, hb =>
        cases hb
        have hv : v = .slice none 0 0 := by have := hy.2; simpa [tagOk] using this
        exact ⟨[], .none hv rfl rfl, List.nodup_nil, fun g hg => by cases hg⟩
      | [], none, hy, hb => cases hb
      | [], some (k + 1), hy, hb => cases hb
      | _ :: _, none, hy, hb => cases hb
      | _ :: _, some k, hy, hb => cases hb
    | emp t' =>
      cases hb
      obtain ⟨ad, hv⟩ := hy.2
      exact ⟨[], .none hv rfl rfl, List.nodup_nil, fun g hg => by cases hg⟩
    | _ => cases hb

theorem appendHot_sound {e : TypeId} {τ : Ty} {d : Nat} {xi yi : In} {xc yc : CellV} {ps : List Prop} {ef : Eff} {t : TypeId} {te : TI} {fs : List (Nat × TypeId)} {b : Nat} {x y : Operand} (hT : TabOk P tab) (hS : Sim P base M0 ios σ M w a st)
    (ho : o.op = .call { callee := .builtin .append, args := #[x, y], argTypes := #[t, t] }) (hd : o.dst = some d) (hdn : d < st.nt)
    (h : look t tab = some ⟨.list τ, false, fs, e, b⟩) (he : look e tab = some te) (hte : te.ty = τ) (hpos : 0 < size τ)
    (hxr : ∀ r rv, look r xi.rows = some rv → look r st.rows = some rv) (hyr : ∀ r rv, look r yi.rows = some rv → look r st.rows = some rv)
    (hx : RdT σ st.rows M (a.eval x) xc) (hy : RdT σ st.rows M (a.eval y) yc)
    (hh : appendHot e τ te.bytes d xi xc yc yi = some (ps, ef)) (hps : ∀ p ∈ ps, p) (hf : noTags st ef.nrow = true) (hn : Goes P base M0 ios a o st ef next) : o.wp P a w next Q := by
  unfold appendHot at hh
  simp only at hh
  cases hbk : behindV τ yc yi with
  | none => simp [hbk] at hh
  | some pr =>
    obtain ⟨l2, ks⟩ := pr
    simp only [hbk] at hh
    obtain ⟨b', hb1, hb2, hb3⟩ := behind_rep hS hyr hy hbk
    have nilCase : a.eval x = .slice none 0 0 ∨ (∃ ad, a.eval x = .slice ad 0 0) → some ([(([] : List (El τ)).length + l2.length ≤ 9223372036854775807 : Prop), (([] : List (El τ)).length + l2.length) * te.bytes ≤ 140737488355328], ({ sv := .val false [.own τ (keyRow d 0)], nrow := [(keyRow d 0, .hot e τ ([] ++ l2) 0 none false)], krow := ks, urow := [] } : Eff)) = some (ps, ef) → o.wp P a w next Q := fun hv hh => by
      simp only [Option.some.injEq, Prod.mk.injEq] at hh
      obtain ⟨rfl, rfl⟩ := hh
      obtain ⟨ad, hv⟩ : ∃ ad, a.eval x = .slice ad 0 0 := by
        rcases hv with h | h
        · exact ⟨none, h⟩
        · exact h
      simp only [noTags, Bool.and_true] at hf
      exact op_append_hot (bs := []) (b' := b') (ks := ks) (l := []) (l2 := l2) hT hS ho hd hdn h he hte hpos (by rw [hv]; exact OwnL.emp ad) List.nodup_nil hb1 hb2 (fun g hg hg' => by cases hg') (fun g hg => by cases hg) hb3 (hps _ (by simp)) (hps _ (by simp)) hf hn
    cases xc with
    | own t' r =>
      simp only at hh
      split at hh
      · rename_i e1 t1 l1 v1 z1 hl
        split at hh
        · rename_i h1
          subst h1
          split at hh
          · rename_i h2
            subst h2
            split at hh
            · rename_i hnm
              simp only [castL_rfl, Option.some.injEq, Prod.mk.injEq] at hh
              obtain ⟨rfl, rfl⟩ := hh
              have hl' := hxr _ _ hl
              have hok := hS.hotAt hl'
              have hv : a.eval x = σ.row r := hx.2 (by rw [hl']; rfl)
              simp only [noTags, Bool.and_true] at hf
              have hrh : isHot r st.rows := ⟨_, _, _, _, _, _, hl'⟩
              refine op_append_hot (bs := σ.foot r) (b' := b') (ks := r :: ks) (l := l1) (l2 := l2) hT hS ho hd hdn h he hte hpos (by rw [hv]; exact hok.own) hok.nodup hb1 hb2 (fun g hg hg' => ?_) (fun g hg => ⟨r, by simp, hrh, hg⟩) (fun g hg => ?_) (hps _ (by simp)) (hps _ (by simp)) hf hn
              · obtain ⟨r', m1, m2, m3⟩ := hb3 g hg
                exact hS.hot.apart r' r m2 hrh (fun e => notMem_iff.1 hnm (e ▸ m1)) g m3 hg'
              · obtain ⟨r', m1, m2, m3⟩ := hb3 g hg
                exact ⟨r', List.mem_cons_of_mem _ m1, m2, m3⟩
            · cases hh
          · cases hh
        · cases hh
      · cases hh
    | lst t' l tag =>
      match l, tag, hx, hh with
      | [], some 0, hx, hh => exact nilCase (.inl (by have := hx.2; simpa [tagOk] using this)) hh
      | [], none, hx, hh => cases hh
      | [], some (k + 1), hx, hh => cases hh
      | _ :: _, none, hx, hh => cases hh
      | _ :: _, some k, hx, hh => cases hh
    | emp t' => exact nilCase (.inr hx.2) hh
    | _ => cases hh

end Go.Proofs.Ytcbehcpmojnnfaa.Bv
