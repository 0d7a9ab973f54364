/- All operations together (3): append, copy, clear, len, stores. -/
import Derived.Test.YtcbehcpmojnnfaaWE2
namespace Go.Proofs.Ytcbehcpmojnnfaa.Bv
set_option linter.unusedVariables false
set_option linter.unusedSimpArgs false

variable {P : Program} {base : World} {M0 : Mem} {ios : Ios} {σ : Sg} {M : Mem} {w : World} {a : Act} {st : St} {tab : Tab} {Γ : Gam} {o : Oper} {next : Act → World → Prop} {Q : Exit → Act → World → Prop}

theorem appendEff_sound {x y : Operand} {ts : Array TypeId} {ps : List Prop} {ef : Eff} (hT : TabOk P tab) (hS : Sim P base M0 ios σ M w a st)
    (ho : o.op = .call { callee := .builtin .append, args := #[x, y], argTypes := ts }) (hd : ∀ d, o.dst = some d → d < st.nt)
    (hh : appendEff tab o ts.toList (inOf st x) (inOf st y) = some (ps, ef)) (hps : ∀ p ∈ ps, p) (hf : noTags st ef.nrow = true) (hn : Goes P base M0 ios a o st ef next) : o.wp P a w next Q := by
  have hx0 := inOf_rep (M := M) hS x
  have hy0 := inOf_rep (M := M) hS y
  unfold appendEff at hh
  split at hh
  · rename_i d t u hdst hts
    obtain rfl : ts = #[t, u] := Array.ext' hts
    split at hh
    · rename_i htu
      subst htu
      split at hh
      · rename_i τ fs e b xc yc hty hsx hsy
        have hx := typed_rep (tab := tab) t hx0.rep
        have hy := typed_rep (tab := tab) t hy0.rep
        rw [hsx] at hx
        rw [hsy] at hy
        split at hh
        · rename_i τe ag fs' el bytes he
          split at hh
          · rename_i hc
            obtain ⟨hτe, hpos⟩ := hc
            have hot : appendHot e τ bytes d (inOf st x) xc yc (inOf st y) = some (ps, ef) → o.wp P a w next Q := fun hh =>
              appendHot_sound (te := ⟨τe, ag, fs', el, bytes⟩) hT hS ho hdst (hd d hdst) hty he hτe hpos hx0.rows hy0.rows (RepVal.one hx) (RepVal.one hy) hh hps hf hn
            cases xc with
            | lst τ1 l tag =>
              cases tag with
              | none =>
                cases yc <;> exact hot hh
              | some r =>
                cases yc with
                | lst τ2 l' tag2 =>
                  simp only at hh
                  split at hh
                  · exact hot hh
                  · split at hh
                    · rename_i h1
                      subst h1
                      split at hh
                      · rename_i h2
                        subst h2
                        split at hh
                        · rename_i hr
                          simp only [castL_rfl, Option.some.injEq, Prod.mk.injEq] at hh
                          obtain ⟨rfl, rfl⟩ := hh
                          simp only [noTags, Bool.and_true] at hf
                          refine op_append (u := t) (ty := t) (fs2 := []) (b2 := 0) hT hS ho hdst (hd d hdst) hty he hτe hpos hx ?_ hy (hps _ (by simp)) (hps _ (by simp)) hf hn
                          rcases hr with h0 | h0
                          · exact .inl h0
                          · by_cases hr0 : r = 0
                            · exact .inl hr0
                            · right
                              have hne : (inOf st x).sv = .val false [.lst τ2 l (some r)] := by
                                cases hsv : (inOf st x).sv with
                                | nil =>
                                  rw [hsv] at hsx
                                  simp only [typed, hty] at hsx
                                  injection hsx with _ e1
                                  injection e1 with e2 _
                                  injection e2 with _ _ e3
                                  injection e3 with e4
                                  exact absurd e4.symm hr0
                                | _ => rw [hsv] at hsx; exact hsx
                              rw [← hx0.row _ _ _ hne]; exact h0
                        · cases hh
                      · cases hh
                    · cases hh
                | _ => exact hot hh
            | _ => exact hot hh
          · cases hh
        · cases hh
      · cases hh
    · cases hh
  · cases hh

theorem dstOf_rep (hS : Sim P base M0 ios σ M w a st) {τ : Ty} {x : Operand} {p : Dst τ} (h : dstOf τ (inOf st x) = some p) : look p.r st.rows = some (.hot p.e τ p.l p.ver none p.z) ∧ DstOf σ τ p.r p.lo p.hi (List.length p.l) (a.eval x) := by
  unfold dstOf at h
  split at h
  · rename_i τ1 r hsv
    split at h
    · rename_i e τ' l ver z hl
      obtain ⟨h1, h2⟩ := ownAt hS hsv hl
      split at h
      · rename_i ht
        subst ht
        split at h
        · rename_i ht
          subst ht
          simp only [castL_rfl, Option.some.injEq] at h
          subst h
          exact ⟨h1, .inr ⟨h2, rfl, rfl⟩⟩
        · cases h
      · cases h
    · cases h
  · rename_i τ1 r lo hi hsv
    split at h
    · rename_i e τ' l ver z hl
      obtain ⟨h1, h2⟩ := subAt hS hsv hl
      split at h
      · rename_i ht
        subst ht
        split at h
        · rename_i ht
          subst ht
          simp only [castL_rfl, Option.some.injEq] at h
          subst h
          exact ⟨h1, .inl h2⟩
        · cases h
      · cases h
    · cases h
  · cases h

theorem builtin_sound {b : Builtin} {xs : Array Operand} {ts : Array TypeId} {ps : List Prop} {e : Eff} (hT : TabOk P tab) (hS : Sim P base M0 ios σ M w a st) (hop : o.op = .call { callee := .builtin b, args := xs, argTypes := ts }) (hd : ∀ d, o.dst = some d → d < st.nt)
    (h : builtinEff tab b o ts.toList (xs.toList.map (inOf st)) = some (ps, e)) (hps : ∀ p ∈ ps, p) (hn : Goes P base M0 ios a o st e next) : o.wp P a w next Q := by
  have hrep := fun x => inOf_rep (M := M) hS x
  unfold builtinEff at h
  split at h
  · -- len
    rename_i x hx
    obtain ⟨x', rfl, hxx⟩ : ∃ x', xs = #[x'] ∧ inOf st x' = x := by
      cases xs with
      | mk l => match l, hx with
        | [y], hx => exact ⟨y, rfl, by simpa using hx⟩
    subst hxx
    have hr := (hrep x').rep
    split at h
    · rename_i t ht
      obtain rfl : ts = #[t] := Array.ext' ht
      split at h
      · rename_i fs e' b' s hty hsv
        rw [hsv] at hr
        simp only [Option.some.injEq, Prod.mk.injEq] at h
        obtain ⟨rfl, rfl⟩ := h
        exact op_len_str hT hS hop hd hty hr hn
      · rename_i τ0 fs e' b' hty
        split at h
        · rename_i τ l hl
          simp only [Option.some.injEq, Prod.mk.injEq] at h
          obtain ⟨rfl, rfl⟩ := h
          exact op_len_any hT hS hop hd hty (listOf_rep hS (hrep x') hl).1 hn
        · cases h
      · cases h
    · cases h
  · -- min
    rename_i x y hx
    obtain ⟨x', y', rfl, hxx, hyy⟩ : ∃ x' y', xs = #[x', y'] ∧ inOf st x' = x ∧ inOf st y' = y := by
      cases xs with
      | mk l => match l, hx with
        | [u, v], hx => exact ⟨u, v, rfl, by simp at hx; exact hx.1, by simp at hx; exact hx.2⟩
    subst hxx; subst hyy
    split at h
    · rename_i k m k' n hsx hsy
      have h1 := (hrep x').rep; rw [hsx] at h1
      have h2 := (hrep y').rep; rw [hsy] at h2
      have e1 := (RepVal.one h1).int
      have e2 := (RepVal.one h2).int
      simp only [Option.some.injEq, Prod.mk.injEq] at h
      obtain ⟨rfl, rfl⟩ := h
      exact wp_val (w' := w) (by simp [execOp, hop, resolve, invoke, builtin, Builtin.min_, Builtin.min2, e1, e2]) (hn _ σ M w (hS.putO hd (rep_int _ _)))
    · cases h
  · -- max
    rename_i x y hx
    obtain ⟨x', y', rfl, hxx, hyy⟩ : ∃ x' y', xs = #[x', y'] ∧ inOf st x' = x ∧ inOf st y' = y := by
      cases xs with
      | mk l => match l, hx with
        | [u, v], hx => exact ⟨u, v, rfl, by simp at hx; exact hx.1, by simp at hx; exact hx.2⟩
    subst hxx; subst hyy
    split at h
    · rename_i k m k' n hsx hsy
      have h1 := (hrep x').rep; rw [hsx] at h1
      have h2 := (hrep y').rep; rw [hsy] at h2
      have e1 := (RepVal.one h1).int
      have e2 := (RepVal.one h2).int
      simp only [Option.some.injEq, Prod.mk.injEq] at h
      obtain ⟨rfl, rfl⟩ := h
      exact wp_val (w' := w) (by simp [execOp, hop, resolve, invoke, builtin, Builtin.max_, Builtin.max2, e1, e2]) (hn _ σ M w (hS.putO hd (rep_int _ _)))
    · cases h
  · cases h

theorem two_of {xs : Array Operand} {x y : In} (hx : xs.toList.map (inOf st) = [x, y]) : ∃ x' y', xs = #[x', y'] ∧ inOf st x' = x ∧ inOf st y' = y := by
  cases xs with
  | mk l => match l, hx with
    | [u, v], hx => exact ⟨u, v, rfl, by simp at hx; exact hx.1, by simp at hx; exact hx.2⟩

theorem callOp_sound {b : Builtin} {xs : Array Operand} {ts : Array TypeId} {ps : List Prop} {e : Eff} (hT : TabOk P tab) (hS : Sim P base M0 ios σ M w a st) (hop : o.op = .call { callee := .builtin b, args := xs, argTypes := ts }) (hd : ∀ d, o.dst = some d → d < st.nt)
    (h : callOp tab Γ o { callee := .builtin b, args := xs, argTypes := ts } (xs.toList.map (inOf st)) = some (ps, e)) (hps : ∀ p ∈ ps, p) (hf : noTags st e.nrow = true) (hv : noVers st e.urow = true) (hn : Goes P base M0 ios a o st e next) : o.wp P a w next Q := by
  unfold callOp at h
  split at h
  · rename_i x y hb hx
    injection hb with hb
    subst hb
    obtain ⟨x', y', rfl, rfl, rfl⟩ := two_of hx
    exact appendEff_sound hT hS hop hd h hps hf hn
  · rename_i x y hb hx
    injection hb with hb
    subst hb
    obtain ⟨x', y', rfl, rfl, rfl⟩ := two_of hx
    split at h
    · rename_i tx ty hts
      obtain rfl : ts = #[tx, ty] := Array.ext' hts
      split at h
      · rename_i τ fs el b' hty
        split at h
        · rename_i te he
          split at h
          · rename_i hc
            obtain ⟨c1, c2, c3⟩ := hc
            split at h
            · rename_i p τ2 l2 hp hl2
              obtain ⟨hr, hdst⟩ := dstOf_rep hS hp
              split at h
              · rename_i h2
                subst h2
                simp only [castL_rfl, Option.some.injEq, Prod.mk.injEq] at h
                obtain ⟨rfl, rfl⟩ := h
                exact op_copy hT hS hop hd hty he c1 c2 c3 hr hdst (listOf_rep hS (inOf_rep hS y') hl2).1 (hps _ (by simp)) (hps _ (by simp)) hv hn
              · cases h
            · cases h
          · cases h
        · cases h
      · cases h
    · cases h
  · rename_i x hb hx
    injection hb with hb
    subst hb
    obtain ⟨x', rfl, rfl⟩ : ∃ x', xs = #[x'] ∧ inOf st x' = x := by
      cases xs with
      | mk l => match l, hx with
        | [y], hx => exact ⟨y, rfl, by simpa using hx⟩
    split at h
    · rename_i tx hts
      obtain rfl : ts = #[tx] := Array.ext' hts
      split at h
      · rename_i τ fs el b' hty
        split at h
        · rename_i te he
          split at h
          · rename_i hc
            obtain ⟨c1, c2⟩ := hc
            split at h
            · rename_i p hp
              obtain ⟨hr, hdst⟩ := dstOf_rep hS hp
              simp only [Option.some.injEq, Prod.mk.injEq] at h
              obtain ⟨rfl, rfl⟩ := h
              exact op_clear hT hS hop hd hty he c1 c2 hr hdst (hps _ (by simp)) (hps _ (by simp)) hv hn
            · cases h
          · cases h
        · cases h
      · cases h
    · cases h
  · rename_i b2 hb _ _ _
    injection hb with hb
    subst hb
    exact builtin_sound hT hS hop hd h hps hn
  · cases h

theorem storeHp_sound {t : TypeId} {ti : TI} {x y : Operand} {τ : Ty} {r i off : Nat} {ds : List CellV} {ps : List Prop} {e : Eff} (hT : TabOk P tab) (hS : Sim P base M0 ios σ M w a st) (hop : o.op = .store t x y) (hdn : o.dst = none) (ht : look t tab = some ti)
    (hsv : (inOf st x).sv = .hp τ r i off) (hy : All2 (RdT σ st.rows M) (a.eval y).cells.toList ds) (h : storeHp tab ti τ r i off (inOf st x) ds ((inOf st x).rows ++ (inOf st y).rows) = some (ps, e)) (hps : ∀ p ∈ ps, p) (hv : noVers st e.urow = true) (hn : Goes P base M0 ios a o st e next) : o.wp P a w next Q := by
  have hx := inOf_rep (M := M) hS x
  have hrx := hx.rep
  rw [hsv] at hrx
  have hrows : ∀ r rv, look r ((inOf st x).rows ++ (inOf st y).rows) = some rv → look r st.rows = some rv := fun r rv hl => by
    rw [look_app] at hl
    split at hl
    · rename_i v he; cases hl; exact hx.rows r _ he
    · exact (inOf_rep (M := M) hS y).rows r rv hl
  unfold storeHp at h
  split at h
  · rename_i e0 τ' l ver hole z ps' ks hl hown
    split at h
    · rename_i hτ
      subst hτ
      split at h
      · rename_i hc
        obtain ⟨c1, c2, c3⟩ := hc
        split at h
        · rename_i l' hk hset
          rw [Bool.and_eq_true] at hk
          have hl' := hx.rows r _ hl
          split at h
          · simp only [Option.some.injEq, Prod.mk.injEq] at h
            obtain ⟨rfl, rfl⟩ := h
            exact op_store_hp hT hS hop hdn hrows ht hl' hrx hy hown hk.1 hk.2 c1 c2 c3 hset (.inl rfl) hv hn
          · rename_i i' off'
            split at h
            · rename_i hoff
              simp only [Option.some.injEq, Prod.mk.injEq] at h
              obtain ⟨rfl, rfl⟩ := h
              obtain ⟨h1, h2⟩ := hoff
              subst h1
              have hi : i = i' := hps _ (by simp)
              subst hi
              exact op_store_hp hT hS hop hdn hrows ht hl' hrx hy hown hk.1 hk.2 c1 c2 c3 hset (.inr ⟨rfl, h2⟩) hv hn
            · cases h
        · cases h
      · cases h
    · cases h
  · cases h

end Go.Proofs.Ytcbehcpmojnnfaa.Bv
