/- All operations together. -/
import Derived.Test.YtcbehcpmojnnfaaV12
namespace Go.Proofs.Ytcbehcpmojnnfaa.Bv
set_option linter.unusedVariables false
set_option linter.unusedSimpArgs false

variable {P : Program} {base : World} {M0 : Mem} {ios : List Nat} {σ : Sg} {M : Mem} {w : World} {a : Act} {st : St} {tab : Tab} {o : Oper} {next : Act → World → Prop} {Q : Exit → Act → World → Prop}

def GamOk (P : Program) (Γ : Nat → Option Con) : Prop := ∀ n con, Γ n = some con → FnOk P n ∧ ConOk P n con

theorem cellsOfSv_rep {rows : List (Nat × TypeId)} {boxes : List (Nat × List CellV)} {v : Value} {sv : Sv} {t : TypeId} {cs : List CellV} (h : RepSv σ rows boxes M v sv) (hc : cellsOfSv tab t sv = some cs) : All2 (RdT σ rows M) v.cells.toList cs := by
  have ht := typed_rep (tab := tab) t h
  unfold cellsOfSv at hc
  split at hc
  · rename_i ag cs' he
    cases hc
    rw [he] at ht
    exact ht.1
  · cases hc

theorem zip_mapM {parts : List (Nat × Operand)} (hS : Sim P base M0 ios σ M w a st) {f : Nat → Option TypeId} : ∀ {ps : List (Nat × List CellV)},
    (((parts.map (·.1)).zip ((parts.map (·.2)).map (inOf st))).mapM fun p => (f p.1).bind fun t => (cellsOfSv tab t p.2.sv).bind fun cs => some (p.1, cs)) = some ps →
    All2 (fun (p : Nat × Value) (q : Nat × List CellV) => p.1 = q.1 ∧ All2 (RdT σ st.rows M) p.2.cells.toList q.2) (parts.map fun p => (p.1, a.eval p.2)) ps := by
  induction parts with
  | nil => intro ps h; simp at h; subst h; exact .nil
  | cons p parts ih =>
    intro ps h
    simp only [List.map_cons, List.zip_cons_cons, List.mapM_cons, Option.bind_eq_bind, Option.pure_def, Option.bind_eq_some_iff] at h
    obtain ⟨q, ⟨t, ht, cs, hc, e⟩, qs, hq, e2⟩ := h
    cases e; cases e2
    exact .cons ⟨rfl, cellsOfSv_rep (inOf_rep hS p.2).rep hc⟩ (ih hq)

theorem operands_parts (parts : Array (Nat × Operand)) : (parts.toList.map (·.2)).toArray.toList = parts.toList.map (·.2) := by simp

theorem intOf_rep (hS : Sim P base M0 ios σ M w a st) {y : Operand} {n : Int} (h : intOf? (inOf st y) = some n) : ∃ k, a.eval y = .int k n := by
  have hr := (inOf_rep hS y).rep
  unfold intOf? at h
  split at h
  · rename_i k m hsv
    rw [hsv] at hr
    cases h
    exact ⟨k, (RepVal.one hr).int⟩
  · cases h

theorem sliceV_sound {t : TypeId} {ti : TI} {x : Operand} {lo hi : Option Operand} {n m : Option Int} {kl kh : IntKind} {ps : List Prop} {e : Eff} (hT : TabOk P tab) (hS : Sim P base M0 ios σ M w a st) (hop : o.op = .slice t x lo hi none) (hd : ∀ d, o.dst = some d → d < st.nt)
    (ht : look t tab = some ti) (hlo : lo.map a.eval = n.map (Value.int kl)) (hhi : hi.map a.eval = m.map (Value.int kh))
    (h : sliceV tab ti (inOf st x) n m = some (ps, e)) (hps : ∀ p ∈ ps, p) (hn : Goes P base M0 ios a o st e next) : o.wp P a w next Q := by
  have hr1 := (inOf_rep hS x).rep
  unfold sliceV at h
  split at h
  · rename_i s hsv hty hg
    rw [hsv] at hr1
    split at h <;> (simp only [Option.some.injEq, Prod.mk.injEq] at h; obtain ⟨rfl, rfl⟩ := h)
    · exact op_slice_str hT hS hop hd ht hty hg hr1 hlo hhi (fun _ e => by cases e) (fun _ e => by cases e) (by simp [loOf]) (by simp [hiOf]) (by simpa [loOf, hiOf] using hn)
    · rename_i j
      have h0 : 0 ≤ j := hps _ (by simp)
      have h1 : j ≤ s.length := hps _ (by simp)
      exact op_slice_str hT hS hop hd ht hty hg hr1 hlo hhi (fun _ e => by cases e; exact h0) (fun _ e => by cases e) (by simp only [loOf, hiOf]; omega) (by simp [hiOf]) (by simpa [loOf, hiOf] using hn)
    · rename_i j
      have h0 : 0 ≤ j := hps _ (by simp)
      have h1 : j ≤ s.length := hps _ (by simp)
      exact op_slice_str hT hS hop hd ht hty hg hr1 hlo hhi (fun _ e => by cases e) (fun _ e => by cases e; exact h0) (by simp [loOf]) (by simp only [hiOf]; omega) (by simpa [loOf, hiOf] using hn)
    · rename_i j j'
      have h0 : 0 ≤ j := hps _ (by simp)
      have h2 : j ≤ j' := hps _ (by simp)
      have h1 : j' ≤ s.length := hps _ (by simp)
      exact op_slice_str hT hS hop hd ht hty hg hr1 hlo hhi (fun _ e => by cases e; exact h0) (fun _ e => by cases e; omega) (by simp only [loOf, hiOf]; omega) (by simp only [hiOf]; omega) (by simpa [loOf, hiOf] using hn)
  · rename_i τ l tag τ0 hsv hty hg
    rw [hsv] at hr1
    split at h
    · rename_i te he
      split at h
      · rename_i hs
        split at h <;> (simp only [Option.some.injEq, Prod.mk.injEq] at h; obtain ⟨rfl, rfl⟩ := h)
        · exact op_slice_list hT hS hop hd ht hty hg he hs hr1 hlo hhi (fun _ e => by cases e) (fun _ e => by cases e) (by simp [loOf]) (by simp [hiOf]) (by simpa [loOf, hiOf] using hn)
        · rename_i j
          have h0 : 0 ≤ j := hps _ (by simp)
          have h1 : j ≤ l.length := hps _ (by simp)
          exact op_slice_list hT hS hop hd ht hty hg he hs hr1 hlo hhi (fun _ e => by cases e; exact h0) (fun _ e => by cases e) (by simp only [loOf, hiOf]; omega) (by simp [hiOf]) (by simpa [loOf, hiOf] using hn)
        · rename_i j
          have h0 : 0 ≤ j := hps _ (by simp)
          have h1 : j ≤ l.length := hps _ (by simp)
          exact op_slice_list hT hS hop hd ht hty hg he hs hr1 hlo hhi (fun _ e => by cases e) (fun _ e => by cases e; exact h0) (by simp [loOf]) (by simp only [hiOf]; omega) (by simpa [loOf, hiOf] using hn)
        · rename_i j j'
          have h0 : 0 ≤ j := hps _ (by simp)
          have h2 : j ≤ j' := hps _ (by simp)
          have h1 : j' ≤ l.length := hps _ (by simp)
          exact op_slice_list hT hS hop hd ht hty hg he hs hr1 hlo hhi (fun _ e => by cases e; exact h0) (fun _ e => by cases e; omega) (by simp only [loOf, hiOf]; omega) (by simp only [hiOf]; omega) (by simpa [loOf, hiOf] using hn)
      · cases h
    · cases h
  · cases h

theorem slice_sound {t : TypeId} {x : Operand} {lo hi : Option Operand} {ps : List Prop} {e : Eff} (hT : TabOk P tab) (hS : Sim P base M0 ios σ M w a st) (hop : o.op = .slice t x lo hi none) (hd : ∀ d, o.dst = some d → d < st.nt)
    (h : sliceEff tab t lo hi (inOf st x) ((lo.toList ++ hi.toList).map (inOf st)) = some (ps, e)) (hps : ∀ p ∈ ps, p) (hn : Goes P base M0 ios a o st e next) : o.wp P a w next Q := by
  unfold sliceEff at h
  cases ht : look t tab with
  | none => simp [ht] at h
  | some ti =>
    simp only [ht] at h
    cases lo with
    | none => cases hi with
      | none => exact sliceV_sound (n := none) (m := none) (kl := .i64) (kh := .i64) hT hS hop hd ht rfl rfl h hps hn
      | some z =>
        simp only [Option.toList_none, Option.toList_some, List.nil_append, List.map_cons, List.map_nil] at h
        cases hz : intOf? (inOf st z) with
        | none => simp [hz] at h
        | some m =>
          simp only [hz] at h
          obtain ⟨k, hk⟩ := intOf_rep hS hz
          exact sliceV_sound (n := none) (m := some m) (kl := .i64) (kh := k) hT hS hop hd ht rfl (by simp [hk]) h hps hn
    | some y => cases hi with
      | none =>
        simp only [Option.toList_none, Option.toList_some, List.append_nil, List.map_cons, List.map_nil] at h
        cases hy : intOf? (inOf st y) with
        | none => simp [hy] at h
        | some n =>
          simp only [hy] at h
          obtain ⟨k, hk⟩ := intOf_rep hS hy
          exact sliceV_sound (n := some n) (m := none) (kl := k) (kh := .i64) hT hS hop hd ht (by simp [hk]) rfl h hps hn
      | some z =>
        simp only [Option.toList_some, List.cons_append, List.nil_append, List.map_cons, List.map_nil] at h
        cases hy : intOf? (inOf st y) with
        | none => simp [hy] at h
        | some n =>
          cases hz : intOf? (inOf st z) with
          | none => simp [hy, hz] at h
          | some m =>
            simp only [hy, hz] at h
            obtain ⟨k, hk⟩ := intOf_rep hS hy
            obtain ⟨k', hk'⟩ := intOf_rep hS hz
            exact sliceV_sound (n := some n) (m := some m) (kl := k) (kh := k') hT hS hop hd ht (by simp [hk]) (by simp [hk']) h hps hn

theorem builtin_sound {b : Builtin} {xs : Array Operand} {ts : Array TypeId} {ps : List Prop} {e : Eff} (hT : TabOk P tab) (hS : Sim P base M0 ios σ M w a st) (hop : o.op = .call { callee := .builtin b, args := xs, argTypes := ts }) (hd : ∀ d, o.dst = some d → d < st.nt)
    (h : builtinEff tab b o ts.toList (xs.toList.map (inOf st)) = some (ps, e)) (hps : ∀ p ∈ ps, p) (hf : noTags st e.nrow = true) (hn : Goes P base M0 ios a o st e next) : o.wp P a w next Q := by
  have hrep := fun x => inOf_rep (M := M) hS x
  unfold builtinEff at h
  split at h
  · -- len
    rename_i x hx
    obtain ⟨x', rfl, hxx⟩ : ∃ x', xs = #[x'] ∧ inOf st x' = x := by
      cases xs with
      | mk l => match l, hx with
        | [y], hx => exact ⟨y, rfl, by simpa using hx⟩
    subst hxx
    have hr := (hrep x').rep
    split at h
    · rename_i t ht
      obtain rfl : ts = #[t] := Array.ext' ht
      split at h
      · rename_i τ0 fs e' b' τ l tag hty hsv
        rw [hsv] at hr
        simp only [Option.some.injEq, Prod.mk.injEq] at h
        obtain ⟨rfl, rfl⟩ := h
        exact op_len_list hT hS hop hd hty hr hn
      · rename_i fs e' b' s hty hsv
        rw [hsv] at hr
        simp only [Option.some.injEq, Prod.mk.injEq] at h
        obtain ⟨rfl, rfl⟩ := h
        exact op_len_str hT hS hop hd hty hr hn
      · cases h
    · cases h
  · -- append
    rename_i x y hx
    obtain ⟨x', y', rfl, hxx, hyy⟩ : ∃ x' y', xs = #[x', y'] ∧ inOf st x' = x ∧ inOf st y' = y := by
      cases xs with
      | mk l => match l, hx with
        | [u, v], hx => exact ⟨u, v, rfl, by simp at hx; exact hx.1, by simp at hx; exact hx.2⟩
    subst hxx; subst hyy
    split at h
    · rename_i d t u hdst ht
      split at h
      · rename_i htu
        subst htu
        obtain rfl : ts = #[t, t] := Array.ext' ht
        split at h
        · rename_i τ fs e' b' τ1 l r τ2 l' tag2 hty hsx hsy
          split at h
          · rename_i τe ag fs2 e2 bytes he
            split at h
            · rename_i h1
              split at h
              · rename_i h2
                split at h
                · rename_i hc
                  simp only [Option.some.injEq, Prod.mk.injEq] at h
                  obtain ⟨rfl, rfl⟩ := h
                  subst h1; subst h2
                  have hrx := typed_rep (tab := tab) t (hrep x').rep
                  have hry := typed_rep (tab := tab) t (hrep y').rep
                  rw [hsx] at hrx
                  rw [hsy] at hry
                  simp only [noTags, Bool.and_true] at hf
                  refine op_append (ty := t) (u := t) (fs2 := []) (b2 := 0) hT hS hop hdst (hd d hdst) hty he hc.1 hc.2.1 hrx ?_ hry (hps _ (by simp)) (hps _ (by simp)) hf hn
                  rcases hc.2.2 with h0 | h0
                  · exact .inl h0
                  · -- the row is the operand's
                    by_cases hr0 : r = 0
                    · exact .inl hr0
                    · right
                      have hne : (inOf st x').sv = .val false [.lst τ2 l (some r)] := by
                        cases hsv : (inOf st x').sv with
                        | nil =>
                          rw [hsv] at hsx
                          simp only [typed, hty] at hsx
                          injection hsx with _ e1
                          injection e1 with e2 _
                          injection e2 with _ _ e3
                          injection e3 with e4
                          exact absurd e4.symm hr0
                        | _ => rw [hsv] at hsx; exact hsx
                      rw [← (hrep x').row _ _ _ hne]; exact h0
                · cases h
              · cases h
            · cases h
          · cases h
        · cases h
      · cases h
    · cases h
  · -- min
    rename_i x y hx
    obtain ⟨x', y', rfl, hxx, hyy⟩ : ∃ x' y', xs = #[x', y'] ∧ inOf st x' = x ∧ inOf st y' = y := by
      cases xs with
      | mk l => match l, hx with
        | [u, v], hx => exact ⟨u, v, rfl, by simp at hx; exact hx.1, by simp at hx; exact hx.2⟩
    subst hxx; subst hyy
    split at h
    · rename_i k m k' n hsx hsy
      have h1 := (hrep x').rep; rw [hsx] at h1
      have h2 := (hrep y').rep; rw [hsy] at h2
      have e1 := (RepVal.one h1).int
      have e2 := (RepVal.one h2).int
      simp only [Option.some.injEq, Prod.mk.injEq] at h
      obtain ⟨rfl, rfl⟩ := h
      exact wp_val (w' := w) (by simp [execOp, hop, resolve, invoke, builtin, Builtin.min_, Builtin.min2, e1, e2]) (hn _ σ M w (hS.putO hd (rep_int _ _)))
    · cases h
  · -- max
    rename_i x y hx
    obtain ⟨x', y', rfl, hxx, hyy⟩ : ∃ x' y', xs = #[x', y'] ∧ inOf st x' = x ∧ inOf st y' = y := by
      cases xs with
      | mk l => match l, hx with
        | [u, v], hx => exact ⟨u, v, rfl, by simp at hx; exact hx.1, by simp at hx; exact hx.2⟩
    subst hxx; subst hyy
    split at h
    · rename_i k m k' n hsx hsy
      have h1 := (hrep x').rep; rw [hsx] at h1
      have h2 := (hrep y').rep; rw [hsy] at h2
      have e1 := (RepVal.one h1).int
      have e2 := (RepVal.one h2).int
      simp only [Option.some.injEq, Prod.mk.injEq] at h
      obtain ⟨rfl, rfl⟩ := h
      exact wp_val (w' := w) (by simp [execOp, hop, resolve, invoke, builtin, Builtin.max_, Builtin.max2, e1, e2]) (hn _ σ M w (hS.putO hd (rep_int _ _)))
    · cases h
  · cases h

set_option maxHeartbeats 4000000 in
theorem opEff_sound {Γ : Nat → Option Con} {ps : List Prop} {e : Eff} (hT : TabOk P tab) (hΓ : GamOk P Γ) (hS : Sim P base M0 ios σ M w a st) (hd : ∀ d, o.dst = some d → d < st.nt)
    (h : opEff tab Γ o (o.op.operands.toList.map (inOf st)) = some (ps, e)) (hps : ∀ p ∈ ps, p) (hf : freshEff e o.dst st = true) (hn : Goes P base M0 ios a o st e next) : o.wp P a w next Q := by
  have hrep := fun x => inOf_rep (M := M) hS x
  unfold freshEff at hf
  rw [Bool.and_eq_true] at hf
  unfold opEff at h
  cases hop : o.op with
  | move x =>
    rw [hop] at h
    simp only [Op.operands, List.map_cons, List.map_nil, Option.some.injEq, Prod.mk.injEq] at h
    obtain ⟨rfl, rfl⟩ := h
    exact wp_val (v := a.eval x) (w' := w) (by simp [execOp, hop]) (hn _ σ M w (hS.putO hd (typed_rep o.type (hrep x).rep)))
  | assign x =>
    rw [hop] at h
    simp only [Op.operands, List.map_cons, List.map_nil, Option.some.injEq, Prod.mk.injEq] at h
    obtain ⟨rfl, rfl⟩ := h
    exact wp_val (v := a.eval x) (w' := w) (by simp [execOp, hop]) (hn _ σ M w (hS.putO hd (typed_rep o.type (hrep x).rep)))
  | pick c x y =>
    rw [hop] at h
    simp only [Op.operands, List.map_cons, List.map_nil] at h
    split at h
    · rename_i c' hc
      have hv := (RepVal.one (show RepVal σ st.rows M (a.eval c) (false, [.bool c']) by have := (hrep c).rep; rw [hc] at this; exact this)).bool
      split at h <;> (simp only [Option.some.injEq, Prod.mk.injEq] at h; obtain ⟨rfl, rfl⟩ := h)
      · exact wp_val (v := a.eval x) (w' := w) (by simp [execOp, hop, hv, asBool]) (hn _ σ M w (hS.putO hd (hrep x).rep))
      · exact wp_val (v := a.eval y) (w' := w) (by simp [execOp, hop, hv, asBool]) (hn _ σ M w (hS.putO hd (hrep y).rep))
    · cases h
  | alloc t =>
    rw [hop] at h
    simp only [Op.operands, List.map_nil] at h
    split at h
    · rename_i d ti hdst ht
      simp only [Option.some.injEq, Prod.mk.injEq] at h
      obtain ⟨rfl, rfl⟩ := h
      have hf1 := hf.1
      rw [hdst] at hf1
      exact op_alloc hT hS hop hdst (hd d hdst) ht hf1 hn
    · cases h
  | box t x =>
    rw [hop] at h
    simp only [Op.operands, List.map_cons, List.map_nil] at h
    split at h
    · rename_i d cs hdst hc
      simp only [Option.some.injEq, Prod.mk.injEq] at h
      obtain ⟨rfl, rfl⟩ := h
      have hf1 := hf.1
      rw [hdst] at hf1
      exact op_box hS hop hdst (hd d hdst) (cellsOfSv_rep (hrep x).rep hc) hf1 hn
    · cases h
  | build t parts =>
    rw [hop] at h
    simp only [Op.operands, operands_parts] at h
    split at h
    · rename_i ti ht
      split at h
      · rename_i hg
        split at h
        · rename_i ps' hps'
          split at h
          · rename_i cs hcs
            simp only [Option.some.injEq, Prod.mk.injEq] at h
            obtain ⟨rfl, rfl⟩ := h
            refine op_build hT hS hop hd ht hg (zip_mapM (tab := tab) hS (f := fun i => (ti.fields[i]?).map (·.2)) (ps := ps') ?_) hcs hn
            rw [← hps']
            congr 1
            funext p
            cases ti.fields[p.1]? <;> rfl
          · cases h
        · cases h
      · cases h
    · cases h
  | buildSlice t n parts =>
    rw [hop] at h
    simp only [Op.operands, operands_parts] at h
    split at h
    · rename_i d τ fs e' b hdst ht
      split at h
      · rename_i te he
        split at h
        · rename_i hc
          split at h
          · rename_i ps' hps'
            split at h
            · rename_i cs hcs
              split at h
              · rename_i l hl
                simp only [Option.some.injEq, Prod.mk.injEq] at h
                obtain ⟨rfl, rfl⟩ := h
                have hf2 := hf.2
                simp only [noTags, Bool.and_true] at hf2
                refine op_buildSlice hT hS hop hdst (hd d hdst) ht he hc.1 hc.2.1 hc.2.2 (zip_mapM (tab := tab) hS (f := fun _ => some e') (ps := ps') ?_) hcs hl hf2 hn
                rw [← hps']
                rfl
              · cases h
            · cases h
          · cases h
        · cases h
      · cases h
    · cases h
  | load t x =>
    rw [hop] at h
    simp only [Op.operands, List.map_cons, List.map_nil] at h
    have hx := hrep x
    cases ht : look t tab with
    | none => simp [ht] at h
    | some ti =>
      simp only [ht] at h
      cases hsv : (inOf st x).sv <;> simp only [hsv] at h <;> try (cases h; done)
      · rename_i k off
        have hr := hx.rep
        rw [hsv] at hr
        have hb := hx.box k off hsv
        rw [hb] at h
        cases hk : st.box k with
        | none => simp [hk] at h
        | some cs =>
          simp only [hk] at h
          split at h
          · rename_i hc
            simp only [Option.some.injEq, Prod.mk.injEq] at h
            obtain ⟨rfl, rfl⟩ := h
            exact op_load_box hT hS hop hd ht hr.1 hk hc.1 hc.2 hn
          · cases h
      · rename_i cs
        have hr := hx.rep
        rw [hsv] at hr
        split at h
        · rename_i hc
          simp only [Option.some.injEq, Prod.mk.injEq] at h
          obtain ⟨rfl, rfl⟩ := h
          exact op_load_ptr hT hS hop hd ht hr hc.1 hc.2 hn
        · cases h
  | store t x y =>
    rw [hop] at h
    simp only [Op.operands, List.map_cons, List.map_nil] at h
    have hx := hrep x
    split at h
    · rename_i ti k off cs ds ht hsv hbx hds
      split at h
      · rename_i hc
        simp only [Option.some.injEq, Prod.mk.injEq] at h
        obtain ⟨rfl, rfl⟩ := h
        have hr := hx.rep
        rw [hsv] at hr
        have hb := hx.box k off hsv
        rw [hb] at hbx
        exact op_store hT hS hop hc.2.2 ht hr.1 hbx (cellsOfSv_rep (hrep y).rep hds) hc.1 hc.2.1 hn
      · cases h
    · cases h
  | nilCheck x =>
    rw [hop] at h
    simp only [Op.operands, List.map_cons, List.map_nil] at h
    have hr := (hrep x).rep
    split at h <;> (try (cases h; done)) <;> (rename_i hsv; simp only [Option.some.injEq, Prod.mk.injEq] at h; obtain ⟨rfl, rfl⟩ := h; rw [hsv] at hr)
    · exact wp_val (v := a.eval x) (w' := w) (by simp [execOp, hop, hr.1]) (hn _ σ M w (hS.putO hd hr))
    · obtain ⟨ad, he, hc⟩ := hr
      exact wp_val (v := a.eval x) (w' := w) (by simp [execOp, hop, he]) (hn _ σ M w (hS.putO hd ⟨ad, he, hc⟩))
  | binOp op t x y ty =>
    rw [hop] at h
    simp only [Op.operands, List.map_cons, List.map_nil] at h
    split at h
    · rename_i c1 c2 h1 h2
      split at h
      · rename_i ps' c hg hb
        simp only [Option.some.injEq, Prod.mk.injEq] at h
        obtain ⟨rfl, rfl⟩ := h
        have hr1 := (hrep x).rep
        have hr2 := (hrep y).rep
        rw [h1] at hr1
        rw [h2] at hr2
        obtain ⟨r, hrun, hrr⟩ := binV_sound (boxes := st.boxes) (w := w) (P := P) (t := t) (RepVal.one hr1) (RepVal.one hr2) (fun hm => by
          cases c1 <;> simp at hm
          simp only at hg
          split at hg
          · rename_i hty; exact und_bool hT hty
          · cases hg) hb hps
        refine wp_val (v := r) (w' := w) ?_ (hn _ σ M w (hS.putO hd hrr))
        have hagg : isAgg' (a.eval x) = false := hr1.2
        have hnil : a.eval x ≠ .nilIface := by
          intro e
          have := (RepVal.one hr1).1
          rw [e] at this
          cases c1 <;> first | (cases this; done) | (obtain ⟨_, _, e2, _⟩ := this; cases e2)
        simp [execOp, hop, run_eqGuard_plain op t x y _ (a.eval y) hagg hnil, hrun]
      · cases h
    · cases h
  | unOp op t x =>
    rw [hop] at h
    simp only [Op.operands, List.map_cons, List.map_nil] at h
    split at h
    · rename_i c1 h1
      have hr1 := (hrep x).rep
      rw [h1] at hr1
      split at h
      · rename_i c hu
        simp only [Option.some.injEq, Prod.mk.injEq] at h
        obtain ⟨rfl, rfl⟩ := h
        cases c1 with
        | int k n =>
          have hv := (RepVal.one hr1).int
          cases op <;> simp only [unV] at hu <;> (try (cases hu; done)) <;> cases hu
          · exact wp_val (w' := w) (by simp [execOp, hop, hv, Op.unary, Op.intArith]) (hn _ σ M w (hS.putO hd (rep_int _ _)))
          · exact wp_val (w' := w) (by simp [execOp, hop, hv, Op.unary, Op.intBits]) (hn _ σ M w (hS.putO hd (rep_int _ _)))
        | bool b =>
          have hv := (RepVal.one hr1).bool
          cases op <;> simp only [unV] at hu <;> (try (cases hu; done)) <;> cases hu
          exact wp_val (w' := w) (by simp [execOp, hop, hv, Op.unary]) (hn _ σ M w (hS.putO hd (rep_bool _)))
        | str s => simp [unV] at hu
        | lst t l tag => simp [unV] at hu
      · cases h
    · cases h
  | convert s t x =>
    rw [hop] at h
    simp only [Op.operands, List.map_cons, List.map_nil] at h
    have hr1 := (hrep x).rep
    split at h
    · rename_i k fs e' b k' n ht h1
      rw [h1] at hr1
      split at h
      · rename_i hs
        simp only [Option.some.injEq, Prod.mk.injEq] at h
        obtain ⟨rfl, rfl⟩ := h
        obtain ⟨ts, hts⟩ := Option.isSome_iff_exists.1 hs
        exact op_convert_int hT hS hop hd ht hts hr1 hn
      · cases h
    · rename_i fs e' b l tag ht h1
      rw [h1] at hr1
      split at h
      · rename_i fs2 e2 b2 hs
        split at h
        · rename_i fs3 e3 b3 he
          simp only [Option.some.injEq, Prod.mk.injEq] at h
          obtain ⟨rfl, rfl⟩ := h
          exact op_convert_bytes hT hS (eb := e2) hop hd ht hs he rfl rfl hr1 hn
        · cases h
      · cases h
    · cases h
  | fieldAddr t x f =>
    rw [hop] at h
    simp only [Op.operands, List.map_cons, List.map_nil] at h
    have hr1 := (hrep x).rep
    split at h
    · rename_i ti ht
      split at h
      · rename_i hg
        split at h
        · rename_i off tf hf'
          split at h
          · rename_i τf ag fs e' b htf
            split at h
            · rename_i hs
              split at h
              · rename_i k oo h1
                rw [h1] at hr1
                simp only [Option.some.injEq, Prod.mk.injEq] at h
                obtain ⟨rfl, rfl⟩ := h
                exact op_fieldAddr_box hT hS hop hd ht hg hf' htf hs hr1 hn
              · rename_i cs h1
                rw [h1] at hr1
                split at h
                · simp only [Option.some.injEq, Prod.mk.injEq] at h
                  obtain ⟨rfl, rfl⟩ := h
                  exact op_fieldAddr_ptr hT hS hop hd ht hg hf' htf hs hr1 hn
                · cases h
              · cases h
            · cases h
          · cases h
        · cases h
      · cases h
    · cases h
  | field t x f =>
    rw [hop] at h
    simp only [Op.operands, List.map_cons, List.map_nil] at h
    have hr1 := (hrep x).rep
    split at h
    · rename_i ti ht
      split at h
      · rename_i hg
        split at h
        · rename_i off tf hf'
          split at h
          · rename_i tif htf
            split at h
            · rename_i cs h1
              rw [h1] at hr1
              split at h
              · rename_i hc
                simp only [Option.some.injEq, Prod.mk.injEq] at h
                obtain ⟨rfl, rfl⟩ := h
                exact op_field hT hS hop hd ht hg hf' htf hr1 hc.1 hc.2 hn
              · cases h
            · cases h
          · cases h
        · cases h
      · cases h
    · cases h
  | indexAddr t x y =>
    rw [hop] at h
    simp only [Op.operands, List.map_cons, List.map_nil] at h
    have hr1 := (hrep x).rep
    have hr2 := (hrep y).rep
    split at h
    · rename_i τ0 fs e' b τ l tag k i ht h1 h2
      rw [h1] at hr1
      rw [h2] at hr2
      split at h
      · rename_i te he
        split at h
        · rename_i hs
          simp only [Option.some.injEq, Prod.mk.injEq] at h
          obtain ⟨rfl, rfl⟩ := h
          exact op_indexAddr hT hS hop hd ht he hs hr1 hr2 (hps _ (by simp)) (hps _ (by simp)) hn
        · cases h
      · cases h
    · cases h
  | index t x y =>
    rw [hop] at h
    simp only [Op.operands, List.map_cons, List.map_nil] at h
    have hr1 := (hrep x).rep
    have hr2 := (hrep y).rep
    split at h
    · rename_i fs e' b s k i ht h1 h2
      rw [h1] at hr1
      rw [h2] at hr2
      simp only [Option.some.injEq, Prod.mk.injEq] at h
      obtain ⟨rfl, rfl⟩ := h
      exact op_index_str hT hS hop hd ht hr1 hr2 (hps _ (by simp)) (hps _ (by simp)) hn
    · cases h
  | extract x i =>
    rw [hop] at h
    simp only [Op.operands, List.map_cons, List.map_nil] at h
    have hr1 := (hrep x).rep
    split at h
    · rename_i l h1
      rw [h1] at hr1
      split at h
      · rename_i ag cs hl
        simp only [Option.some.injEq, Prod.mk.injEq] at h
        obtain ⟨rfl, rfl⟩ := h
        exact op_extract hS hop hd hr1 hl hn
      · cases h
    · cases h
  | slice t x lo hi mx =>
    rw [hop] at h
    cases mx with
    | some m => simp at h
    | none =>
      have he : (Op.slice t x lo hi none).operands.toList = x :: (lo.toList ++ hi.toList) := by
        cases lo <;> cases hi <;> rfl
      rw [he] at h
      simp only [List.map_cons] at h
      exact slice_sound hT hS hop hd h hps hn
  | call c =>
    rw [hop] at h
    obtain ⟨callee, xs, ts⟩ := c
    cases callee with
    | builtin b =>
      have he : (Op.call { callee := .builtin b, args := xs, argTypes := ts }).operands.toList = xs.toList := by simp [Op.operands, Call.operands]
      rw [he] at h
      simp only [callOp] at h
      exact builtin_sound hT hS hop hd h hps hf.2 hn
    | invoke r m => simp [callOp] at h
    | value f =>
      have he : (Op.call { callee := .value f, args := xs, argTypes := ts }).operands.toList = f :: xs.toList := by simp [Op.operands, Call.operands]
      rw [he] at h
      simp only [List.map_cons, callOp] at h
      split at h
      · rename_i n hsv
        have hrf := (hrep f).rep
        rw [hsv] at hrf
        obtain ⟨_, hv⟩ := hrf
        cases hg : Γ n with
        | none => simp [hg] at h
        | some con =>
          simp only [hg] at h
          obtain ⟨hfn, hcon⟩ := hΓ n con hg
          unfold callEff at h
          cases hdst : o.dst with
          | none => simp [hdst] at h
          | some d =>
            simp only [hdst] at h
            cases hio : con.io with
            | true =>
              simp only [hio, if_true] at h
              cases xs with
              | mk l =>
                cases l with
                | nil => simp at h
                | cons x0 xs' =>
                  simp only [List.map_cons] at h
                  split at h
                  · rename_i k bc rw' xs'' t0 ts' hx0 hts
                    simp only [List.cons.injEq] at hx0
                    obtain ⟨hx0, rfl⟩ := hx0
                    split at h
                    · rename_i ic cs hic hc
                      split at h
                      · rename_i av hav
                        simp only [Option.some.injEq, Prod.mk.injEq] at h
                        obtain ⟨rfl, rfl⟩ := h
                        have hr0 := hrep x0
                        rw [hx0] at hr0
                        obtain ⟨hp, _⟩ := hr0.rep
                        have hbx := hr0.box k 0 rfl
                        obtain rfl : ts = (t0 :: ts').toArray := Array.ext' hts
                        refine op_call_io hS hop hv hfn hcon hio hdst (hd d hdst) (by rw [hp, Addr.add_zero']) hbx.symm hic hc hav (hps _ (by simp)) ?_ hn
                        intro p hp'
                        have := noTags_mem hf.2 (p := (keyRow d p.1, p.2)) (List.mem_map.2 ⟨p, hp', rfl⟩)
                        exact this
                      · cases h
                    · cases h
                  · cases h
            | false =>
              simp only [hio, Bool.false_eq_true, if_false] at h
              split at h
              · rename_i cs hc
                split at h
                · rename_i av hav
                  simp only [Option.some.injEq, Prod.mk.injEq] at h
                  obtain ⟨rfl, rfl⟩ := h
                  refine op_call hS hop hv hfn hcon hio hdst (hd d hdst) hc hav (hps _ (by simp)) ?_ hn
                  intro p hp'
                  have := noTags_mem hf.2 (p := (keyRow d p.1, p.2)) (List.mem_map.2 ⟨p, hp', rfl⟩)
                  exact this
                · cases h
              · cases h
      · cases h
  | _ => rw [hop] at h; simp at h

end Go.Proofs.Ytcbehcpmojnnfaa.Bv
