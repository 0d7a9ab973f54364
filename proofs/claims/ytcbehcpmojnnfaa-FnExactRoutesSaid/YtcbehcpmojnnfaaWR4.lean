/- A region that may run in any order, by value: the proof. -/
import Derived.Test.YtcbehcpmojnnfaaWR3
namespace Go.Proofs.Ytcbehcpmojnnfaa.Bv
set_option linter.unusedVariables false
set_option linter.unusedSimpArgs false

/-- Destinations lie in the frame. -/
def dstsIn (nt : Nat) : List Oper → Bool
  | [] => true
  | o :: l => (match o.dst with | some d => decide (d < nt) | none => true) && dstsIn nt l

variable {P : Program} {base : World} {M0 : Mem} {ios : Ios} {σ : Sg} {M : Mem} {w : World} {a : Act} {st : St} {tab : Tab} {Γ : Gam} {Q : Exit → Act → World → Prop}

theorem dstsIn_spec {nt : Nat} : ∀ {l : List Oper}, dstsIn nt l = true → ∀ o ∈ l, ∀ d, o.dst = some d → d < nt
  | [], _, o, ho, _, _ => by cases ho
  | o :: l, h, o', ho', d, hd => by
    simp only [dstsIn, Bool.and_eq_true] at h
    rcases List.mem_cons.1 ho' with e | e
    · subst e; rw [hd] at h; simpa using h.1
    · exact dstsIn_spec h.2 o' e d hd

theorem want_sound {ops : Array Oper} {o : Oper} {c : Bool} (hS : Sim P base M0 ios σ M w a st) (h : want ops.toList o st = some c) : Region.wanted o (yielded ops a.tmps) = c := by
  unfold want at h
  cases hg : o.guard with
  | none => rw [hg] at h; cases h; simp [Region.wanted, hg]
  | some g =>
    obtain ⟨j, wn⟩ := g
    rw [hg] at h
    simp only at h
    cases hj : guardDst ops.toList j with
    | none => rw [hj] at h; cases h
    | some d =>
      rw [hj] at h
      simp only at h
      split at h
      · rename_i b hb
        cases h
        simp only [Region.wanted, hg, yielded_at hj (hS.boolAt hb)]
        cases b <;> cases wn <;> rfl
      · rename_i hb
        cases h
        have hs := hS.slots d
        rw [hb] at hs
        obtain ⟨vs, hv, h2⟩ := hs
        have hvs : vs = #[] := by
          have : vs.toList = [] := by
            cases hl : vs.toList with
            | nil => rfl
            | cons x l => rw [hl] at h2; cases h2
          simpa using this
        rw [hvs] at hv
        simp only [Region.wanted, hg, yielded_und hj hv]
        rfl
      · cases h

theorem mixI_nt {L : Nat → Bool} : ∀ {l : List (Oper × Option Eff)} {k : Nat} {s : St}, (mixI L k l s).nt = s.nt
  | [], _, _ => rfl
  | (o, x) :: l, k, s => by
    simp only [mixI, mixI_nt (l := l)]
    cases L k
    · rfl
    · exact applyO_nt _ _ _

theorem mixI_none {L : Nat → Bool} : ∀ {l : List (Oper × Option Eff)} {k : Nat} {s : St}, (∀ i, k ≤ i → L i = false) → mixI L k l s = s
  | [], _, _, _ => rfl
  | (o, x) :: l, k, s, h => by
    simp only [mixI, h k (Nat.le_refl _), cond_false]
    exact mixI_none fun i hi => h i (by omega)

theorem runAll_take : ∀ {l : List (Oper × Option Eff)} {j k : Nat} {s : St}, runAll (l.take j) s = mixI (fun i => decide (i < k + j)) k l s
  | [], j, k, s => by simp [runAll, mixI]
  | (o, x) :: l, 0, k, s => by
    rw [mixI_none (fun i hi => by simp; omega)]
    rfl
  | (o, x) :: l, j + 1, k, s => by
    rw [List.take_succ_cons, runAll_cons]
    simp only [mixI, show decide (k < k + (j + 1)) = true by simp, cond_true]
    rw [runAll_take (k := k + 1)]
    congr 1
    funext i
    rw [show k + 1 + j = k + (j + 1) by omega]

theorem count_lt {p q : Nat → Bool} : ∀ {l : List Nat}, (∀ x, q x = true → p x = true) → (∃ x ∈ l, p x = true ∧ q x = false) → l.countP q < l.countP p
  | [], _, ⟨x, hx, _⟩ => by cases hx
  | y :: l, h, ⟨x, hx, hp, hq⟩ => by
    have hle : l.countP q ≤ l.countP p := List.countP_mono_left fun z _ => h z
    rcases List.mem_cons.1 hx with e | hx
    · subst e
      rw [List.countP_cons_of_pos hp, List.countP_cons_of_neg (by simp [hq])]
      omega
    · have ih := count_lt h ⟨x, hx, hp, hq⟩
      by_cases hy : p y = true
      · rw [List.countP_cons_of_pos hy]
        by_cases hy' : q y = true
        · rw [List.countP_cons_of_pos hy']; omega
        · rw [List.countP_cons_of_neg hy']; omega
      · rw [List.countP_cons_of_neg hy, List.countP_cons_of_neg (fun e => hy (h y e))]
        exact ih

def unl (n : Nat) (listed : Array Bool) : Nat := (List.range n).countP fun i => !listed.getD i false

theorem getD_lt {listed : Array Bool} {i : Nat} (h : i < listed.size) (b c : Bool) : listed.getD i b = listed.getD i c := by
  rw [Array.getD_eq_getD_getElem?, Array.getD_eq_getD_getElem?, Array.getElem?_eq_getElem h]; rfl

theorem set_getD {listed : Array Bool} {i : Nat} (h : i < listed.size) (j : Nat) : (listed.setIfInBounds i true).getD j false = (listed.getD j false || j == i) := by
  by_cases hj : i = j
  · subst hj
    have : (listed.setIfInBounds i true).getD i false = true := by
      rw [Array.getD_eq_getD_getElem?, Array.getElem?_setIfInBounds_self_of_lt h]; rfl
    rw [this]; simp
  · rw [getD_set_ne false hj]
    have : (j == i) = false := by simp [Ne.symm hj]
    rw [this, Bool.or_false]

theorem drawn_sound (hT : TabOk P tab) (hΓ : GamOk P Γ) {ops : Array Oper} {outs : List (Option Eff)} {st0 : St} (hdst : dstsIn st0.nt ops.toList = true) (hlen : outs.length = ops.toList.length) (hok : mixOk ops.toList outs st0 = true)
    (hgood : ∀ j o x, (ops.toList.zip outs)[j]? = some (o, x) → Good tab Γ ops.toList (runAll ((ops.toList.zip outs).take j) st0) o x)
    (hq : ∀ σ M w a, Sim P base M0 ios σ M w a (runAll (ops.toList.zip outs) st0) → Q .normal a w) :
    ∀ (fuel : Nat) (listed : Array Bool) (σ : Sg) (M : Mem) (w : World) (a : Act), listed.size = ops.size → unl ops.size listed ≤ fuel →
      (∀ j, listed.getD j false = true → ∀ i, ((masks ops.toList []).getD j 0).testBit i = true → listed.getD i false = true) →
      Sim P base M0 ios σ M w a (mixI (fun j => listed.getD j false) 0 (ops.toList.zip outs) st0) → wpAny P .any ops Q fuel listed a w := by
  -- where all have run
  have zlen : (ops.toList.zip outs).length = ops.size := by simp [List.length_zip, hlen]
  have done : ∀ (listed : Array Bool) (σ : Sg) (M : Mem) (w : World) (a : Act), (∀ j, j < ops.size → listed.getD j false = true) → Sim P base M0 ios σ M w a (mixI (fun j => listed.getD j false) 0 (ops.toList.zip outs) st0) → Q .normal a w := by
    intro listed σ M w a hall hS
    refine hq σ M w a ?_
    unfold runAll
    rw [mixI_cong (L := fun _ => true) (L' := fun j => listed.getD j false) _ (fun i hi => by rw [Nat.zero_add]; exact (hall i (by omega)).symm)]
    exact hS
  have one := fun (j : Nat) (o : Oper) (x : Option Eff) (hj : (ops.toList.zip outs)[j]? = some (o, x)) => by
    have := allOk_spec (k := 0) hok j o x hj
    rw [Nat.zero_add] at this
    exact this
  -- none is ready: all have run
  have nothing : ∀ (listed : Array Bool), listed.size = ops.size → Region.ready .any ops listed = [] → ∀ j, j < ops.size → listed.getD j false = true := by
    intro listed hsz hr j
    induction j using Nat.strongRecOn with
    | _ j ih =>
      intro hj
      cases hl : listed.getD j false with
      | true => rfl
      | false =>
        exfalso
        have : j ∈ Region.ready .any ops listed := by
          refine mem_ready.2 ⟨by rw [getD_lt (by omega) true false]; exact hl, ops[j], by simp [hj], fun e he hb => ?_⟩
          have hz : ∃ x, (ops.toList.zip outs)[j]? = some (ops[j], x) := by
            have : j < outs.length := by simp at hlen; omega
            exact ⟨outs[j], by rw [List.getElem?_zip_eq_some]; simp [hj, this]⟩
          obtain ⟨x, hx⟩ := hz
          have h1 := one j _ x hx
          simp only [oneOk, Bool.and_eq_true] at h1
          have := backB_spec h1.1.1.1.1 e (by simpa using he) hb
          exact ih e.on this (by omega)
        rw [hr] at this
        cases this
  intro fuel
  induction fuel with
  | zero =>
    intro listed σ M w a hsz hu hcl hS
    have hall : ∀ j, j < ops.size → listed.getD j false = true := by
      intro j hj
      cases hl : listed.getD j false with
      | true => rfl
      | false =>
        exfalso
        have : 0 < (List.range ops.size).countP fun i => !listed.getD i false := List.countP_pos_iff.2 ⟨j, by simpa using hj, by simp only [hl]; rfl⟩
        unfold unl at hu
        omega
    refine ⟨?_, done listed σ M w a hall hS⟩
    cases hr : Region.ready .any ops listed with
    | nil => rfl
    | cons i r =>
      have hi : i ∈ Region.ready .any ops listed := by rw [hr]; simp
      obtain ⟨h1, o, ho, _⟩ := mem_ready.1 hi
      have hlt := (Array.getElem?_eq_some_iff.1 ho).1
      rw [getD_lt (by omega) true false, hall i hlt] at h1
      cases h1
  | succ fuel ih =>
    intro listed σ M w a hsz hu hcl hS
    refine ⟨fun hr => done listed σ M w a (nothing listed hsz hr) hS, fun i hi => ?_⟩
    obtain ⟨hli, o, ho, hed⟩ := mem_ready.1 hi
    have hlt := (Array.getElem?_eq_some_iff.1 ho).1
    rw [getD_lt (by omega) true false] at hli
    obtain ⟨x, hx⟩ : ∃ x, (ops.toList.zip outs)[i]? = some (o, x) := by
      have h2 : i < outs.length := by simp at hlen; omega
      have h3 : ops[i] = o := (Array.getElem?_eq_some_iff.1 ho).2
      exact ⟨outs[i], by rw [List.getElem?_zip_eq_some]; simp [hlt, h2, h3]⟩
    have h1 := one i o x hx
    simp only [oneOk, Bool.and_eq_true, beq_iff_eq, decide_eq_true_eq] at h1
    obtain ⟨⟨⟨⟨hback, hms⟩, hml⟩, hpair⟩, hfresh⟩ := h1
    -- what lies before it has run
    have hanc : ∀ k, ((masks ops.toList []).getD i 0).testBit k = true → listed.getD k false = true := by
      intro k hk
      rw [hms] at hk
      obtain ⟨e, he, hb, h3⟩ := ancM_bit hk
      have hon := hed e (by simpa using he) hb
      rcases h3 with h3 | h3
      · rw [← h3]; exact hon
      · exact hcl _ hon k h3
    have hbits : ∀ k o' x', (ops.toList.zip outs)[k]? = some (o', x') → ∀ m, k ≤ m → ((masks ops.toList []).getD k 0).testBit m = false := by
      intro k o' x' hk m hm
      have h2 := one k o' x' hk
      simp only [oneOk, Bool.and_eq_true, decide_eq_true_eq] at h2
      exact Nat.testBit_lt_two_pow (Nat.lt_of_lt_of_le h2.1.1.2 (Nat.pow_le_pow_right (by omega) hm))
    have clear : ∀ k o' x', (ops.toList.zip outs)[k]? = some (o', x') → k ≠ i → ((k < i ∧ listed.getD k false = false) ∨ (i < k ∧ listed.getD k false = true)) → Clear (lookS ops.toList o) (lookB (runAll ((ops.toList.zip outs).take i) st0) o) (lookR (runAll ((ops.toList.zip outs).take i) st0) o) o' x' ∧ Apart o x o' x' := by
      intro k o' x' hk hne hc
      refine pairOk_spec hpair k (List.getElem?_eq_some_iff.1 hk).1 hne ?_ ?_ o' x' hk
      · rcases hc with ⟨_, h2⟩ | ⟨h2, _⟩
        · cases hb : ((masks ops.toList []).getD i 0).testBit k with
          | false => rfl
          | true => rw [hanc k hb] at h2; cases h2
        · exact hbits i o x hx k (by omega)
      · rcases hc with ⟨h2, _⟩ | ⟨_, h2⟩
        · exact hbits k o' x' hk i (by omega)
        · cases hb : ((masks ops.toList []).getD k 0).testBit i with
          | false => rfl
          | true => have := hcl k h2 i hb; rw [hli] at this; cases this
    have hag : Agree (lookS ops.toList o) (lookB (runAll ((ops.toList.zip outs).take i) st0) o) (lookR (runAll ((ops.toList.zip outs).take i) st0) o) (runAll ((ops.toList.zip outs).take i) st0) (mixI (fun j => listed.getD j false) 0 (ops.toList.zip outs) st0) := by
      have e0 := runAll_take (l := ops.toList.zip outs) (j := i) (k := 0) (s := st0)
      refine Agree.trans (s' := mixI (fun k => decide (k < 0 + i)) 0 (ops.toList.zip outs) st0) (by rw [← e0]; exact ⟨fun _ _ => rfl, fun _ _ => rfl, fun _ _ => rfl⟩) ?_
      refine mix_agree (fun k o' x' hk hne => ?_) ⟨fun _ _ => rfl, fun _ _ => rfl, fun _ _ => rfl⟩
      simp only [Nat.zero_add] at hne
      have hki : k ≠ i := by intro e; subst e; rw [hli] at hne; simp at hne
      refine (clear k o' x' hk hki ?_).1
      by_cases hlt2 : k < i
      · left; refine ⟨hlt2, ?_⟩
        cases h4 : listed.getD k false with
        | false => rfl
        | true => rw [h4] at hne; simp [hlt2] at hne
      · right; refine ⟨by omega, ?_⟩
        cases h4 : listed.getD k false with
        | true => rfl
        | false => rw [h4] at hne; simp [hlt2] at hne
    have hins : effOf tab Γ o (mixI (fun j => listed.getD j false) 0 (ops.toList.zip outs) st0) = effOf tab Γ o (runAll ((ops.toList.zip outs).take i) st0) := by
      have hag2 := fun fz => ins_agree (fz := fz) o.op.operands.toList (s := runAll ((ops.toList.zip outs).take i) st0) (s' := mixI (fun j => listed.getD j false) 0 (ops.toList.zip outs) st0) ⟨fun k hk => hag.get k (by simp [lookS, hk]), hag.box, hag.row⟩
      exact effOf_congr (hag2 []).1 fun fz => (hag2 fz).2
    have hwant : want ops.toList o (mixI (fun j => listed.getD j false) 0 (ops.toList.zip outs) st0) = want ops.toList o (runAll ((ops.toList.zip outs).take i) st0) := by
      unfold want
      cases hg : o.guard with
      | none => rfl
      | some g =>
        obtain ⟨j, wn⟩ := g
        simp only
        cases hj : guardDst ops.toList j with
        | none => rfl
        | some d =>
          simp only
          rw [← hag.get d (by simp [lookS, guardS, hg, hj])]
    have hmore : Ext (applyO o x (mixI (fun j => listed.getD j false) 0 (ops.toList.zip outs) st0)) (mixI (fun j => (listed.setIfInBounds i true).getD j false) 0 (ops.toList.zip outs) st0) := by
      refine mix_more (j := i) hx (by rw [Nat.zero_add]; exact hli) (fun k => by rw [set_getD (by omega), Nat.zero_add]) (fun k o' x' hk hlt2 hl => ?_)
      rw [Nat.zero_add] at hl
      exact (clear k o' x' hk (by omega) (.inr ⟨hlt2, hl⟩)).2
    have next : ∀ (σ' : Sg) (M' : Mem) (w' : World) (a' : Act), Sim P base M0 ios σ' M' w' a' (applyO o x (mixI (fun j => listed.getD j false) 0 (ops.toList.zip outs) st0)) → wpAny P .any ops Q fuel (listed.setIfInBounds i true) a' w' := by
      intro σ' M' w' a' hS'
      refine ih _ σ' M' w' a' (by simp [hsz]) ?_ ?_ (hS'.ext hmore)
      · have : unl ops.size (listed.setIfInBounds i true) < unl ops.size listed := by
          unfold unl
          refine count_lt (fun k hk => ?_) ⟨i, by simpa using hlt, by rw [hli]; rfl, by rw [set_getD (by omega)]; simp⟩
          rw [set_getD (by omega)] at hk
          cases h4 : listed.getD k false with
          | false => rfl
          | true => rw [h4] at hk; simp at hk
        omega
      · intro j hj k hk
        rw [set_getD (by omega)] at hj ⊢
        have : listed.getD k false = true := by
          by_cases hji : j = i
          · subst hji; exact hanc k hk
          · have : (j == i) = false := by simp [hji]
            rw [this, Bool.or_false] at hj
            exact hcl j hj k hk
        rw [this]; rfl
    unfold wpOp
    rw [ho]
    simp only
    have hg := hgood i o x hx
    have hd' : ∀ d, o.dst = some d → d < (mixI (fun j => listed.getD j false) 0 (ops.toList.zip outs) st0).nt := by
      intro d hd
      rw [mixI_nt]
      exact dstsIn_spec hdst o (by rw [← Array.getElem?_toList] at ho; exact List.mem_of_getElem? ho) d hd
    cases x with
    | none =>
      have hw := want_sound (ops := ops) hS (hwant.trans hg)
      rw [hw]
      simp only [Bool.false_eq_true, if_false]
      exact next σ M w _ (hS.skip hd')
    | some e =>
      obtain ⟨hg1, ps, hg2, hps⟩ := hg
      have hw := want_sound (ops := ops) hS (hwant.trans hg1)
      rw [hw]
      simp only [if_true]
      left
      refine effOf_sound hT hΓ hS hd' (by rw [hins]; exact hg2) hps ?_ fun v σ' M' w' hS' => next σ' M' w' _ hS'
      refine Sub.fresh (Sub.mix (L' := fun k => !(k == i || ((masks ops.toList []).getD k 0).testBit i)) (fun k hk => ?_) ⟨fun _ h => h, fun _ h => h, fun _ h => h⟩) hfresh
      have hki : (k == i) = false := by
        cases hki : k == i with
        | false => rfl
        | true =>
          have : k = i := by simpa using hki
          subst this
          simp only [hli] at hk
          cases hk
      have hkb : ((masks ops.toList []).getD k 0).testBit i = false := by
        cases hkb : ((masks ops.toList []).getD k 0).testBit i with
        | false => rfl
        | true =>
          have := hcl k hk i hkb
          rw [hli] at this; cases this
      simp only [hki, hkb]
      rfl

end Go.Proofs.Ytcbehcpmojnnfaa.Bv
