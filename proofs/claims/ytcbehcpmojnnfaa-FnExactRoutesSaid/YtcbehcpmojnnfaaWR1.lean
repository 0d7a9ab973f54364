/- A region that may run in any order, by value: what each operation touches, and that those that touch nothing of one another may be swapped. -/
import Derived.Test.YtcbehcpmojnnfaaWE5
import Derived.Orders
namespace Go.Proofs.Ytcbehcpmojnnfaa.Bv
set_option linter.unusedVariables false
set_option linter.unusedSimpArgs false

variable {P : Program} {base : World} {M0 : Mem} {ios : Ios} {σ : Sg} {M : Mem} {w : World} {a : Act} {st : St} {tab : Tab} {Γ : Gam}

/-! ### What is looked up -/

theorem pick_congr {α : Type} {l l' : List (Nat × α)} : ∀ {ks : List Nat}, (∀ k ∈ ks, look k l = look k l') → pick l ks = pick l' ks
  | [], _ => rfl
  | k :: ks, h => by
    simp only [pick, h k (by simp), pick_congr (ks := ks) fun k' hk' => h k' (List.mem_cons_of_mem _ hk')]

theorem mkIn_congr {s s' : St} {sv : Sv} (h1 : ∀ k ∈ boxesSv sv, look k s.boxes = look k s'.boxes) (h2 : ∀ r ∈ keysSv sv ++ keysBx (pick s.boxes (boxesSv sv)), look r s.rows = look r s'.rows) : mkIn s sv = mkIn s' sv := by
  have e1 := pick_congr h1
  have e2 := pick_congr h2
  unfold mkIn
  simp only [← e1, ← e2]

theorem inOf_ext {s s' : St} (h : Ext s s') (x : Operand) : inOf s x = inOf s' x := by
  cases x with
  | tmp t =>
    simp only [inOf, ← h.get t]
    exact mkIn_congr (fun k _ => h.box k) (fun r _ => h.row r)
  | _ => rfl

/-! ### One outcome -/

def applyO (o : Oper) (x : Option Eff) (s : St) : St := match x with
  | some e => e.apply o.dst s
  | none => skipSt o s

def outSv : Option Eff → Sv
  | some e => e.sv
  | none => .tup []

theorem applyO_nt (o : Oper) (x : Option Eff) (s : St) : (applyO o x s).nt = s.nt := by
  cases x with
  | some e => rfl
  | none => exact skip_nt o s

theorem applyO_get (o : Oper) (x : Option Eff) (s : St) (i : Nat) : (applyO o x s).get i = if o.dst = some i then outSv x else s.get i := by
  cases x with
  | some e =>
    simp only [applyO, Eff.apply, St.get, outSv]
    cases h : o.dst with
    | none => simp
    | some d =>
      simp only [look_cons, Option.some.injEq]
      by_cases hd : d = i
      · simp [hd]
      · simp [hd]
  | none =>
    simp only [applyO, skipSt, outSv]
    cases h : o.dst with
    | none => simp
    | some d =>
      simp only [Option.some.injEq, get_put]
      by_cases hd : d = i
      · subst hd; simp
      · simp [hd, Ne.symm hd]

theorem applyO_olds (o : Oper) (x : Option Eff) (s : St) (i : Nat) : i ∈ (applyO o x s).olds ↔ i ∈ s.olds ∧ o.dst ≠ some i := by
  cases x with
  | some e =>
    simp only [applyO, Eff.apply]
    cases h : o.dst with
    | none => simp
    | some d => simp [List.mem_filter]; intro _; exact ⟨fun h e => h e.symm, fun h e => h e.symm⟩
  | none =>
    simp only [applyO, skipSt]
    cases h : o.dst with
    | none => simp
    | some d => simp [St.put, List.mem_filter]; intro _; exact ⟨fun h e => h e.symm, fun h e => h e.symm⟩

/-- The variables that are touched. -/
def tB (o : Oper) : Option Eff → List Nat
  | none => []
  | some e => (match e.sbox with | some p => [p.1] | none => []) ++ (match o.dst, e.nbox with | some d, some _ => [d + 1] | _, _ => [])

def tR : Option Eff → List Nat
  | none => []
  | some e => e.nrow.map (·.1) ++ (e.urow.map (·.1) ++ e.krow)

theorem applyO_box_out {o : Oper} {x : Option Eff} {k : Nat} (h : k ∉ tB o x) (s : St) : (applyO o x s).box k = s.box k := by
  cases x with
  | none => simp only [applyO, skipSt]; cases o.dst <;> rfl
  | some e =>
    simp only [tB, List.mem_append, not_or] at h
    simp only [applyO, Eff.apply, St.box]
    cases hs : e.sbox with
    | none =>
      cases hd : o.dst with
      | none => rfl
      | some d =>
        cases hn : e.nbox with
        | none => rfl
        | some cs =>
          rw [hd, hn] at h
          simp only [List.mem_singleton] at h
          simp only [look_cons, if_neg (Ne.symm h.2)]
    | some p =>
      rw [hs] at h
      simp only [List.mem_singleton] at h
      obtain ⟨pk, pc⟩ := p
      simp only [look_cons, if_neg (Ne.symm h.1)]
      cases hd : o.dst with
      | none => rfl
      | some d =>
        cases hn : e.nbox with
        | none => rfl
        | some cs =>
          rw [hd, hn] at h
          simp only [List.mem_singleton] at h
          simp only [look_cons, if_neg (Ne.symm h.2)]

theorem applyO_box_in {o : Oper} {x : Option Eff} {k : Nat} (h : k ∈ tB o x) (s s' : St) : (applyO o x s).box k = (applyO o x s').box k := by
  cases x with
  | none => simp [tB] at h
  | some e =>
    simp only [tB, List.mem_append] at h
    simp only [applyO, Eff.apply, St.box]
    cases hs : e.sbox with
    | none =>
      rw [hs] at h
      cases hd : o.dst with
      | none => rw [hd] at h; simp at h
      | some d =>
        cases hn : e.nbox with
        | none => rw [hd, hn] at h; simp at h
        | some cs =>
          rw [hd, hn] at h
          simp only [List.not_mem_nil, List.mem_singleton, false_or] at h
          simp [look_cons, h]
    | some p =>
      rw [hs] at h
      obtain ⟨pk, pc⟩ := p
      simp only [look_cons]
      by_cases hk : pk = k
      · simp [hk]
      · simp only [if_neg hk]
        cases hd : o.dst with
        | none => rw [hd] at h; simp [Ne.symm hk] at h
        | some d =>
          cases hn : e.nbox with
          | none => rw [hd, hn] at h; simp [Ne.symm hk] at h
          | some cs =>
            rw [hd, hn] at h
            simp only [List.mem_singleton, Ne.symm hk, false_or] at h
            simp [look_cons, h]

theorem look_some {α : Type} {k : Nat} : ∀ {l : List (Nat × α)}, k ∈ l.map (·.1) → ∃ x, look k l = some x
  | [], h => by simp at h
  | (j, x) :: l, h => by
    rw [look_cons]
    split
    · exact ⟨x, rfl⟩
    · rename_i hne
      simp only [List.map_cons, List.mem_cons] at h
      rcases h with h | h
      · exact absurd h.symm hne
      · exact look_some h

theorem apply_rowv (e : Eff) (d : Option Nat) (s : St) (r : Nat) : (e.apply d s).rowv r = match look r e.nrow with
    | some x => some x
    | none => if notMem r e.krow = true then (match look r e.urow with | some x => some x | none => s.rowv r) else none := by
  simp only [St.rowv, Eff.apply, rowsOf_eq, look_app, look_step]
  cases look r e.nrow with
  | some x => rfl
  | none =>
    cases notMem r e.krow with
    | false => rfl
    | true => cases look r e.urow <;> rfl

theorem applyO_row_out {o : Oper} {x : Option Eff} {r : Nat} (h : r ∉ tR x) (s : St) : (applyO o x s).rowv r = s.rowv r := by
  cases x with
  | none => simp only [applyO, skipSt]; cases o.dst <;> rfl
  | some e =>
    simp only [tR, List.mem_append, not_or] at h
    show (e.apply o.dst s).rowv r = _
    rw [apply_rowv, look_none h.1, look_none h.2.1]
    simp only [notMem_iff.2 h.2.2, if_true]

theorem applyO_row_in {o : Oper} {x : Option Eff} {r : Nat} (h : r ∈ tR x) (s s' : St) : (applyO o x s).rowv r = (applyO o x s').rowv r := by
  cases x with
  | none => simp [tR] at h
  | some e =>
    simp only [tR, List.mem_append] at h
    show (e.apply o.dst s).rowv r = (e.apply o.dst s').rowv r
    rw [apply_rowv, apply_rowv]
    by_cases hn : r ∈ e.nrow.map (·.1)
    · obtain ⟨v, hv⟩ := look_some hn
      simp [hv]
    · rw [look_none hn]
      simp only [hn, false_or] at h
      by_cases hk : r ∈ e.krow
      · have : ¬ (notMem r e.krow = true) := fun h' => notMem_iff.1 h' hk
        simp only [if_neg this]
      · simp only [hk, or_false] at h
        obtain ⟨v, hv⟩ := look_some h
        simp [hv]

theorem applyO_ext {o : Oper} {x : Option Eff} {s s' : St} (h : Ext s s') : Ext (applyO o x s) (applyO o x s') where
  nt := by rw [applyO_nt, applyO_nt, h.nt]
  get := fun i => by rw [applyO_get, applyO_get, h.get]
  box := fun k => by
    by_cases hk : k ∈ tB o x
    · exact applyO_box_in hk _ _
    · rw [applyO_box_out hk, applyO_box_out hk, h.box]
  row := fun r => by
    by_cases hr : r ∈ tR x
    · exact applyO_row_in hr _ _
    · rw [applyO_row_out hr, applyO_row_out hr, h.row]
  olds := fun i => by rw [applyO_olds, applyO_olds, h.olds]

/-- Nothing that both touch. -/
structure Apart (o : Oper) (x : Option Eff) (o' : Oper) (x' : Option Eff) : Prop where
  dst : ∀ d, o.dst = some d → o'.dst ≠ some d
  box : ∀ k, k ∈ tB o x → k ∉ tB o' x'
  row : ∀ r, r ∈ tR x → r ∉ tR x'

theorem Apart.swap {o o' : Oper} {x x' : Option Eff} (h : Apart o x o' x') (s : St) : Ext (applyO o x (applyO o' x' s)) (applyO o' x' (applyO o x s)) where
  nt := by simp only [applyO_nt]
  get := fun i => by
    simp only [applyO_get]
    by_cases h1 : o.dst = some i
    · have := h.dst i h1
      simp [h1, this]
    · simp [h1]
  box := fun k => by
    by_cases hk : k ∈ tB o x
    · have := h.box k hk
      rw [applyO_box_out this, applyO_box_in hk _ s]
    · rw [applyO_box_out hk]
      by_cases hk' : k ∈ tB o' x'
      · exact applyO_box_in hk' _ _
      · rw [applyO_box_out hk', applyO_box_out hk', applyO_box_out hk]
  row := fun r => by
    by_cases hr : r ∈ tR x
    · have := h.row r hr
      rw [applyO_row_out this, applyO_row_in hr _ s]
    · rw [applyO_row_out hr]
      by_cases hr' : r ∈ tR x'
      · exact applyO_row_in hr' _ _
      · rw [applyO_row_out hr', applyO_row_out hr', applyO_row_out hr]
  olds := fun i => by
    simp only [applyO_olds]
    constructor <;> (rintro ⟨⟨h1, h2⟩, h3⟩; exact ⟨⟨h1, h3⟩, h2⟩)

/-! ### Some of them, in the order of the text -/

def mixI (L : Nat → Bool) : Nat → List (Oper × Option Eff) → St → St
  | _, [], s => s
  | k, (o, x) :: l, s => mixI L (k + 1) l (cond (L k) (applyO o x s) s)

theorem mixI_ext {L : Nat → Bool} : ∀ {l : List (Oper × Option Eff)} {k : Nat} {s s' : St}, Ext s s' → Ext (mixI L k l s) (mixI L k l s')
  | [], _, _, _, h => h
  | (o, x) :: l, k, s, s', h => by
    simp only [mixI]
    refine mixI_ext ?_
    cases L k
    · exact h
    · exact applyO_ext h

theorem mixI_cong {L L' : Nat → Bool} : ∀ {l : List (Oper × Option Eff)} {k : Nat} (s : St), (∀ i, i < l.length → L (k + i) = L' (k + i)) → mixI L k l s = mixI L' k l s
  | [], _, _, _ => rfl
  | (o, x) :: l, k, s, h => by
    simp only [mixI]
    have h0 := h 0 (by simp)
    rw [Nat.add_zero] at h0
    rw [h0]
    exact mixI_cong _ fun i hi => by have := h (i + 1) (by simp; omega); rwa [show k + 1 + i = k + (i + 1) by omega]

structure Agree (S B R : List Nat) (s s' : St) : Prop where
  get : ∀ i ∈ S, s.get i = s'.get i
  box : ∀ k ∈ B, s.box k = s'.box k
  row : ∀ r ∈ R, s.rowv r = s'.rowv r

structure Clear (S B R : List Nat) (o : Oper) (x : Option Eff) : Prop where
  dst : ∀ d, o.dst = some d → d ∉ S
  box : ∀ k ∈ tB o x, k ∉ B
  row : ∀ r ∈ tR x, r ∉ R

theorem Agree.both {S B R : List Nat} {s s' : St} {o : Oper} {x : Option Eff} (h : Agree S B R s s') : Agree S B R (applyO o x s) (applyO o x s') where
  get := fun i hi => by rw [applyO_get, applyO_get, h.get i hi]
  box := fun k hk => by
    by_cases hb : k ∈ tB o x
    · exact applyO_box_in hb _ _
    · rw [applyO_box_out hb, applyO_box_out hb, h.box k hk]
  row := fun r hr => by
    by_cases hb : r ∈ tR x
    · exact applyO_row_in hb _ _
    · rw [applyO_row_out hb, applyO_row_out hb, h.row r hr]

theorem Clear.agree {S B R : List Nat} {o : Oper} {x : Option Eff} (h : Clear S B R o x) (s : St) : Agree S B R (applyO o x s) s where
  get := fun i hi => by rw [applyO_get, if_neg fun e => h.dst i e hi]
  box := fun k hk => applyO_box_out (fun hb => h.box k hb hk) s
  row := fun r hr => applyO_row_out (fun hb => h.row r hb hr) s

theorem Agree.symm {S B R : List Nat} {s s' : St} (h : Agree S B R s s') : Agree S B R s' s := ⟨fun i hi => (h.get i hi).symm, fun i hi => (h.box i hi).symm, fun i hi => (h.row i hi).symm⟩
theorem Agree.trans {S B R : List Nat} {s s' s'' : St} (h : Agree S B R s s') (k : Agree S B R s' s'') : Agree S B R s s'' :=
  ⟨fun i hi => (h.get i hi).trans (k.get i hi), fun i hi => (h.box i hi).trans (k.box i hi), fun i hi => (h.row i hi).trans (k.row i hi)⟩

theorem mix_agree {S B R : List Nat} {L L' : Nat → Bool} : ∀ {l : List (Oper × Option Eff)} {k : Nat} {s s' : St}, (∀ j o x, l[j]? = some (o, x) → L (k + j) ≠ L' (k + j) → Clear S B R o x) → Agree S B R s s' →
    Agree S B R (mixI L k l s) (mixI L' k l s')
  | [], _, _, _, _, h => h
  | (o, x) :: l, k, s, s', hc, h => by
    simp only [mixI]
    refine mix_agree (fun j o' x' hj hne => hc (j + 1) o' x' (by simpa using hj) (by rwa [show k + (j + 1) = k + 1 + j by omega])) ?_
    have h0 := hc 0 o x (by simp)
    rw [Nat.add_zero] at h0
    cases hl : L k <;> cases hl' : L' k
    · exact h
    · exact h.trans ((h0 (by rw [hl, hl']; simp)).agree s').symm
    · exact ((h0 (by rw [hl, hl']; simp)).agree s).trans h
    · exact h.both

theorem mix_pass {L : Nat → Bool} {o : Oper} {x : Option Eff} : ∀ {l : List (Oper × Option Eff)} {k : Nat} {s : St}, (∀ j o' x', l[j]? = some (o', x') → L (k + j) = true → Apart o x o' x') →
    Ext (applyO o x (mixI L k l s)) (mixI L k l (applyO o x s))
  | [], _, _, _ => Ext.refl _
  | (o', x') :: l, k, s, h => by
    simp only [mixI]
    have h0 := h 0 o' x' (by simp)
    rw [Nat.add_zero] at h0
    refine (mix_pass (fun j o2 x2 hj hl => h (j + 1) o2 x2 (by simpa using hj) (by rwa [show k + (j + 1) = k + 1 + j by omega]))).trans ?_
    cases hl : L k
    · exact Ext.refl _
    · exact mixI_ext ((h0 hl).swap s)

/-- One more. -/
theorem mix_more {L L' : Nat → Bool} {o : Oper} {x : Option Eff} : ∀ {l : List (Oper × Option Eff)} {k j : Nat} {s : St}, l[j]? = some (o, x) → L (k + j) = false → (∀ i, L' i = (L i || i == k + j)) →
    (∀ i o' x', l[i]? = some (o', x') → j < i → L (k + i) = true → Apart o x o' x') → Ext (applyO o x (mixI L k l s)) (mixI L' k l s)
  | [], _, _, _, hj, _, _, _ => by simp at hj
  | (o', x') :: l, k, 0, s, hj, hL, hL', h => by
    simp at hj
    obtain ⟨rfl, rfl⟩ := hj
    rw [Nat.add_zero] at hL hL'
    have hk' : L' k = true := by rw [hL']; simp
    simp only [mixI, hL, hk', cond_false, cond_true]
    rw [mixI_cong (L := L') (L' := L) _ (fun i _ => by rw [hL']; simp; omega)]
    exact mix_pass fun j o2 x2 hj hl => h (j + 1) o2 x2 (by simpa using hj) (by omega) (by rwa [show k + (j + 1) = k + 1 + j by omega])
  | (o', x') :: l, k, j + 1, s, hj, hL, hL', h => by
    simp only [mixI]
    have hk : L' k = L k := by rw [hL']; simp
    rw [hk]
    refine mix_more (j := j) (by simpa using hj) (by rwa [show k + 1 + j = k + (j + 1) by omega]) (fun i => by rw [hL', show k + (j + 1) = k + 1 + j by omega]) (fun i o2 x2 hi hlt hl => h (i + 1) o2 x2 (by simpa using hi) (by omega) (by rwa [show k + (i + 1) = k + 1 + i by omega]))

/-! ### What an operation looks at -/

def tmpsOf : List Operand → List Nat
  | [] => []
  | .tmp t :: l => t :: tmpsOf l
  | _ :: l => tmpsOf l

def guardS (all : List Oper) (o : Oper) : List Nat := match o.guard with
  | some (j, _) => (match guardDst all j with | some d => [d] | none => [])
  | none => []

def opB (s : St) : Operand → List Nat
  | .tmp t => boxesSv (s.get t)
  | _ => []
def opR (s : St) : Operand → List Nat
  | .tmp t => keysSv (s.get t) ++ keysBx (pick s.boxes (boxesSv (s.get t)))
  | _ => []
def opsB (s : St) : List Operand → List Nat
  | [] => []
  | x :: l => opB s x ++ opsB s l
def opsR (s : St) : List Operand → List Nat
  | [] => []
  | x :: l => opR s x ++ opsR s l

theorem ins_agree {s s' : St} {fz : List (Nat × RowV)} : ∀ (xs : List Operand), Agree (tmpsOf xs) (opsB s xs) (opsR s xs) s s' → xs.map (inOf s') = xs.map (inOf s) ∧ xs.map (inOf (frzSt fz s')) = xs.map (inOf (frzSt fz s))
  | [], _ => ⟨rfl, rfl⟩
  | x :: xs, h => by
    have rest : Agree (tmpsOf xs) (opsB s xs) (opsR s xs) s s' := ⟨fun i hi => h.get i (by cases x <;> simp [tmpsOf, hi]), fun k hk => h.box k (by simp [opsB, hk]), fun r hr => h.row r (by simp [opsR, hr])⟩
    obtain ⟨e1, e2⟩ := ins_agree (fz := fz) xs rest
    have hx : inOf s' x = inOf s x ∧ inOf (frzSt fz s') x = inOf (frzSt fz s) x := by
      cases x with
      | tmp t =>
        have hg : s.get t = s'.get t := h.get t (by simp [tmpsOf])
        have hgf : (frzSt fz s').get t = s'.get t := rfl
        have hgf' : (frzSt fz s).get t = s.get t := rfl
        simp only [inOf, hgf, hgf', ← hg]
        have hb : ∀ k ∈ boxesSv (s.get t), look k s.boxes = look k s'.boxes := fun k hk => h.box k (by simp [opsB, opB, hk])
        have hr : ∀ r ∈ keysSv (s.get t) ++ keysBx (pick s.boxes (boxesSv (s.get t))), look r s.rows = look r s'.rows := fun r hr => h.row r (List.mem_append.2 (.inl hr))
        refine ⟨(mkIn_congr hb hr).symm, (mkIn_congr (s := frzSt fz s) (s' := frzSt fz s') hb fun r hrm => ?_).symm⟩
        show look r (fz ++ s.rows) = look r (fz ++ s'.rows)
        rw [look_app, look_app, hr r hrm]
      | _ => exact ⟨rfl, rfl⟩
    exact ⟨by rw [List.map_cons, List.map_cons, hx.1, e1], by rw [List.map_cons, List.map_cons, hx.2, e2]⟩

end Go.Proofs.Ytcbehcpmojnnfaa.Bv
