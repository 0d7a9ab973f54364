/- The table of types, looked at. -/
import Derived.Test.YtcbehcpmojnnfaaWF4
import Derived.KernelRfl
import Derived.IntWalk
namespace Go.Proofs.Ytcbehcpmojnnfaa.Bv
set_option linter.unusedVariables false
set_option linter.unusedSimpArgs false

def sameZ : Value → Value → Bool
  | .int k n, .int k' n' => decide (k = k') && decide (n = n')
  | .bool b, .bool b' => b == b'
  | .string s, .string s' => decide (s.data.size = 0) && decide (s'.data.size = 0)
  | .slice none 0 0, .slice none 0 0 => true
  | _, _ => false

def sameZs : List Value → List Value → Bool
  | [], [] => true
  | a :: l, b :: r => sameZ a b && sameZs l r
  | _, _ => false

theorem sameZ_eq {a b : Value} (h : sameZ a b = true) : a = b := by
  unfold sameZ at h
  split at h
  · simp only [Bool.and_eq_true, decide_eq_true_eq] at h
    obtain ⟨rfl, rfl⟩ := h; rfl
  · simp at h; subst h; rfl
  · rename_i s s'
    simp only [Bool.and_eq_true, decide_eq_true_eq] at h
    obtain ⟨⟨d⟩⟩ := s
    obtain ⟨⟨d'⟩⟩ := s'
    simp at h
    rw [h.1, h.2]
  · rfl
  · cases h

theorem sameZs_eq : ∀ {l r : List Value}, sameZs l r = true → l = r
  | [], [], _ => rfl
  | [], _ :: _, h => by simp [sameZs] at h
  | _ :: _, [], h => by simp [sameZs] at h
  | a :: l, b :: r, h => by
    simp only [sameZs, Bool.and_eq_true] at h
    rw [sameZ_eq h.1, sameZs_eq h.2]

def sameF : List Field → List (Nat × TypeId) → Bool
  | [], [] => true
  | f :: l, p :: r => (f.offset == p.1) && (f.type == p.2) && sameF l r
  | _, _ => false

theorem sameF_eq : ∀ {l : List Field} {r : List (Nat × TypeId)}, sameF l r = true → l.map (fun f => (f.offset, f.type)) = r
  | [], [], _ => rfl
  | [], _ :: _, h => by simp [sameF] at h
  | _ :: _, [], h => by simp [sameF] at h
  | f :: l, p :: r, h => by
    simp only [sameF, Bool.and_eq_true, beq_iff_eq] at h
    simp [sameF_eq h.2, h.1.1, h.1.2]

def undOk (tab : Tab) (ti : TI) : Option TypeDesc → Bool
  | some (.struct fs) => ti.agg && sameF fs.toList ti.fields && ti.fields.all (fun p => (look p.2 tab).isSome)
  | some (.int k) => !ti.agg && (match ti.ty with | .int k' => decide (k = k') | _ => false)
  | some .bool => !ti.agg && (match ti.ty with | .bool => true | _ => false)
  | some .string => !ti.agg && (match ti.ty with | .str => true | _ => false)
  | some (.slice e) => !ti.agg && (match ti.ty with | .list _ => e == ti.elem | _ => false)
  | _ => false

def infoOk (ti : TI) : Option TypeInfo → Bool
  | some i => (i.size == size ti.ty) && (i.bytes == ti.bytes) && (match i.zero with | some z => sameZs z.cells.toList (zeros ti.ty) | none => false)
  | none => false

def checkTab (P : Program) (tab : Tab) : List (TypeId × TI) → Bool
  | [] => true
  | (t, ti) :: l => infoOk ti (P.info? t) && undOk tab ti (P.underlying t) && checkTab P tab l

theorem undOk_spec {P : Program} {tab : Tab} {t : TypeId} {ti : TI} (h : undOk tab ti (P.underlying t) = true) :
    if ti.agg then ∃ fs, P.underlying t = some (.struct fs) ∧ fs.toList.map (fun f => (f.offset, f.type)) = ti.fields ∧ (∀ p ∈ ti.fields, (look p.2 tab).isSome = true)
    else match ti.ty with
      | .int k => P.underlying t = some (.int k)
      | .bool => P.underlying t = some .bool
      | .str => P.underlying t = some .string
      | .list _ => P.underlying t = some (.slice ti.elem)
      | _ => False := by
  unfold undOk at h
  split at h
  · rename_i fs hu
    simp only [Bool.and_eq_true, List.all_eq_true] at h
    rw [if_pos h.1.1]
    exact ⟨fs, hu, sameF_eq h.1.2, h.2⟩
  all_goals first
    | (rename_i hu
       simp only [Bool.and_eq_true, Bool.not_eq_true'] at h
       rw [if_neg (by rw [h.1]; simp)]
       obtain ⟨_, h2⟩ := h
       split at h2
       · simp_all
       · cases h2)
    | cases h

theorem tabOk_of {P : Program} {tab : Tab} (h : checkTab P tab tab = true) : TabOk P tab := by
  intro t ti hl
  have key : ∀ l : List (TypeId × TI), checkTab P tab l = true → (t, ti) ∈ l → infoOk ti (P.info? t) = true ∧ undOk tab ti (P.underlying t) = true := by
    intro l
    induction l with
    | nil => intro _ hm; cases hm
    | cons p l ih =>
      intro hc hm
      obtain ⟨t', ti'⟩ := p
      simp only [checkTab, Bool.and_eq_true] at hc
      rcases List.mem_cons.1 hm with e | hm
      · cases e; exact hc.1
      · exact ih hc.2 hm
  obtain ⟨h1, h2⟩ := key tab h (look_mem hl)
  refine ⟨?_, undOk_spec h2⟩
  unfold infoOk at h1
  split at h1
  · rename_i i hi
    simp only [Bool.and_eq_true, beq_iff_eq] at h1
    obtain ⟨⟨h3, h4⟩, h5⟩ := h1
    split at h5
    · rename_i z hz
      exact ⟨i, z, hi, h3, h4, hz, sameZs_eq h5⟩
    · cases h5
  · cases h1

/-! ### The functions that are called -/

def gam (l : List (Nat × Con)) (tk : List Nat) : Gam := { con := fun n => look n l, tk := tk }

theorem gam_nil (P : Program) (tk : List Nat) : GamOk P (gam [] tk) := by intro n con h; cases h

theorem gam_cons {P : Program} {m : Nat} {c : Con} {l : List (Nat × Con)} {tk : List Nat} (hf : FnOk P m) (hc : ConOk P m c) (h : GamOk P (gam l tk)) : GamOk P (gam ((m, c) :: l) tk) := by
  intro n con hn
  have hn' : look n ((m, c) :: l) = some con := hn
  rw [look_cons] at hn'
  split at hn'
  · rename_i e; subst e; cases hn'; exact ⟨hf, hc⟩
  · exact h n con hn'

theorem caseB_iff {b : Bool} {X Y : Prop} : caseB b X Y ↔ (b = true → X) ∧ (b = false → Y) := ⟨caseB_to, fun h => caseB_of h.1 h.2⟩

end Go.Proofs.Ytcbehcpmojnnfaa.Bv
