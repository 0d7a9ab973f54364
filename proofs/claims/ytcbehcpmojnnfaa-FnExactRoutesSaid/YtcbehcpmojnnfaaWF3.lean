/- A function's frame at its start. -/
import Derived.Test.YtcbehcpmojnnfaaWF2
namespace Go.Proofs.Ytcbehcpmojnnfaa.Bv
set_option linter.unusedVariables false
set_option linter.unusedSimpArgs false

def capsLen : List Nat → Nat
  | [] => 0
  | n :: ns => n + capsLen ns

def capsOf : List Nat → List CellV → List Cap
  | [], _ => []
  | n :: ns, cs => .ptr (cs.take n) :: capsOf ns (cs.drop n)

/-- The frame's slots at the start. -/
def argSlots : Nat → List Sh → List CellV → List (Nat × Sv)
  | _, [], _ => []
  | i, .one :: shs, cs => (i, .val false (cs.take 1)) :: argSlots (i + 1) shs (cs.drop 1)
  | i, .agg n :: shs, cs => (i, .val true (cs.take n)) :: argSlots (i + 1) shs (cs.drop n)
  | i, .ptr n :: shs, cs => (i, .ptr (cs.take n)) :: argSlots (i + 1) shs (cs.drop n)
  | i, .clo f ns :: shs, cs => (i, .fn f [] (capsOf ns (cs.take (capsLen ns)))) :: argSlots (i + 1) shs (cs.drop (capsLen ns))

/-- Slots of values at the start. -/
def valOld (slots : List (Nat × Sv)) : List Nat := (slots.map (·.1)).filter fun i => match look i slots with
  | some (.val _ _) => true
  | _ => false

def argCs (con : Con) (x : El con.A) : List CellV := retag keyA (con.ownA ++ con.backA) 0 (flat con.A x)
def argRows (con : Con) (x : El con.A) : List (Nat × RowV) := newRows keyA (con.ownA ++ con.backA) 0 (flat con.A x)

def initSt (con : Con) (nt : Nat) (i : El con.I) (x : El con.A) : St := match con.io with
  | true => { nt, slots := (0, .box 0 0) :: argSlots 1 con.shA (argCs con x), boxes := [(0, retag keyI con.ownI 0 (flat con.I i))], rows := argRows con x ++ newRows keyI con.ownI 0 (flat con.I i), olds := valOld ((0, .box 0 0) :: argSlots 1 con.shA (argCs con x)) }
  | false => { nt, slots := argSlots 0 con.shA (argCs con x), boxes := [], rows := argRows con x, olds := valOld (argSlots 0 con.shA (argCs con x)) }

variable {P : Program} {base : World} {M0 : Mem} {ios : Ios} {σ : Sg} {M : Mem} {w w' : World} {a : Act} {st : St} {tab : Tab} {Γ : Gam}

theorem caps_len {ns : List Nat} {vs cs : List Value} (h : CapsRep M ns vs cs) : cs.length = capsLen ns := by
  induction h with
  | nil => rfl
  | cons hx _ ih => rw [List.length_append, hx.1, ih]; rfl

theorem caps_at {rows : List (Nat × RowV)} {boxes : List (Nat × List CellV)} {ns : List Nat} {vs cs : List Value} (h : CapsRep M ns vs cs) : ∀ {cvs : List CellV}, All2 (RdT σ rows M) cs cvs → All2 (RepCap σ rows boxes M) vs (capsOf ns cvs) := by
  induction h with
  | nil => intro cvs _; exact .nil
  | @cons n v c ns vs cs hx hr ih =>
    intro cvs hc
    obtain ⟨hn, ad, hv, hM⟩ := hx
    have hc1 : All2 (RdT σ rows M) c (cvs.take n) := by have := hc.take n; rw [List.take_left' hn] at this; exact this
    have hc2 : All2 (RdT σ rows M) cs (cvs.drop n) := by have := hc.drop n; rw [List.drop_left' hn] at this; exact this
    refine .cons ⟨ad, hv, fun j cv hj => ?_⟩ (ih hc2)
    obtain ⟨u, hu, hr⟩ := hc1.get hj
    exact ⟨u, hM j u hu, hr⟩

theorem argSlots_at {σ : Sg} {rows : List (Nat × RowV)} {boxes : List (Nat × List CellV)} {shs : List Sh} {vs cs : List Value} (h : ArgsRep M shs vs cs) :
    ∀ {cvs : List CellV} (k : Nat), All2 (RdT σ rows M) cs cvs → ∀ i, match look i (argSlots k shs cvs) with
      | some sv => k ≤ i ∧ i - k < vs.length ∧ RepSv σ rows boxes M (vs.getD (i - k) undef) sv
      | none => True := by
  induction h with
  | nil => intro cvs k _ i; simp [argSlots, look]
  | @cons sh v c shs vs cs hx hr ih =>
    intro cvs k hc i
    -- the first argument's cells
    have hlen : c.length ≤ cvs.length := by have := hc.length; simp at this; omega
    have hc1 : All2 (RdT σ rows M) c (cvs.take c.length) := by have := hc.take c.length; simpa using this
    have hc2 : All2 (RdT σ rows M) cs (cvs.drop c.length) := by have := hc.drop c.length; simpa using this
    have step : ∀ (n : Nat) (sv : Sv), c.length = n → RepSv σ rows boxes M v sv → match look i ((k, sv) :: argSlots (k + 1) shs (cvs.drop n)) with
      | some sv => k ≤ i ∧ i - k < (v :: vs).length ∧ RepSv σ rows boxes M ((v :: vs).getD (i - k) undef) sv
      | none => True := by
      intro n sv hn hsv
      subst hn
      rw [look_cons]
      by_cases hki : k = i
      · subst hki; simp; exact hsv
      · rw [if_neg hki]
        have := ih (k + 1) hc2 i
        split at this
        · rename_i sv' hl
          obtain ⟨h1, h2, h3⟩ := this
          refine ⟨by omega, by simp; omega, ?_⟩
          rw [show i - k = (i - (k + 1)) + 1 by omega]
          simpa using h3
        · trivial
    cases sh with
    | one =>
      obtain ⟨rfl, hag⟩ := hx
      refine step 1 _ rfl ⟨?_, hag⟩
      have : v.cells = #[v] := by cases v <;> first | rfl | (simp [isAgg'] at hag)
      rw [this]; exact hc1
    | agg n =>
      obtain ⟨hn, vs', rfl, rfl⟩ := hx
      exact step n _ hn ⟨by rw [hn] at hc1; exact hc1, rfl⟩
    | ptr n =>
      obtain ⟨hn, ad, rfl, hM⟩ := hx
      refine step n _ hn ⟨ad, rfl, fun j cv hj => ?_⟩
      rw [hn] at hc1
      obtain ⟨u, hu, hr⟩ := hc1.get hj
      exact ⟨u, hM j u hu, hr⟩
    | clo f ns =>
      obtain ⟨vb, rfl, hcaps⟩ := hx
      have hn : c.length = capsLen ns := caps_len hcaps
      refine step (capsLen ns) _ hn ⟨#[], vb, rfl, .nil, ?_⟩
      rw [hn] at hc1
      exact caps_at (σ := σ) (rows := rows) (boxes := boxes) hcaps hc1

/-! ### Lists of values -/

/-- What a value's lists keep to. -/
def Wf : (t : Ty) → El t → Prop
  | .list t, l => List.length l ≤ maxLen ∧ ∀ x, x ∈ (show List (El t) from l) → Wf t x
  | .pair a b, x => Wf a x.1 ∧ Wf b x.2
  | _, _ => True

theorem RdC.wf : ∀ (t : Ty) (cs : List Value) (x : El t), RdC M t cs x → Wf t x
  | .int _, _, _, _ => trivial
  | .bool, _, _, _ => trivial
  | .str, _, _, _ => trivial
  | .unit, _, _, _ => trivial
  | .pair a b, _, _, ⟨_, _, _, h1, h2⟩ => ⟨RdC.wf a _ _ h1, RdC.wf b _ _ h2⟩
  | .list t, _, l, ⟨_, _, _, h1, h2, h⟩ => by
    refine ⟨Nat.le_trans h1 h2, fun x hx => ?_⟩
    obtain ⟨i, hi, e⟩ := List.getElem_of_mem hx
    obtain ⟨_, vs, _, _, _, h4⟩ := h i hi
    have := RdC.wf t vs _ h4
    rw [← e]; exact this

theorem args_length {shs : List Sh} {vs cs : List Value} (h : ArgsRep M shs vs cs) : vs.length = shs.length := by
  induction h with
  | nil => rfl
  | cons _ _ ih => simp [ih]

theorem frame_at (args : List Value) (n i : Nat) (hi : i < args.length) : ((args.toArray ++ Array.replicate n undef).getD i undef) = args.getD i undef := by
  rw [Array.getD_eq_getD_getElem?, List.getD_eq_getElem?_getD, Array.getElem?_append_left (by simpa using hi)]
  simp


end Go.Proofs.Ytcbehcpmojnnfaa.Bv
