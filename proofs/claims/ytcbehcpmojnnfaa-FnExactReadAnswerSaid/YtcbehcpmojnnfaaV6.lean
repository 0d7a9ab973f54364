/- One operation: what it does by value is what it does. -/
import Derived.Test.YtcbehcpmojnnfaaV5
namespace Go.Proofs.Ytcbehcpmojnnfaa.Bv
set_option linter.unusedVariables false
set_option linter.unusedSimpArgs false

variable {P : Program} {base : World} {M0 : Mem} {ios : List Nat} {σ : Sg} {M : Mem} {w : World} {a : Act} {st : St} {tab : Tab}

structure RepIn (σ : Sg) (st : St) (M : Mem) (v : Value) (x : In) : Prop where
  rep : RepSv σ st.rows st.boxes M v x.sv
  box : ∀ k off, x.sv = .box k off → x.box = st.box k
  row : ∀ t l r, x.sv = .val false [.lst t l (some r)] → x.row = st.row r

theorem constSv_rep (σ : Sg) (st : St) (M : Mem) (v : Value) : RepIn σ st M v ⟨constSv v, none, none⟩ := by
  refine ⟨?_, ?_, ?_⟩
  · cases v with
    | int k n => exact ⟨.cons ⟨rfl, trivial⟩ .nil, rfl⟩
    | bool b => exact ⟨.cons ⟨rfl, trivial⟩ .nil, rfl⟩
    | string s => exact ⟨.cons ⟨by show Value.string s = .string ⟨s.data.toList.toArray⟩; simp, trivial⟩ .nil, rfl⟩
    | slice ad l c =>
      cases ad with
      | none =>
        match l, c with
        | 0, 0 => rfl
        | 0, c + 1 => trivial
        | l + 1, c => trivial
      | some x => trivial
    | _ => trivial
  · intro k off h
    cases v <;> simp [constSv] at h
    rename_i ad l c
    cases ad <;> (try (simp at h; done))
    match l, c with
    | 0, 0 => simp at h
    | 0, c + 1 => simp at h
    | l + 1, c => simp at h
  · intro t l r h
    cases v <;> simp [constSv] at h
    rename_i ad l c
    cases ad <;> (try (simp at h; done))
    match l, c with
    | 0, 0 => simp at h
    | 0, c + 1 => simp at h
    | l + 1, c => simp at h

theorem inOf_rep (hS : Sim P base M0 ios σ M w a st) (x : Operand) : RepIn σ st M (a.eval x) (inOf st x) := by
  cases x with
  | tmp t =>
    have h := hS.slots t
    show RepIn σ st M (a.tmps.getD t undef) _
    simp only [inOf]
    split
    · rename_i k off he; rw [he] at h
      exact ⟨h, fun k' off' e => by cases e; rfl, fun _ _ _ e => by cases e⟩
    · rename_i t' l r he; rw [he] at h
      exact ⟨h, fun _ _ e => by (cases e), fun _ _ _ e => by cases e; rfl⟩
    · rename_i h1 h2
      exact ⟨h, fun k off e => absurd e (h1 k off), fun t' l r e => absurd e (h2 t' l r)⟩
  | const v => exact constSv_rep σ st M v
  | func f => exact ⟨⟨rfl, rfl⟩, fun _ _ e => by (cases e), fun _ _ _ e => by (cases e)⟩
  | global g => exact ⟨trivial, fun _ _ e => by (cases e), fun _ _ _ e => by (cases e)⟩

theorem typed_rep {boxes : List (Nat × List CellV)} {rows : List (Nat × TypeId)} {v : Value} {sv : Sv} (t : TypeId) (h : RepSv σ rows boxes M v sv) : RepSv σ rows boxes M v (typed tab t sv) := by
  cases sv with
  | nil =>
    simp only [typed]
    split
    · have hv : v = .slice none 0 0 := h
      subst hv
      exact ⟨.cons ⟨RdC.nilSlice M _, by simp [tagOk]⟩ .nil, rfl⟩
    · trivial
  | _ => exact h

/-- An operation that only computes. -/
theorem wp_pure {o : Oper} {next : Act → World → Prop} {Q : Exit → Act → World → Prop} {v : Value} {sv : Sv} {w' : World}
    (hS : Sim P base M0 ios σ M w' a st) (hd : ∀ d, o.dst = some d → d < st.nt) (hr : (execOp a.eval o).run P w = .ok (.value v) w')
    (hv : RepSv σ st.rows st.boxes M v sv)
    (hn : ∀ v σ' M' w', Sim P base M0 ios σ' M' w' (a.put o.dst v) (Eff.apply { sv := sv } o.dst st) → next (a.put o.dst v) w') : o.wp P a w next Q := by
  unfold Oper.wp
  rw [hr]
  show next (a.put o.dst v) w'
  refine hn v σ M w' ?_
  cases hdst : o.dst with
  | none => exact hS
  | some d =>
    rw [hdst] at hd
    exact hS.put (hd d rfl) hv

theorem RepVal.one {rows : List (Nat × TypeId)} {v : Value} {c : CellV} (h : RepVal σ rows M v (false, [c])) : RdT σ rows M v c := by
  obtain ⟨h1, h2⟩ := h
  cases v <;> simp [Value.cells, isAgg'] at h1 h2 ⊢ <;> (cases h1; assumption)

theorem RepVal.mk1 {rows : List (Nat × TypeId)} {v : Value} {c : CellV} (h : RdT σ rows M v c) (hv : isAgg' v = false) : RepVal σ rows M v (false, [c]) := by
  refine ⟨?_, hv⟩
  cases v <;> simp [isAgg', Value.cells] at hv ⊢ <;> exact .cons h .nil

theorem RepVal.agg {rows : List (Nat × TypeId)} {v : Value} {cs : List CellV} (h : RepVal σ rows M v (true, cs)) : ∃ vs, v = .agg vs ∧ All2 (RdT σ rows M) vs.toList cs := by
  obtain ⟨h1, h2⟩ := h
  cases v <;> simp [isAgg'] at h2
  rename_i vs
  exact ⟨vs, rfl, h1⟩

/-- bool, int, string: the value is known. -/
theorem RdT.int {rows : List (Nat × TypeId)} {v : Value} {k : IntKind} {n : Int} (h : RdT σ rows M v (.int k n)) : v = .int k n := h.1
theorem RdT.bool {rows : List (Nat × TypeId)} {v : Value} {b : Bool} (h : RdT σ rows M v (.bool b)) : v = .bool b := h.1
theorem RdT.str {rows : List (Nat × TypeId)} {v : Value} {s : List UInt8} (h : RdT σ rows M v (.str s)) : v = .string ⟨s.toArray⟩ := h.1

theorem rep_int {rows : List (Nat × TypeId)} {boxes : List (Nat × List CellV)} (k : IntKind) (n : Int) : RepSv σ rows boxes M (.int k n) (.val false [.int k n]) := ⟨.cons ⟨rfl, trivial⟩ .nil, rfl⟩
theorem rep_bool {rows : List (Nat × TypeId)} {boxes : List (Nat × List CellV)} (b : Bool) : RepSv σ rows boxes M (.bool b) (.val false [.bool b]) := ⟨.cons ⟨rfl, trivial⟩ .nil, rfl⟩
theorem rep_str {rows : List (Nat × TypeId)} {boxes : List (Nat × List CellV)} (s : List UInt8) : RepSv σ rows boxes M (.string ⟨s.toArray⟩) (.val false [.str s]) := ⟨.cons ⟨rfl, trivial⟩ .nil, rfl⟩

theorem run_eqGuard_plain (op : BinOp) (t : TypeId) (x y : Operand) (u v : Value) (hu : isAgg' u = false) (hn : u ≠ .nilIface) : (eqGuard op t x y u v).run P w = .ok () w := by
  cases u <;> first | (simp [isAgg'] at hu; done) | (exact absurd rfl hn) | (cases op <;> cases v <;> simp [eqGuard])

theorem toList_mk (s : List UInt8) : (⟨s.toArray⟩ : ByteArray).toList = s := by
  rw [ByteArray.toList_eq]

theorem binV_sound {rows : List (Nat × TypeId)} {boxes : List (Nat × List CellV)} {op : BinOp} {t : TypeId} {u v : Value} {x y c : CellV} {ps : List Prop} (hx : RdT σ rows M u x) (hy : RdT σ rows M v y)
    (hb : (x matches .bool _) = true → P.underlying t = some .bool) (h : binV op x y = some (ps, c)) (hps : ∀ p ∈ ps, p) :
    ∃ r, (binOp op t u v).run P w = .ok r w ∧ RepSv σ rows boxes M r (.val false [c]) := by
  cases x with
  | lst t l tag => cases y <;> simp [binV] at h
  | int k m =>
    cases y with
    | int k' n =>
      have hu := hx.int; have hv := hy.int; subst hu; subst hv
      cases op <;> simp only [binV] at h
      case shl => simp only [Option.some.injEq, Prod.mk.injEq] at h; obtain ⟨rfl, rfl⟩ := h
                  have h0 : 0 ≤ n := hps _ (by simp)
                  exact ⟨_, by simp [binOp, Op.shift, show ¬ n < 0 by omega], rep_int _ _⟩
      case shr => simp only [Option.some.injEq, Prod.mk.injEq] at h; obtain ⟨rfl, rfl⟩ := h
                  have h0 : 0 ≤ n := hps _ (by simp)
                  exact ⟨_, by simp [binOp, Op.shift, show ¬ n < 0 by omega], rep_int _ _⟩
      all_goals
        by_cases hk : k = k'
        · subst hk
          rw [if_pos rfl] at h
          first
            | (cases h; done)
            | (simp only [Option.some.injEq, Prod.mk.injEq] at h; obtain ⟨rfl, rfl⟩ := h; refine ⟨_, ?_, rep_int _ _⟩; simp [binOp, Op.intArith]; done)
            | (simp only [Option.some.injEq, Prod.mk.injEq] at h; obtain ⟨rfl, rfl⟩ := h; refine ⟨_, ?_, rep_bool _⟩; simp [binOp, Op.intCmp]; done)
            | (simp only [Option.some.injEq, Prod.mk.injEq] at h; obtain ⟨rfl, rfl⟩ := h; refine ⟨_, ?_, rep_int _ _⟩; simp [binOp, Op.intBits]; done)
            | (simp only [Option.some.injEq, Prod.mk.injEq] at h; obtain ⟨rfl, rfl⟩ := h
               have h0 : n ≠ 0 := hps _ (by simp)
               refine ⟨_, ?_, rep_int _ _⟩; simp [binOp, Op.intDiv, h0]; done)
        · rw [if_neg hk] at h; cases h
    | _ => simp [binV] at h
  | str s =>
    cases y with
    | str s' =>
      have hu := hx.str; have hv := hy.str; subst hu; subst hv
      cases op <;> simp only [binV] at h <;> first
        | (cases h; done)
        | (simp only [Option.some.injEq, Prod.mk.injEq] at h
           obtain ⟨rfl, rfl⟩ := h
           first
             | (refine ⟨_, ?_, rep_bool _⟩; simp [binOp, Op.stringOp, toList_mk]; done)
             | (have h0 : s.length + s'.length ≤ 9223372036854775807 := hps _ (by simp)
                refine ⟨.string (⟨s.toArray⟩ ++ ⟨s'.toArray⟩), ?_, ?_⟩
                · simp only [binOp]
                  exact run_string_add_sum w _ _ (by simpa [ByteArray.size] using h0)
                · have he : ((⟨s.toArray⟩ : ByteArray) ++ ⟨s'.toArray⟩) = ⟨(s ++ s').toArray⟩ := by
                    apply ByteArray.ext; simp [ByteArray.data_append]
                  rw [he]; exact rep_str _))
    | _ => simp [binV] at h
  | bool b =>
    cases y with
    | bool b' =>
      have hu := hx.bool; have hv := hy.bool; subst hu; subst hv
      have ht := hb rfl
      cases op <;> simp only [binV] at h <;> first
        | (cases h; done)
        | (simp only [Option.some.injEq, Prod.mk.injEq] at h
           obtain ⟨rfl, rfl⟩ := h
           refine ⟨_, ?_, rep_bool _⟩; simp [binOp, run_equal_bool w t b b' ht])
    | _ => simp [binV] at h

end Go.Proofs.Ytcbehcpmojnnfaa.Bv
