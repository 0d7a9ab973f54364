/- One operation: what its operands are; what plain operations do. -/
import Derived.Test.YtcbehcpmojnnfaaW5b
namespace Go.Proofs.Ytcbehcpmojnnfaa.Bv
set_option linter.unusedVariables false
set_option linter.unusedSimpArgs false

variable {P : Program} {base : World} {M0 : Mem} {ios : Ios} {σ : Sg} {M : Mem} {w : World} {a : Act} {st : St} {tab : Tab}

theorem RdC.slice {τ : Ty} {l : List (El τ)} {ad : Option Addr} {n cap lo hi : Nat} (h : RdC M (.list τ) [.slice ad n cap] l) (h1 : lo ≤ hi) (h2 : hi ≤ l.length) :
    RdC M (.list τ) [.slice (if cap = lo then ad else ad.map (·.add (lo * size τ))) (hi - lo) (cap - lo)] ((l.take hi).drop lo) := by
  obtain ⟨ad', cap', e, hl, hm, hc⟩ := h
  cases e
  have hlen : ((l.take hi).drop lo).length = hi - lo := by rw [List.length_drop, List.length_take]; omega
  refine ⟨_, cap - lo, by rw [hlen], by omega, by simp only [maxLen] at hm ⊢; omega, ?_⟩
  intro i hil
  rw [hlen] at hil
  obtain ⟨ad0, vs, e1, e2, e3, e4⟩ := hc (lo + i) (by omega)
  refine ⟨ad0.add (lo * size τ), vs, ?_, e2, ?_, ?_⟩
  · rw [if_neg (by omega), e1]; rfl
  · intro j u hu
    rw [Addr.add_add, show lo * size τ + (i * size τ + j) = (lo + i) * size τ + j by rw [Nat.add_mul]; omega]
    exact e3 j u hu
  · have : ((l.take hi).drop lo)[i]'(by rw [hlen]; exact hil) = l[lo + i]'(by omega) := by simp
    show RdC M τ vs (((l.take hi).drop lo)[i]'(by rw [hlen]; exact hil))
    rw [this]; exact e4


structure RepIn (σ : Sg) (st : St) (M : Mem) (v : Value) (x : In) : Prop where
  rep : RepSv σ st.rows st.boxes M v x.sv
  box : ∀ k off, x.sv = .box k off → x.box = st.box k
  row : ∀ t l r, x.sv = .val false [.lst t l (some r)] → x.row = st.row r
  rows : ∀ r rv, look r x.rows = some rv → look r st.rows = some rv
  boxes : ∀ k cs, look k x.boxes = some cs → st.box k = some cs

theorem look_pick {α : Type} (l : List (Nat × α)) (k : Nat) : ∀ ks, look k (pick l ks) = if k ∈ ks then look k l else none
  | [] => by simp [pick, look]
  | j :: ks => by
    simp only [pick]
    cases hj : look j l with
    | none =>
      simp only [look_pick l k ks, List.mem_cons]
      by_cases e : k = j
      · subst e; simp [hj]
      · simp [e]
    | some x =>
      simp only [look_cons, look_pick l k ks, List.mem_cons]
      by_cases e : j = k
      · subst e; simp [hj]
      · simp [e, Ne.symm e]

theorem look_pick_some {α : Type} {l : List (Nat × α)} {k : Nat} {ks : List Nat} {x : α} (h : look k (pick l ks) = some x) : look k l = some x := by
  rw [look_pick] at h; split at h
  · exact h
  · cases h

theorem Sim.frzAt (hS : Sim P base M0 ios σ M w a st) {r : Nat} {e : TypeId} {t : Ty} {l : List (El t)} {ver : Nat} {z : Bool} (h : look r st.rows = some (.frz e t l ver z)) : RdC M (.list t) [σ.row r] l ∧ (σ.mem r).le M := hS.hot.frz r e t l ver z h

theorem subOf.rd {τ : Ty} {v u : Value} {lo hi : Nat} {N : Mem} {l : List (El τ)} (h : subOf τ v lo hi u) (hr : RdC N (.list τ) [v] l) : RdC N (.list τ) [u] ((l.take hi).drop lo) := by
  obtain ⟨ad, n, cap, ad', rfl, h1, h2, rfl, h3⟩ := h
  have hn : n = List.length l := by obtain ⟨ad', cap', e, _⟩ := hr; cases e; rfl
  have hc : n ≤ cap := by obtain ⟨ad', cap', e, h, _⟩ := hr; cases e; exact h
  have hs := RdC.slice hr h1 (by rw [← hn]; exact h2)
  by_cases hlt : lo < cap
  · rw [if_neg (by omega)] at hs
    rw [h3 hlt]; exact hs
  · have : hi = lo := by omega
    subst this
    have hnil : (l.take hi).drop hi = ([] : List (El τ)) := by rw [List.drop_eq_nil_iff, List.length_take]; omega
    rw [hnil, Nat.sub_self]
    exact ⟨ad', cap - hi, rfl, by simp, by simp; omega, fun i hi => by simp at hi⟩

theorem resC_rep (hS : Sim P base M0 ios σ M w a st) {rows : List (Nat × RowV)} (hr : ∀ r rv, look r rows = some rv → look r st.rows = some rv) {v : Value} {c : CellV} (h : RdT σ st.rows M v c) : RdT σ st.rows M v (resC rows c) := by
  cases c with
  | own t r =>
    simp only [resC]
    split
    · rename_i e t' l ver z hl
      have hl' := hr r _ hl
      split
      · rename_i ht
        subst ht
        have hv : v = σ.row r := h.2 (by rw [hl']; rfl)
        have hrd := (hS.frzAt hl').1
        refine ⟨by show RdC M _ _ _; rw [hv]; exact hrd, ?_⟩
        by_cases h0 : r = 0
        · subst h0; cases z <;> trivial
        · cases z
          · trivial
          · simp only [Bool.true_and, show (!(r == 0)) = true by simp [h0], cond_true, tagOk, if_neg h0]
            intro _; exact hv
      · exact h
    · exact h
  | sub t r lo hi =>
    simp only [resC]
    split
    · rename_i e t' l ver z hl
      have hl' := hr r _ hl
      split
      · rename_i ht
        subst ht
        have hv := h.2 (by rw [hl']; rfl)
        exact ⟨hv.rd (hS.frzAt hl').1, trivial⟩
      · exact h
    · exact h
  | bor t l r ver p =>
    simp only [resC]
    split
    · rename_i e t' l' ver' z hl
      have hl' := hr r _ hl
      cases hv : ver' == ver with
      | false => exact h
      | true =>
        have : ver' = ver := by simpa using hv
        subst this
        obtain ⟨h1, _⟩ := h.2 _ hl' rfl
        exact ⟨h1.mono (hS.frzAt hl').2, trivial⟩
    · exact h
  | _ => exact h

theorem resCs_rep (hS : Sim P base M0 ios σ M w a st) {rows : List (Nat × RowV)} (hr : ∀ r rv, look r rows = some rv → look r st.rows = some rv) {vs : List Value} {cs : List CellV} (h : All2 (RdT σ st.rows M) vs cs) : All2 (RdT σ st.rows M) vs (resCs rows cs) := by
  induction h with
  | nil => exact .nil
  | cons x _ ih => exact .cons (resC_rep hS hr x) ih

theorem resCs_get {rows : List (Nat × RowV)} : ∀ {cs : List CellV} {i : Nat} {c : CellV}, (resCs rows cs)[i]? = some c → ∃ c0, cs[i]? = some c0 ∧ c = resC rows c0
  | [], i, c, h => by simp [resCs] at h
  | x :: cs, 0, c, h => by simp [resCs] at h; exact ⟨x, by simp, h.symm⟩
  | x :: cs, i + 1, c, h => by simp only [resCs, List.getElem?_cons_succ] at h ⊢; exact resCs_get h

theorem resSv_rep (hS : Sim P base M0 ios σ M w a st) {rows : List (Nat × RowV)} (hr : ∀ r rv, look r rows = some rv → look r st.rows = some rv) {v : Value} {sv : Sv} (h : RepSv σ st.rows st.boxes M v sv) : RepSv σ st.rows st.boxes M v (resSv rows sv) := by
  cases sv with
  | val ag cs => exact ⟨resCs_rep hS hr h.1, h.2⟩
  | tup l =>
    obtain ⟨vs, hv, h⟩ := h
    refine ⟨vs, hv, ?_⟩
    generalize vs.toList = l1 at h
    induction h with
    | nil => exact .nil
    | cons x _ ih => exact .cons ⟨resCs_rep hS hr x.1, x.2⟩ ih
  | bptr cs r ver =>
    simp only [resSv]
    split
    · rename_i e t' l' ver' z hl
      have hl' := hr r _ hl
      cases hv : ver' == ver with
      | false => exact h
      | true =>
        have : ver' = ver := by simpa using hv
        subst this
        obtain ⟨ad, ha, hc⟩ := h _ hl' rfl
        refine ⟨ad, ha, fun i c hi => ?_⟩
        obtain ⟨c0, h0, rfl⟩ := resCs_get hi
        obtain ⟨u, hu, hrd⟩ := hc i c0 h0
        exact ⟨u, (hS.frzAt hl').2 _ _ hu, resC_rep hS hr hrd⟩
    · exact h
  | _ => exact h

theorem resC_key {rows : List (Nat × RowV)} {c : CellV} {t : Ty} {l : List (El t)} {r : Nat} (h : resC rows c = .lst t l (some r)) : keyC c = some r := by
  cases c with
  | own t' r' =>
    simp only [resC] at h
    split at h
    · split at h
      · rename_i z _ ht
        subst ht
        injection h with _ _ h3
        rw [Bool.cond_eq_ite] at h3
        split at h3
        · cases h3; rfl
        · cases h3
      · cases h
    · cases h
  | sub t' r' lo hi =>
    simp only [resC] at h
    split at h
    · split at h
      · injection h with _ _ h3; cases h3
      · cases h
    · cases h
  | bor t' l' r' ver p =>
    simp only [resC] at h
    split at h
    · rw [Bool.cond_eq_ite] at h
      split at h
      · cases h
      · cases h
    · cases h
  | lst t' l' tag => simp only [resC] at h; cases h; rfl
  | _ => simp [resC] at h

theorem mkIn_rep (hS : Sim P base M0 ios σ M w a st) {v : Value} {sv : Sv} (h : RepSv σ st.rows st.boxes M v sv) : RepIn σ st M v (mkIn st sv) := by
  have hr : ∀ r rv, look r (pick st.rows (keysSv sv ++ keysBx (pick st.boxes (boxesSv sv)))) = some rv → look r st.rows = some rv := fun r rv hh => look_pick_some hh
  refine ⟨resSv_rep hS hr h, ?_, ?_, hr, fun k cs hk => look_pick_some hk⟩
  · intro k off e
    have e1 : (mkIn st sv).box = look k (pick st.boxes (boxesSv sv)) := by
      have e0 : resSv (pick st.rows (keysSv sv ++ keysBx (pick st.boxes (boxesSv sv)))) sv = .box k off := e
      simp only [mkIn, e0]
    rw [e1]
    have e2 : sv = .box k off := by
      have e0 : resSv (pick st.rows (keysSv sv ++ keysBx (pick st.boxes (boxesSv sv)))) sv = .box k off := e
      cases sv <;> simp only [resSv] at e0 <;> try (cases e0; done)
      · exact e0
      · split at e0
        · rw [Bool.cond_eq_ite] at e0
          split at e0 <;> cases e0
        · cases e0
    subst e2
    rw [look_pick]; simp [boxesSv, St.box]
  · intro t l r e
    have e0 : resSv (pick st.rows (keysSv sv ++ keysBx (pick st.boxes (boxesSv sv)))) sv = .val false [.lst t l (some r)] := e
    have e1 : (mkIn st sv).row = coldOf r (pick st.rows (keysSv sv ++ keysBx (pick st.boxes (boxesSv sv)))) := by simp only [mkIn, e0]
    rw [e1]
    cases sv <;> simp only [resSv] at e0 <;> try (cases e0; done)
    · rename_i ag cs
      injection e0 with e3 e4
      match cs, e4 with
      | [c], e4 =>
        simp only [resCs, List.cons.injEq, and_true] at e4
        have hk := resC_key e4
        show coldOf r _ = coldOf r st.rows
        unfold coldOf
        rw [look_pick, if_pos]
        simp [keysSv, keysC, hk]
      | [], e4 => simp [resCs] at e4
      | _ :: _ :: _, e4 => simp [resCs] at e4
    · split at e0
      · rw [Bool.cond_eq_ite] at e0
        split at e0 <;> cases e0
      · cases e0

theorem constSv_rep (σ : Sg) (st : St) (M : Mem) (v : Value) : RepIn σ st M v { sv := constSv v } := by
  refine ⟨?_, ?_, ?_, fun r rv h => (by cases h), fun k cs h => (by cases h)⟩
  · cases v with
    | int k n => exact ⟨.cons ⟨rfl, trivial⟩ .nil, rfl⟩
    | bool b => exact ⟨.cons ⟨rfl, trivial⟩ .nil, rfl⟩
    | string s => exact ⟨.cons ⟨by show Value.string s = .string ⟨s.data.toList.toArray⟩; simp, trivial⟩ .nil, rfl⟩
    | slice ad l c =>
      cases ad with
      | none =>
        match l, c with
        | 0, 0 => rfl
        | 0, c + 1 => trivial
        | l + 1, c => trivial
      | some x => trivial
    | _ => trivial
  · intro k off h
    cases v <;> simp [constSv] at h
    rename_i ad l c
    cases ad <;> (try (simp at h; done))
    match l, c with
    | 0, 0 => simp at h
    | 0, c + 1 => simp at h
    | l + 1, c => simp at h
  · intro t l r h
    cases v <;> simp [constSv] at h
    rename_i ad l c
    cases ad <;> (try (simp at h; done))
    match l, c with
    | 0, 0 => simp at h
    | 0, c + 1 => simp at h
    | l + 1, c => simp at h

theorem inOf_rep (hS : Sim P base M0 ios σ M w a st) (x : Operand) : RepIn σ st M (a.eval x) (inOf st x) := by
  cases x with
  | tmp t => exact mkIn_rep hS (hS.slots t)
  | const v => exact constSv_rep σ st M v
  | func f => exact ⟨⟨#[], #[], rfl, .nil, .nil⟩, fun _ _ e => by (cases e), fun _ _ _ e => by (cases e), fun r rv h => (by cases h), fun k cs h => (by cases h)⟩
  | global g => exact ⟨trivial, fun _ _ e => by (cases e), fun _ _ _ e => by (cases e), fun r rv h => (by cases h), fun k cs h => (by cases h)⟩

theorem typed_rep {boxes : List (Nat × List CellV)} {rows : List (Nat × RowV)} {v : Value} {sv : Sv} (t : TypeId) (h : RepSv σ rows boxes M v sv) : RepSv σ rows boxes M v (typed tab t sv) := by
  cases sv with
  | nil =>
    simp only [typed]
    split
    · have hv : v = .slice none 0 0 := h
      subst hv
      exact ⟨.cons ⟨RdC.nilSlice M _, by simp [tagOk]⟩ .nil, rfl⟩
    · trivial
  | _ => exact h

/-- An operation that only computes. -/
theorem wp_pure {o : Oper} {next : Act → World → Prop} {Q : Exit → Act → World → Prop} {v : Value} {sv : Sv} {w' : World}
    (hS : Sim P base M0 ios σ M w' a st) (hd : ∀ d, o.dst = some d → d < st.nt) (hr : (execOp a.eval o).run P w = .ok (.value v) w')
    (hv : RepSv σ st.rows st.boxes M v sv)
    (hn : ∀ v σ' M' w', Sim P base M0 ios σ' M' w' (a.put o.dst v) (Eff.apply { sv := sv } o.dst st) → next (a.put o.dst v) w') : o.wp P a w next Q := by
  unfold Oper.wp
  rw [hr]
  show next (a.put o.dst v) w'
  refine hn v σ M w' ?_
  cases hdst : o.dst with
  | none => exact hS
  | some d =>
    rw [hdst] at hd
    exact hS.put (hd d rfl) hv

theorem RepVal.one {rows : List (Nat × RowV)} {v : Value} {c : CellV} (h : RepVal σ rows M v (false, [c])) : RdT σ rows M v c := by
  obtain ⟨h1, h2⟩ := h
  cases v <;> simp [Value.cells, isAgg'] at h1 h2 ⊢ <;> (cases h1; assumption)

theorem RepVal.mk1 {rows : List (Nat × RowV)} {v : Value} {c : CellV} (h : RdT σ rows M v c) (hv : isAgg' v = false) : RepVal σ rows M v (false, [c]) := by
  refine ⟨?_, hv⟩
  cases v <;> simp [isAgg', Value.cells] at hv ⊢ <;> exact .cons h .nil

theorem RepVal.agg {rows : List (Nat × RowV)} {v : Value} {cs : List CellV} (h : RepVal σ rows M v (true, cs)) : ∃ vs, v = .agg vs ∧ All2 (RdT σ rows M) vs.toList cs := by
  obtain ⟨h1, h2⟩ := h
  cases v <;> simp [isAgg'] at h2
  rename_i vs
  exact ⟨vs, rfl, h1⟩

/-- bool, int, string: the value is known. -/
theorem RdT.int {rows : List (Nat × RowV)} {v : Value} {k : IntKind} {n : Int} (h : RdT σ rows M v (.int k n)) : v = .int k n := h.1
theorem RdT.bool {rows : List (Nat × RowV)} {v : Value} {b : Bool} (h : RdT σ rows M v (.bool b)) : v = .bool b := h.1
theorem RdT.str {rows : List (Nat × RowV)} {v : Value} {s : List UInt8} (h : RdT σ rows M v (.str s)) : v = .string ⟨s.toArray⟩ := h.1

theorem rep_int {rows : List (Nat × RowV)} {boxes : List (Nat × List CellV)} (k : IntKind) (n : Int) : RepSv σ rows boxes M (.int k n) (.val false [.int k n]) := ⟨.cons ⟨rfl, trivial⟩ .nil, rfl⟩
theorem rep_bool {rows : List (Nat × RowV)} {boxes : List (Nat × List CellV)} (b : Bool) : RepSv σ rows boxes M (.bool b) (.val false [.bool b]) := ⟨.cons ⟨rfl, trivial⟩ .nil, rfl⟩
theorem rep_str {rows : List (Nat × RowV)} {boxes : List (Nat × List CellV)} (s : List UInt8) : RepSv σ rows boxes M (.string ⟨s.toArray⟩) (.val false [.str s]) := ⟨.cons ⟨rfl, trivial⟩ .nil, rfl⟩

theorem run_eqGuard_plain (op : BinOp) (t : TypeId) (x y : Operand) (u v : Value) (hu : isAgg' u = false) (hn : u ≠ .nilIface) : (eqGuard op t x y u v).run P w = .ok () w := by
  cases u <;> first | (simp [isAgg'] at hu; done) | (exact absurd rfl hn) | (cases op <;> cases v <;> simp [eqGuard])

theorem toList_mk (s : List UInt8) : (⟨s.toArray⟩ : ByteArray).toList = s := by
  rw [ByteArray.toList_eq]

theorem binV_sound {rows : List (Nat × RowV)} {boxes : List (Nat × List CellV)} {op : BinOp} {t : TypeId} {u v : Value} {x y c : CellV} {ps : List Prop} (hx : RdT σ rows M u x) (hy : RdT σ rows M v y)
    (hb : (x matches .bool _) = true → P.underlying t = some .bool) (h : binV op x y = some (ps, c)) (hps : ∀ p ∈ ps, p) :
    ∃ r, (binOp op t u v).run P w = .ok r w ∧ RepSv σ rows boxes M r (.val false [c]) := by
  cases x with
  | lst t l tag => cases y <;> simp [binV] at h
  | own t r => cases y <;> simp [binV] at h
  | sub t r lo hi => cases y <;> simp [binV] at h
  | bor t l r ver p => cases y <;> simp [binV] at h
  | emp t => cases y <;> simp [binV] at h
  | und => cases y <;> simp [binV] at h
  | int k m =>
    cases y with
    | int k' n =>
      have hu := hx.int; have hv := hy.int; subst hu; subst hv
      cases op <;> simp only [binV] at h
      case shl => simp only [Option.some.injEq, Prod.mk.injEq] at h; obtain ⟨rfl, rfl⟩ := h
                  have h0 : 0 ≤ n := hps _ (by simp)
                  exact ⟨_, by simp [binOp, Op.shift, show ¬ n < 0 by omega], rep_int _ _⟩
      case shr => simp only [Option.some.injEq, Prod.mk.injEq] at h; obtain ⟨rfl, rfl⟩ := h
                  have h0 : 0 ≤ n := hps _ (by simp)
                  exact ⟨_, by simp [binOp, Op.shift, show ¬ n < 0 by omega], rep_int _ _⟩
      all_goals
        by_cases hk : k = k'
        · subst hk
          rw [if_pos rfl] at h
          first
            | (cases h; done)
            | (simp only [Option.some.injEq, Prod.mk.injEq] at h; obtain ⟨rfl, rfl⟩ := h; refine ⟨_, ?_, rep_int _ _⟩; simp [binOp, Op.intArith]; done)
            | (simp only [Option.some.injEq, Prod.mk.injEq] at h; obtain ⟨rfl, rfl⟩ := h; refine ⟨_, ?_, rep_bool _⟩; simp [binOp, Op.intCmp]; done)
            | (simp only [Option.some.injEq, Prod.mk.injEq] at h; obtain ⟨rfl, rfl⟩ := h; refine ⟨_, ?_, rep_int _ _⟩; simp [binOp, Op.intBits]; done)
            | (simp only [Option.some.injEq, Prod.mk.injEq] at h; obtain ⟨rfl, rfl⟩ := h
               have h0 : n ≠ 0 := hps _ (by simp)
               refine ⟨_, ?_, rep_int _ _⟩; simp [binOp, Op.intDiv, h0]; done)
        · rw [if_neg hk] at h; cases h
    | _ => simp [binV] at h
  | str s =>
    cases y with
    | str s' =>
      have hu := hx.str; have hv := hy.str; subst hu; subst hv
      cases op <;> simp only [binV] at h <;> first
        | (cases h; done)
        | (simp only [Option.some.injEq, Prod.mk.injEq] at h
           obtain ⟨rfl, rfl⟩ := h
           first
             | (refine ⟨_, ?_, rep_bool _⟩; simp [binOp, Op.stringOp, toList_mk]; done)
             | (have h0 : s.length + s'.length ≤ 9223372036854775807 := hps _ (by simp)
                refine ⟨.string (⟨s.toArray⟩ ++ ⟨s'.toArray⟩), ?_, ?_⟩
                · simp only [binOp]
                  exact run_string_add_sum w _ _ (by simpa [ByteArray.size] using h0)
                · have he : ((⟨s.toArray⟩ : ByteArray) ++ ⟨s'.toArray⟩) = ⟨(s ++ s').toArray⟩ := by
                    apply ByteArray.ext; simp [ByteArray.data_append]
                  rw [he]; exact rep_str _))
    | _ => simp [binV] at h
  | bool b =>
    cases y with
    | bool b' =>
      have hu := hx.bool; have hv := hy.bool; subst hu; subst hv
      have ht := hb rfl
      cases op <;> simp only [binV] at h <;> first
        | (cases h; done)
        | (simp only [Option.some.injEq, Prod.mk.injEq] at h
           obtain ⟨rfl, rfl⟩ := h
           refine ⟨_, ?_, rep_bool _⟩; simp [binOp, run_equal_bool w t b b' ht])
    | _ => simp [binV] at h

end Go.Proofs.Ytcbehcpmojnnfaa.Bv
