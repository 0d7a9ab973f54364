/- Wals and cores: right or not. -/
import Derived.Test.YthkghdmpkdpnkaaCSum
namespace Go.Proofs.Ythkghdmpkdpnkaa.B
set_option linter.unusedVariables false
set_option linter.unusedSimpArgs false
open Go Go.Proofs.Ythkghdmpkdpnkaa.Bv

abbrev Ent := Int × List UInt8
abbrev Wal := Int × (Int × (Int × (Int × List Ent)))
abbrev Core := Int × (Int × (Int × (Int × (Int × (Int × (Int × (Int × (List Ent × (Int × (List Int × (List Int × List Int)))))))))))
def fIsTerm (n : Int) : Bool := fIn n 1 100000
def fIsVote (n : Int) : Bool := fIn n (-1) 4
def fPlace (i t : Int) : Bool := (decide (i = 0) && decide (t = 0)) || (fIn i 1 100000 && fIn t 1 100000)
def tmOf (l : List Ent) (low : Int) (i : Nat) : Int := if i = 0 then low else (l.getD (i - 1) (0, [])).1
def trAt (l : List Ent) (low high : Int) (i : Nat) : Bool := decide (1 ≤ (l.getD i (0, [])).1) && (fIn (l.getD i (0, [])).1 (tmOf l low i) high && decide ((l.getD i (0, [])).2.length ≤ 900))
def fTermsOk (l : List Ent) (low high : Int) : Bool := (List.range l.length).all (trAt l low high)
theorem tAll_yes {l : List Ent} {low high : Int} (h : ∀ j, j < l.length → trAt l low high j = true) : fTermsOk l low high = true := by
  simp only [fTermsOk, List.all_eq_true, List.mem_range]; exact h
theorem tAll_no {l : List Ent} {low high : Int} {j : Nat} (hj : j < l.length) (h : trAt l low high j = false) : fTermsOk l low high = false := by
  rw [Bool.eq_false_iff]; intro hh
  simp only [fTermsOk, List.all_eq_true, List.mem_range] at hh
  rw [hh j hj] at h; cases h
def fWalOk (w : Wal) : Bool := fIn w.1 0 100000 && (fIn w.2.1 (-1) 4 && (fPlace w.2.2.1 w.2.2.2.1 && (decide (w.2.2.2.1 ≤ w.1) && (decide (w.2.2.2.2.length ≤ 60) && (fTermsOk w.2.2.2.2 w.2.2.2.1 w.1 && decide (w.2.2.1 + w.2.2.2.2.length ≤ 100000))))))
def tkI (l : List Ent) (low0 high low i : Int) : Prop := 0 ≤ i ∧ i ≤ l.length ∧ low = tmOf l low0 i.toNat ∧ ∀ j, j < i.toNat → trAt l low0 high j = true
def tkM (l : List Ent) (low0 high low i : Int) : Nat := (l.length - i).toNat
def tsI (w : Wal) (last i : Int) (a0 a1 a2 a3 : Int) (a4 : List Ent) : Prop := ((a0, (a1, (a2, (a3, a4)))) : Wal) = w ∧ tkI w.2.2.2.2 w.2.2.2.1 w.1 last i
def tsM (w : Wal) (last i : Int) (a0 a1 a2 a3 : Int) (a4 : List Ent) : Nat := (w.2.2.2.2.length - i).toNat
def fWalOf (c : Core) : Wal := (c.2.2.1, (c.2.2.2.1, (c.2.2.2.2.2.2.1, (c.2.2.2.2.2.2.2.1, c.2.2.2.2.2.2.2.2.1))))
def fCoreLast (c : Core) : Int := IntKind.wrap .i64 (c.2.2.2.2.2.2.1 + (c.2.2.2.2.2.2.2.2.1.length : Int))
def fMaj (c : Core) (n : Int) : Bool := decide (IntKind.wrap .i64 (2 * n) > c.2.1)
def fIsPeer (c : Core) (n : Int) : Bool := fIn n 0 (IntKind.wrap .i64 (c.2.1 - 1))

theorem fPlace_in {i t : Int} (h : fPlace i t = true) : 0 ≤ i ∧ i ≤ 100000 := by
  simp [fPlace, fIn] at h; omega
def c_impl_isTerm : Con := { A := (.int .i64), shA := [.one], R := .bool, shR := [(false, 1)], pre := fun _ _ => True, f := some fun _ a => ((fIsTerm a), ((), ())) }
def impl_isTerm.F  (a0 : Int) : Prop := (True ∧ ∀ r1, (Eq r1 ((fIn a0 1 100000), ((), ()))) → (Eq (r1.1, ((), ())) ((fIsTerm a0), ((), ()))))

theorem impl_isTerm.pure  (a0 : Int) (h : True) (hw : Wf c_impl_isTerm.A a0) : impl_isTerm.F a0 := by
  unfold impl_isTerm.F
  simp only [forall_eq, true_and, and_true, caseB_iff, Prod.mk.injEq, decide_eq_true_eq, decide_eq_false_iff_not, Bool.not_eq_true', Bool.not_eq_false', bne_iff_ne, ne_eq, beq_iff_eq, Bool.not_true, Bool.not_false, beq_eq_false_iff_ne, bne_eq_false_iff_eq, List.length_append, List.length_cons, List.length_nil, List.append_nil, Nat.zero_add, decide_true, decide_false, eq_self_iff_true]
  repeat' (with_reducible (first | (refine And.intro ?_ ?_) | intro _))
  all_goals (try simp (disch := omega) only [w64, wu8, tn0, tn1, tm1, tm2, List.length_append, List.length_cons, List.length_nil] at *)
  all_goals (try simp (disch := omega) only [w64, wu8, tn0, tn1, tm1, tm2, List.length_append, List.length_cons, List.length_nil] at *)
  all_goals (try omega)
  all_goals (try grind [fIsTerm])

set_option maxRecDepth 100000 in
theorem impl_isTerm.eq : EqS c_impl_isTerm Try.f119 [4] [impl_from.e] [] noL (fun i x => impl_isTerm.F x) := by intro i x; kernel_rfl
theorem impl_isTerm.ok : ConOk Try.prog 119 c_impl_isTerm := okOf impl_isTerm.eq Try.func119 rfl (by kernel_rfl) fun i x h hi hw => impl_isTerm.pure x h hw
def impl_isTerm.e : GE := ⟨119, c_impl_isTerm, ⟨_, Try.func119, rfl, rfl⟩, impl_isTerm.ok⟩

def c_impl_isVote : Con := { A := (.int .i64), shA := [.one], R := .bool, shR := [(false, 1)], pre := fun _ _ => True, f := some fun _ a => ((fIsVote a), ((), ())) }
def impl_isVote.F  (a0 : Int) : Prop := (True ∧ ∀ r1, (Eq r1 ((fIn a0 (-1) 4), ((), ()))) → (Eq (r1.1, ((), ())) ((fIsVote a0), ((), ()))))

theorem impl_isVote.pure  (a0 : Int) (h : True) (hw : Wf c_impl_isVote.A a0) : impl_isVote.F a0 := by
  unfold impl_isVote.F
  simp only [forall_eq, true_and, and_true, caseB_iff, Prod.mk.injEq, decide_eq_true_eq, decide_eq_false_iff_not, Bool.not_eq_true', Bool.not_eq_false', bne_iff_ne, ne_eq, beq_iff_eq, Bool.not_true, Bool.not_false, beq_eq_false_iff_ne, bne_eq_false_iff_eq, List.length_append, List.length_cons, List.length_nil, List.append_nil, Nat.zero_add, decide_true, decide_false, eq_self_iff_true]
  repeat' (with_reducible (first | (refine And.intro ?_ ?_) | intro _))
  all_goals (try simp (disch := omega) only [w64, wu8, tn0, tn1, tm1, tm2, List.length_append, List.length_cons, List.length_nil] at *)
  all_goals (try simp (disch := omega) only [w64, wu8, tn0, tn1, tm1, tm2, List.length_append, List.length_cons, List.length_nil] at *)
  all_goals (try omega)
  all_goals (try grind [fIsVote])

set_option maxRecDepth 100000 in
theorem impl_isVote.eq : EqS c_impl_isVote Try.f94 [4] [impl_from.e] [] noL (fun i x => impl_isVote.F x) := by intro i x; kernel_rfl
theorem impl_isVote.ok : ConOk Try.prog 94 c_impl_isVote := okOf impl_isVote.eq Try.func94 rfl (by kernel_rfl) fun i x h hi hw => impl_isVote.pure x h hw
def impl_isVote.e : GE := ⟨94, c_impl_isVote, ⟨_, Try.func94, rfl, rfl⟩, impl_isVote.ok⟩

def c_impl_isPlace : Con := { A := (.pair (.int .i64) (.int .i64)), shA := [.one, .one], R := .bool, shR := [(false, 1)], pre := fun _ _ => True, f := some fun _ a => ((fPlace a.1 a.2), ((), ())) }
def impl_isPlace.F  (a0 : Int) (a1 : Int) : Prop := (caseB (a0 == (0 : Int)) (caseB (a1 == (0 : Int)) (Eq (true, ((), ())) ((fPlace a0 a1), ((), ()))) (True ∧ ∀ r1, (Eq r1 ((fIn a0 1 100000), ((), ()))) → (caseB r1.1 (True ∧ ∀ r2, (Eq r2 ((fIsTerm a1), ((), ()))) → (Eq (r2.1, ((), ())) ((fPlace a0 a1), ((), ())))) (Eq (false, ((), ())) ((fPlace a0 a1), ((), ())))))) (True ∧ ∀ r3, (Eq r3 ((fIn a0 1 100000), ((), ()))) → (caseB r3.1 (True ∧ ∀ r4, (Eq r4 ((fIsTerm a1), ((), ()))) → (Eq (r4.1, ((), ())) ((fPlace a0 a1), ((), ())))) (Eq (false, ((), ())) ((fPlace a0 a1), ((), ()))))))

theorem impl_isPlace.pure  (a0 : Int) (a1 : Int) (h : True) (hw : Wf c_impl_isPlace.A (a0, a1)) : impl_isPlace.F a0 a1 := by
  unfold impl_isPlace.F
  simp only [forall_eq, true_and, and_true, caseB_iff, Prod.mk.injEq, decide_eq_true_eq, decide_eq_false_iff_not, Bool.not_eq_true', Bool.not_eq_false', bne_iff_ne, ne_eq, beq_iff_eq, Bool.not_true, Bool.not_false, beq_eq_false_iff_ne, bne_eq_false_iff_eq, List.length_append, List.length_cons, List.length_nil, List.append_nil, Nat.zero_add, decide_true, decide_false, eq_self_iff_true, fIsTerm]
  repeat' (with_reducible (first | (refine And.intro ?_ ?_) | intro _))
  all_goals (try simp (disch := omega) only [w64, wu8, tn0, tn1, tm1, tm2, List.length_append, List.length_cons, List.length_nil] at *)
  all_goals (try simp (disch := omega) only [w64, wu8, tn0, tn1, tm1, tm2, List.length_append, List.length_cons, List.length_nil] at *)
  all_goals (try omega)
  all_goals (try grind [fPlace])

set_option maxRecDepth 100000 in
theorem impl_isPlace.eq : EqS c_impl_isPlace Try.f95 [4] [impl_from.e, impl_isTerm.e] [] noL (fun i x => impl_isPlace.F x.1 x.2) := by intro i x; kernel_rfl
theorem impl_isPlace.ok : ConOk Try.prog 95 c_impl_isPlace := okOf impl_isPlace.eq Try.func95 rfl (by kernel_rfl) fun i x h hi hw => impl_isPlace.pure x.1 x.2 h hw
def impl_isPlace.e : GE := ⟨95, c_impl_isPlace, ⟨_, Try.func95, rfl, rfl⟩, impl_isPlace.ok⟩

def c_spec_l5Based : Con := { A := (.pair (.int .i64) (.int .i64)), shA := [.one, .one], R := .bool, shR := [(false, 1)], pre := fun _ _ => True, f := some fun _ a => ((fPlace a.1 a.2), ((), ())) }
def spec_l5Based.F  (a0 : Int) (a1 : Int) : Prop := (caseB (a0 == (0 : Int)) (Eq ((a1 == (0 : Int)), ((), ())) ((fPlace a0 a1), ((), ()))) (True ∧ ∀ r1, (Eq r1 ((fIn a0 1 100000), ((), ()))) → (caseB r1.1 (True ∧ ∀ r2, (Eq r2 ((fIn a1 1 100000), ((), ()))) → (Eq (r2.1, ((), ())) ((fPlace a0 a1), ((), ())))) (Eq (false, ((), ())) ((fPlace a0 a1), ((), ()))))))

theorem spec_l5Based.pure  (a0 : Int) (a1 : Int) (h : True) (hw : Wf c_spec_l5Based.A (a0, a1)) : spec_l5Based.F a0 a1 := by
  unfold spec_l5Based.F
  simp only [forall_eq, true_and, and_true, caseB_iff, Prod.mk.injEq, decide_eq_true_eq, decide_eq_false_iff_not, Bool.not_eq_true', Bool.not_eq_false', bne_iff_ne, ne_eq, beq_iff_eq, Bool.not_true, Bool.not_false, beq_eq_false_iff_ne, bne_eq_false_iff_eq, List.length_append, List.length_cons, List.length_nil, List.append_nil, Nat.zero_add, decide_true, decide_false, eq_self_iff_true]
  repeat' (with_reducible (first | (refine And.intro ?_ ?_) | intro _))
  all_goals (try simp (disch := omega) only [w64, wu8, tn0, tn1, tm1, tm2, List.length_append, List.length_cons, List.length_nil] at *)
  all_goals (try simp (disch := omega) only [w64, wu8, tn0, tn1, tm1, tm2, List.length_append, List.length_cons, List.length_nil] at *)
  all_goals (try omega)
  all_goals (try grind [fPlace, fIn_iff])

set_option maxRecDepth 100000 in
theorem spec_l5Based.eq : EqS c_spec_l5Based Try.f92 [4] [spec_l1In.e] [] noL (fun i x => spec_l5Based.F x.1 x.2) := by intro i x; kernel_rfl
theorem spec_l5Based.ok : ConOk Try.prog 92 c_spec_l5Based := okOf spec_l5Based.eq Try.func92 rfl (by kernel_rfl) fun i x h hi hw => spec_l5Based.pure x.1 x.2 h hw
def spec_l5Based.e : GE := ⟨92, c_spec_l5Based, ⟨_, Try.func92, rfl, rfl⟩, spec_l5Based.ok⟩

def c_impl_termsOk : Con := { A := (.pair (.list (.pair (.int .i64) .str)) (.pair (.int .i64) (.int .i64))), shA := [.one, .one, .one], R := .bool, shR := [(false, 1)], pre := fun _ _ => True, f := some fun _ a => ((fTermsOk a.1 a.2.1 a.2.2), ((), ())) }
def impl_termsOk.F  (a0 : (List (Int × (List UInt8)))) (a1 : Int) (a2 : Int) : Prop := (eS [(2, .val false [.int .i64 a2]), (9, .val false [.lst (.pair (.int .i64) .str) a0 none]), (10, .val false [.int .i64 (ln a0)])] [(2, .val false [.int .i64 a2]), (9, .val false [.lst (.pair (.int .i64) .str) a0 none]), (10, .val false [.int .i64 (ln a0)])] ∧ ((tkI a0 a1 a2 a1 0) ∧ ∀ (y1 : (Int × Int)), (tkI a0 a1 a2 y1.1 y1.2) → (caseB (decide (y1.2 < (ln a0))) (0 ≤ y1.2 ∧ (y1.2 < (ln a0) ∧ (caseB (decide (((List.getD a0 (tN y1.2) (0, [])).1) < (1 : Int))) (Eq (false, ((), ())) ((fTermsOk a0 a1 a2), ((), ()))) (True ∧ ∀ r2, (Eq r2 ((fIn ((List.getD a0 (tN y1.2) (0, [])).1) y1.1 a2), ((), ()))) → (caseB (!r2.1) (Eq (false, ((), ())) ((fTermsOk a0 a1 a2), ((), ()))) (caseB (decide ((ln ((List.getD a0 (tN y1.2) (0, [])).2)) > (900 : Int))) (Eq (false, ((), ())) ((fTermsOk a0 a1 a2), ((), ()))) (eS [(2, .val false [.int .i64 a2]), (9, .val false [.lst (.pair (.int .i64) .str) a0 none]), (10, .val false [.int .i64 (ln a0)])] [(2, .val false [.int .i64 a2]), (9, .val false [.lst (.pair (.int .i64) .str) a0 none]), (10, .val false [.int .i64 (ln a0)])] ∧ (tkI a0 a1 a2 ((List.getD a0 (tN y1.2) (0, [])).1) (wI (y1.2 + (1 : Int)))) ∧ (tkM a0 a1 a2 ((List.getD a0 (tN y1.2) (0, [])).1) (wI (y1.2 + (1 : Int)))) < (tkM a0 a1 a2 y1.1 y1.2)))))))) (Eq (true, ((), ())) ((fTermsOk a0 a1 a2), ((), ()))))))
def impl_termsOk.L  (a0 : (List (Int × (List UInt8)))) (a1 : Int) (a2 : Int) : Nat → Option LoopAnn := fun p => Go.Proofs.Ythkghdmpkdpnkaa.Bv.look p [(26, { kp := { hold := [2, 9, 10], slots := [1, 11], boxes := [], rows := [] }, T := (.pair (.int .i64) (.int .i64)), I := fun st y => tkI a0 a1 a2 y.1 y.2, μ := fun st y => tkM a0 a1 a2 y.1 y.2 })]

theorem impl_termsOk.pure  (a0 : (List (Int × (List UInt8)))) (a1 : Int) (a2 : Int) (h : True) (hw : Wf c_impl_termsOk.A (a0, a1, a2)) : impl_termsOk.F a0 a1 a2 := by
  delta impl_termsOk.F ln tN wI eS
  have hw1 : a0.length ≤ 9223372036854775807 := hw.1.1
  simp only [forall_eq, true_and, and_true, caseB_iff, Prod.mk.injEq, decide_eq_true_eq, decide_eq_false_iff_not, Bool.not_eq_true', Bool.not_eq_false', bne_iff_ne, ne_eq, beq_iff_eq, Bool.not_true, Bool.not_false, beq_eq_false_iff_ne, bne_eq_false_iff_eq, List.length_append, List.length_cons, List.length_nil, List.append_nil, Nat.zero_add, decide_true, decide_false, eq_self_iff_true, tkI, tkM, fIn_iff, fIn_no]
  repeat' (with_reducible (first | (refine And.intro ?_ ?_) | intro _))
  all_goals (try simp (disch := omega) only [w64, wu8, tn0, tn1, tm1, tm2, List.length_append, List.length_cons, List.length_nil] at *)
  all_goals (try simp (disch := omega) only [w64, wu8, tn0, tn1, tm1, tm2, List.length_append, List.length_cons, List.length_nil] at *)
  all_goals (try omega)
  all_goals (try grind [tAll_yes, tAll_no, trAt, tmOf, fIn_iff])

set_option maxRecDepth 100000 in
theorem impl_termsOk.eq : EqS c_impl_termsOk Try.f96 [4] [impl_from.e] [] (fun i x => impl_termsOk.L x.1 x.2.1 x.2.2) (fun i x => impl_termsOk.F x.1 x.2.1 x.2.2) := by intro i x; kernel_rfl
theorem impl_termsOk.ok : ConOk Try.prog 96 c_impl_termsOk := okOf impl_termsOk.eq Try.func96 rfl (by kernel_rfl) fun i x h hi hw => impl_termsOk.pure x.1 x.2.1 x.2.2 h hw
def impl_termsOk.e : GE := ⟨96, c_impl_termsOk, ⟨_, Try.func96, rfl, rfl⟩, impl_termsOk.ok⟩

def c_impl_WalOk : Con := { A := (.pair (.int .i64) (.pair (.int .i64) (.pair (.int .i64) (.pair (.int .i64) (.list (.pair (.int .i64) .str)))))), shA := [.agg 5], R := .bool, shR := [(false, 1)], pre := fun _ _ => True, f := some fun _ a => ((fWalOk a), ((), ())) }
def impl_WalOk.F  (a0 : (Int × (Int × (Int × (Int × (List (Int × (List UInt8)))))))) : Prop := (True ∧ ∀ r1, (Eq r1 ((fIn a0.1 0 100000), ((), ()))) → (caseB r1.1 (True ∧ ∀ r2, (Eq r2 ((fIsVote a0.2.1), ((), ()))) → (caseB r2.1 (True ∧ ∀ r3, (Eq r3 ((fPlace a0.2.2.1 a0.2.2.2.1), ((), ()))) → (caseB r3.1 (caseB (decide (a0.2.2.2.1 ≤ a0.1)) (caseB (decide ((ln a0.2.2.2.2) ≤ (60 : Int))) (True ∧ ∀ r4, (Eq r4 ((fTermsOk a0.2.2.2.2 a0.2.2.2.1 a0.1), ((), ()))) → (caseB r4.1 (Eq ((decide ((wI (a0.2.2.1 + (ln a0.2.2.2.2))) ≤ (100000 : Int))), ((), ())) ((fWalOk a0), ((), ()))) (Eq (false, ((), ())) ((fWalOk a0), ((), ()))))) (Eq (false, ((), ())) ((fWalOk a0), ((), ())))) (Eq (false, ((), ())) ((fWalOk a0), ((), ())))) (Eq (false, ((), ())) ((fWalOk a0), ((), ()))))) (Eq (false, ((), ())) ((fWalOk a0), ((), ()))))) (Eq (false, ((), ())) ((fWalOk a0), ((), ())))))

theorem impl_WalOk.pure  (a0 : (Int × (Int × (Int × (Int × (List (Int × (List UInt8)))))))) (h : True) (hw : Wf c_impl_WalOk.A a0) : impl_WalOk.F a0 := by
  delta impl_WalOk.F ln wI
  have hB : fPlace a0.2.2.1 a0.2.2.2.1 = true → (a0.2.2.2.2.length : Int) ≤ 60 → IntKind.wrap .i64 (a0.2.2.1 + (a0.2.2.2.2.length : Int)) = a0.2.2.1 + (a0.2.2.2.2.length : Int) := fun h1 h2 => by
    have := fPlace_in h1
    exact w64 (by omega) (by omega)
  simp only [forall_eq, true_and, and_true, caseB_iff, Prod.mk.injEq, decide_eq_true_eq, decide_eq_false_iff_not, Bool.not_eq_true', Bool.not_eq_false', bne_iff_ne, ne_eq, beq_iff_eq, Bool.not_true, Bool.not_false, beq_eq_false_iff_ne, bne_eq_false_iff_eq, List.length_append, List.length_cons, List.length_nil, List.append_nil, Nat.zero_add, decide_true, decide_false, eq_self_iff_true, fIsVote]
  repeat' (with_reducible (first | (refine And.intro ?_ ?_) | intro _))
  all_goals (try simp (disch := omega) only [w64, wu8, tn0, tn1, tm1, tm2, List.length_append, List.length_cons, List.length_nil] at *)
  all_goals (try simp (disch := omega) only [w64, wu8, tn0, tn1, tm1, tm2, List.length_append, List.length_cons, List.length_nil] at *)
  all_goals (try omega)
  all_goals (try grind [fWalOk, fPlace, fIn_iff])

set_option maxRecDepth 100000 in
theorem impl_WalOk.eq : EqS c_impl_WalOk Try.f59 [4] [impl_from.e, impl_isVote.e, impl_isPlace.e, impl_termsOk.e] [] noL (fun i x => impl_WalOk.F x) := by intro i x; kernel_rfl
theorem impl_WalOk.ok : ConOk Try.prog 59 c_impl_WalOk := okOf impl_WalOk.eq Try.func59 rfl (by kernel_rfl) fun i x h hi hw => impl_WalOk.pure x h hw
def impl_WalOk.e : GE := ⟨59, c_impl_WalOk, ⟨_, Try.func59, rfl, rfl⟩, impl_WalOk.ok⟩

def c_spec_WalOk : Con := { A := (.pair (.int .i64) (.pair (.int .i64) (.pair (.int .i64) (.pair (.int .i64) (.list (.pair (.int .i64) .str)))))), shA := [.agg 5], R := .bool, shR := [(false, 1)], pre := fun _ _ => True, f := some fun _ a => ((fWalOk a), ((), ())) }
def spec_WalOk.F  (a0 : (Int × (Int × (Int × (Int × (List (Int × (List UInt8)))))))) : Prop := (True ∧ ∀ r1, (Eq r1 ((fIn a0.1 0 100000), ((), ()))) → (caseB (!r1.1) (Eq (false, ((), ())) ((fWalOk a0), ((), ()))) (True ∧ ∀ r2, (Eq r2 ((fIn a0.2.1 (-1) 4), ((), ()))) → (caseB (!r2.1) (Eq (false, ((), ())) ((fWalOk a0), ((), ()))) (True ∧ ∀ r3, (Eq r3 ((fPlace a0.2.2.1 a0.2.2.2.1), ((), ()))) → (caseB (!r3.1) (Eq (false, ((), ())) ((fWalOk a0), ((), ()))) (caseB (decide (a0.2.2.2.1 > a0.1)) (Eq (false, ((), ())) ((fWalOk a0), ((), ()))) (caseB (decide ((ln a0.2.2.2.2) > (60 : Int))) (Eq (false, ((), ())) ((fWalOk a0), ((), ()))) (caseB (decide ((wI (a0.2.2.1 + (ln a0.2.2.2.2))) > (100000 : Int))) (Eq (false, ((), ())) ((fWalOk a0), ((), ()))) (eS [(1, .box 2 0)] [(1, .box 2 0)] ∧ ((tsI a0 a0.2.2.2.1 0 a0.1 a0.2.1 a0.2.2.1 a0.2.2.2.1 a0.2.2.2.2) ∧ ∀ (y4 : (Int × (Int × (Int × (Int × (Int × (Int × (List (Int × (List UInt8)))))))))), (tsI a0 y4.1 y4.2.1 y4.2.2.1 y4.2.2.2.1 y4.2.2.2.2.1 y4.2.2.2.2.2.1 y4.2.2.2.2.2.2) → (caseB (decide (y4.2.1 < (ln y4.2.2.2.2.2.2))) (0 ≤ y4.2.1 ∧ (y4.2.1 < (ln y4.2.2.2.2.2.2) ∧ (caseB (decide (((List.getD y4.2.2.2.2.2.2 (tN y4.2.1) (0, [])).1) < (1 : Int))) (Eq (false, ((), ())) ((fWalOk a0), ((), ()))) (caseB (decide (((List.getD y4.2.2.2.2.2.2 (tN y4.2.1) (0, [])).1) < y4.1)) (Eq (false, ((), ())) ((fWalOk a0), ((), ()))) (caseB (decide (((List.getD y4.2.2.2.2.2.2 (tN y4.2.1) (0, [])).1) > y4.2.2.1)) (Eq (false, ((), ())) ((fWalOk a0), ((), ()))) (caseB (decide ((ln ((List.getD y4.2.2.2.2.2.2 (tN y4.2.1) (0, [])).2)) > (900 : Int))) (Eq (false, ((), ())) ((fWalOk a0), ((), ()))) (eS [(1, .box 2 0)] [(1, .box 2 0)] ∧ (tsI a0 ((List.getD y4.2.2.2.2.2.2 (tN y4.2.1) (0, [])).1) (wI (y4.2.1 + (1 : Int))) y4.2.2.1 y4.2.2.2.1 y4.2.2.2.2.1 y4.2.2.2.2.2.1 y4.2.2.2.2.2.2) ∧ (tsM a0 ((List.getD y4.2.2.2.2.2.2 (tN y4.2.1) (0, [])).1) (wI (y4.2.1 + (1 : Int))) y4.2.2.1 y4.2.2.2.1 y4.2.2.2.2.1 y4.2.2.2.2.2.1 y4.2.2.2.2.2.2) < (tsM a0 y4.1 y4.2.1 y4.2.2.1 y4.2.2.2.1 y4.2.2.2.2.1 y4.2.2.2.2.2.1 y4.2.2.2.2.2.2)))))))) (Eq (true, ((), ())) ((fWalOk a0), ((), ())))))))))))))))
def spec_WalOk.L  (a0 : (Int × (Int × (Int × (Int × (List (Int × (List UInt8)))))))) : Nat → Option LoopAnn := fun p => Go.Proofs.Ythkghdmpkdpnkaa.Bv.look p [(122, { kp := { hold := [1], slots := [3, 4], boxes := [2], rows := [] }, T := (.pair (.int .i64) (.pair (.int .i64) (.pair (.int .i64) (.pair (.int .i64) (.pair (.int .i64) (.pair (.int .i64) (.list (.pair (.int .i64) .str)))))))), I := fun st y => tsI a0 y.1 y.2.1 y.2.2.1 y.2.2.2.1 y.2.2.2.2.1 y.2.2.2.2.2.1 y.2.2.2.2.2.2, μ := fun st y => tsM a0 y.1 y.2.1 y.2.2.1 y.2.2.2.1 y.2.2.2.2.1 y.2.2.2.2.2.1 y.2.2.2.2.2.2 })]

theorem spec_WalOk.pure  (a0 : (Int × (Int × (Int × (Int × (List (Int × (List UInt8)))))))) (h : True) (hw : Wf c_spec_WalOk.A a0) : spec_WalOk.F a0 := by
  delta spec_WalOk.F ln tN wI eS
  have hB : fPlace a0.2.2.1 a0.2.2.2.1 = true → (a0.2.2.2.2.length : Int) ≤ 60 → IntKind.wrap .i64 (a0.2.2.1 + (a0.2.2.2.2.length : Int)) = a0.2.2.1 + (a0.2.2.2.2.length : Int) := fun h1 h2 => by
    have := fPlace_in h1
    exact w64 (by omega) (by omega)
  simp only [forall_eq, true_and, and_true, caseB_iff, Prod.mk.injEq, decide_eq_true_eq, decide_eq_false_iff_not, Bool.not_eq_true', Bool.not_eq_false', bne_iff_ne, ne_eq, beq_iff_eq, Bool.not_true, Bool.not_false, beq_eq_false_iff_ne, bne_eq_false_iff_eq, List.length_append, List.length_cons, List.length_nil, List.append_nil, Nat.zero_add, decide_true, decide_false, eq_self_iff_true, tsI, tsM, tkI, Prod.eta]
  repeat' (with_reducible (first | (refine And.intro ?_ ?_) | intro _))
  all_goals (try simp (disch := omega) only [w64, wu8, tn0, tn1, tm1, tm2, List.length_append, List.length_cons, List.length_nil] at *)
  all_goals (try simp (disch := omega) only [w64, wu8, tn0, tn1, tm1, tm2, List.length_append, List.length_cons, List.length_nil] at *)
  all_goals (try omega)
  all_goals (try grind [fWalOk, tAll_yes, tAll_no, trAt, tmOf, fPlace, fIn_iff])

set_option maxRecDepth 100000 in
theorem spec_WalOk.eq : EqS c_spec_WalOk Try.f51 [4] [spec_l1In.e, spec_l5Based.e] [] (fun i x => spec_WalOk.L x) (fun i x => spec_WalOk.F x) := by intro i x; kernel_rfl
theorem spec_WalOk.ok : ConOk Try.prog 51 c_spec_WalOk := okOf spec_WalOk.eq Try.func51 rfl (by kernel_rfl) fun i x h hi hw => spec_WalOk.pure x h hw
def spec_WalOk.e : GE := ⟨51, c_spec_WalOk, ⟨_, Try.func51, rfl, rfl⟩, spec_WalOk.ok⟩

def fIdx (l : List Int) (x : Int) : Int := match (List.range l.length).find? (fun j => l.getD j 0 == x) with
  | some j => (j : Int)
  | none => -1
theorem idx_some {l : List Int} {x : Int} {j : Nat} (hj : j < l.length) (h : x = l.getD j 0) (hn : ∀ i, i < j → l.getD i 0 ≠ x) : fIdx l x = (j : Int) := by
  unfold fIdx
  have e : (List.range l.length).find? (fun j => l.getD j 0 == x) = some j := (List.find?_range_eq_some (p := fun j => l.getD j 0 == x)).2 ⟨by rw [h]; exact beq_self_eq_true _, by simpa using hj, fun i hi => by simpa using hn i hi⟩
  rw [e]
theorem idx_none {l : List Int} {x : Int} (hn : ∀ i, i < l.length → l.getD i 0 ≠ x) : fIdx l x = -1 := by
  unfold fIdx
  rw [List.find?_eq_none.2 fun i hi => by simpa using hn i (by simpa using hi)]
def fHas (l : List Int) (x : Int) : Bool := decide (fIdx l x ≥ 0)
theorem has_at {l : List Int} {x : Int} {j : Nat} (hj : j < l.length) (h : l.getD j 0 = x) (hn : ∀ i, i < j → l.getD i 0 ≠ x) : fHas l x = true := by
  unfold fHas; rw [idx_some hj h.symm hn, decide_eq_true (by omega)]
theorem has_no {l : List Int} {x : Int} (hn : ∀ i, i < l.length → l.getD i 0 ≠ x) : fHas l x = false := by
  unfold fHas; rw [idx_none hn]; rfl
def hasI (l : List Int) (x i : Int) : Prop := 0 ≤ i ∧ i ≤ l.length ∧ ∀ j, j < i.toNat → l.getD j 0 ≠ x
def hasM (l : List Int) (x i : Int) : Nat := (l.length - i).toNat
def skAt (c : Core) (j : Nat) : Bool := fIn (c.2.2.2.2.2.2.2.2.2.2.1.getD j 0) 0 (IntKind.wrap .i64 (c.2.1 - 1)) && (decide (j = 0) || decide (c.2.2.2.2.2.2.2.2.2.2.1.getD (j - 1) 0 < c.2.2.2.2.2.2.2.2.2.2.1.getD j 0))
def fSeek (c : Core) : Bool := (List.range c.2.2.2.2.2.2.2.2.2.2.1.length).all (skAt c) && (fHas c.2.2.2.2.2.2.2.2.2.2.1 c.1 && !decide (IntKind.wrap .i64 (2 * (c.2.2.2.2.2.2.2.2.2.2.1.length : Int)) > c.2.1))
def skI (c : Core) (i : Int) (a0 a1 a2 a3 a4 a5 a6 a7 : Int) (a8 : List Ent) (a9 : Int) (a10 a11 a12 : List Int) : Prop := (((a0, (a1, (a2, (a3, (a4, (a5, (a6, (a7, (a8, (a9, (a10, (a11, a12)))))))))))) : Core) = c) ∧ 0 ≤ i ∧ i ≤ c.2.2.2.2.2.2.2.2.2.2.1.length ∧ ∀ j, j < i.toNat → skAt c j = true
def skM (c : Core) (i : Int) (a0 a1 a2 a3 a4 a5 a6 a7 : Int) (a8 : List Ent) (a9 : Int) (a10 a11 a12 : List Int) : Nat := (c.2.2.2.2.2.2.2.2.2.2.1.length - i).toNat
def ldAt (c : Core) (j : Nat) : Bool := decide (0 ≤ c.2.2.2.2.2.2.2.2.2.2.2.2.getD j 0) && (decide (c.2.2.2.2.2.2.2.2.2.2.2.2.getD j 0 < c.2.2.2.2.2.2.2.2.2.2.2.1.getD j 0) && decide (c.2.2.2.2.2.2.2.2.2.2.2.1.getD j 0 ≤ IntKind.wrap .i64 (fCoreLast c + 1)))
def fLead (c : Core) : Bool := decide ((c.2.2.2.2.2.2.2.2.2.2.2.1.length : Int) = c.2.1) && (decide ((c.2.2.2.2.2.2.2.2.2.2.2.2.length : Int) = c.2.1) && ((List.range c.2.2.2.2.2.2.2.2.2.2.2.1.length).all (ldAt c) && decide (c.2.2.2.2.2.2.2.2.2.2.2.2.getD c.1.toNat 0 = fCoreLast c)))
def pCore (c : Core) : Prop := c.2.2.2.2.2.2.2.2.1.length ≤ 1099511627776 ∧ c.2.2.2.2.2.2.2.2.2.2.1.length ≤ 1099511627776 ∧ c.2.2.2.2.2.2.2.2.2.2.2.1.length ≤ 1099511627776 ∧ c.2.2.2.2.2.2.2.2.2.2.2.2.length ≤ 1099511627776
def pLead (c : Core) : Prop := pCore c ∧ 0 ≤ c.1 ∧ c.1 < c.2.1
def ldI (c : Core) (i : Int) (a0 a1 a2 a3 a4 a5 a6 a7 : Int) (a8 : List Ent) (a9 : Int) (a10 a11 a12 : List Int) : Prop := (((a0, (a1, (a2, (a3, (a4, (a5, (a6, (a7, (a8, (a9, (a10, (a11, a12)))))))))))) : Core) = c) ∧ 0 ≤ i ∧ i ≤ c.2.2.2.2.2.2.2.2.2.2.2.1.length ∧ ∀ j, j < i.toNat → ldAt c j = true
def ldM (c : Core) (i : Int) (a0 a1 a2 a3 a4 a5 a6 a7 : Int) (a8 : List Ent) (a9 : Int) (a10 a11 a12 : List Int) : Nat := (c.2.2.2.2.2.2.2.2.2.2.2.1.length - i).toNat
theorem all_y {p : Nat → Bool} {n : Nat} (h : ∀ j, j < n → p j = true) : (List.range n).all p = true := by
  simp only [List.all_eq_true, List.mem_range]; exact h
theorem all_n {p : Nat → Bool} {n j : Nat} (hj : j < n) (h : p j = false) : (List.range n).all p = false := by
  rw [Bool.eq_false_iff]; intro hh
  simp only [List.all_eq_true, List.mem_range] at hh
  rw [hh j hj] at h; cases h
def fCloneE (l : List Ent) : List Ent := l
def c_slices_Index_int_int : Con := { A := (.pair (.list (.int .i64)) (.int .i64)), shA := [.one, .one], R := (.int .i64), shR := [(false, 1)], pre := fun _ _ => True, f := some fun _ a => ((fIdx a.1 a.2), ((), ())) }
def slices_Index_int_int.F  (a0 : (List Int)) (a1 : Int) : Prop := (eS [(0, .val false [.lst (.int .i64) a0 none]), (1, .val false [.int .i64 a1]), (7, .val false [.int .i64 (ln a0)])] [(0, .val false [.lst (.int .i64) a0 none]), (1, .val false [.int .i64 a1]), (7, .val false [.int .i64 (ln a0)])] ∧ ((hasI a0 a1 0) ∧ ∀ (y1 : Int), (hasI a0 a1 y1) → (caseB (decide (y1 < (ln a0))) (0 ≤ y1 ∧ (y1 < (ln a0) ∧ (caseB (a1 == (List.getD a0 (tN y1) 0)) (Eq (y1, ((), ())) ((fIdx a0 a1), ((), ()))) (eS [(0, .val false [.lst (.int .i64) a0 none]), (1, .val false [.int .i64 a1]), (7, .val false [.int .i64 (ln a0)])] [(0, .val false [.lst (.int .i64) a0 none]), (1, .val false [.int .i64 a1]), (7, .val false [.int .i64 (ln a0)])] ∧ (hasI a0 a1 (wI (y1 + (1 : Int)))) ∧ (hasM a0 a1 (wI (y1 + (1 : Int)))) < (hasM a0 a1 y1))))) (Eq ((-1), ((), ())) ((fIdx a0 a1), ((), ()))))))
def slices_Index_int_int.L  (a0 : (List Int)) (a1 : Int) : Nat → Option LoopAnn := fun p => Go.Proofs.Ythkghdmpkdpnkaa.Bv.look p [(26, { kp := { hold := [0, 1, 7], slots := [8], boxes := [], rows := [] }, T := (.int .i64), I := fun st y => hasI a0 a1 y, μ := fun st y => hasM a0 a1 y })]

theorem slices_Index_int_int.pure  (a0 : (List Int)) (a1 : Int) (h : True) (hw : Wf c_slices_Index_int_int.A (a0, a1)) : slices_Index_int_int.F a0 a1 := by
  delta slices_Index_int_int.F ln tN wI eS
  have hw1 : a0.length ≤ 9223372036854775807 := hw.1.1
  simp only [forall_eq, true_and, and_true, caseB_iff, Prod.mk.injEq, decide_eq_true_eq, decide_eq_false_iff_not, Bool.not_eq_true', Bool.not_eq_false', bne_iff_ne, ne_eq, beq_iff_eq, Bool.not_true, Bool.not_false, beq_eq_false_iff_ne, bne_eq_false_iff_eq, List.length_append, List.length_cons, List.length_nil, List.append_nil, Nat.zero_add, decide_true, decide_false, eq_self_iff_true, hasI, hasM]
  repeat' (with_reducible (first | (refine And.intro ?_ ?_) | intro _))
  all_goals (try simp (disch := omega) only [w64, wu8, tn0, tn1, tm1, tm2, List.length_append, List.length_cons, List.length_nil] at *)
  all_goals (try simp (disch := omega) only [w64, wu8, tn0, tn1, tm1, tm2, List.length_append, List.length_cons, List.length_nil] at *)
  all_goals (try omega)
  all_goals (try grind [idx_some, idx_none])

set_option maxRecDepth 100000 in
theorem slices_Index_int_int.eq : EqS c_slices_Index_int_int Try.f120 [3] [] [] (fun i x => slices_Index_int_int.L x.1 x.2) (fun i x => slices_Index_int_int.F x.1 x.2) := by intro i x; kernel_rfl
theorem slices_Index_int_int.ok : ConOk Try.prog 120 c_slices_Index_int_int := okOf slices_Index_int_int.eq Try.func120 rfl (by kernel_rfl) fun i x h hi hw => slices_Index_int_int.pure x.1 x.2 h hw
def slices_Index_int_int.e : GE := ⟨120, c_slices_Index_int_int, ⟨_, Try.func120, rfl, rfl⟩, slices_Index_int_int.ok⟩

def c_slices_Contains_int_int : Con := { A := (.pair (.list (.int .i64)) (.int .i64)), shA := [.one, .one], R := .bool, shR := [(false, 1)], pre := fun _ _ => True, f := some fun _ a => ((fHas a.1 a.2), ((), ())) }
def slices_Contains_int_int.F  (a0 : (List Int)) (a1 : Int) : Prop := (True ∧ ∀ r1, (Eq r1 ((fIdx a0 a1), ((), ()))) → (Eq ((decide (r1.1 ≥ (0 : Int))), ((), ())) ((fHas a0 a1), ((), ()))))

theorem slices_Contains_int_int.pure  (a0 : (List Int)) (a1 : Int) (h : True) (hw : Wf c_slices_Contains_int_int.A (a0, a1)) : slices_Contains_int_int.F a0 a1 := by
  unfold slices_Contains_int_int.F
  simp only [forall_eq, true_and, and_true, caseB_iff, Prod.mk.injEq, decide_eq_true_eq, decide_eq_false_iff_not, Bool.not_eq_true', Bool.not_eq_false', bne_iff_ne, ne_eq, beq_iff_eq, Bool.not_true, Bool.not_false, beq_eq_false_iff_ne, bne_eq_false_iff_eq, List.length_append, List.length_cons, List.length_nil, List.append_nil, Nat.zero_add, decide_true, decide_false, eq_self_iff_true]
  repeat' (with_reducible (first | (refine And.intro ?_ ?_) | intro _))
  all_goals (try simp (disch := omega) only [w64, wu8, tn0, tn1, tm1, tm2, List.length_append, List.length_cons, List.length_nil] at *)
  all_goals (try simp (disch := omega) only [w64, wu8, tn0, tn1, tm1, tm2, List.length_append, List.length_cons, List.length_nil] at *)
  all_goals (try omega)
  all_goals (try grind [fHas])

set_option maxRecDepth 100000 in
theorem slices_Contains_int_int.eq : EqS c_slices_Contains_int_int Try.f97 [4] [slices_Index_int_int.e] [] noL (fun i x => slices_Contains_int_int.F x.1 x.2) := by intro i x; kernel_rfl
theorem slices_Contains_int_int.ok : ConOk Try.prog 97 c_slices_Contains_int_int := okOf slices_Contains_int_int.eq Try.func97 rfl (by kernel_rfl) fun i x h hi hw => slices_Contains_int_int.pure x.1 x.2 h hw
def slices_Contains_int_int.e : GE := ⟨97, c_slices_Contains_int_int, ⟨_, Try.func97, rfl, rfl⟩, slices_Contains_int_int.ok⟩

def c_spec_l16In : Con := { A := (.pair (.list (.int .i64)) (.int .i64)), shA := [.one, .one], R := .bool, shR := [(false, 1)], pre := fun _ _ => True, f := some fun _ a => ((fHas a.1 a.2), ((), ())) }
def spec_l16In.F  (a0 : (List Int)) (a1 : Int) : Prop := (eS [(0, .val false [.lst (.int .i64) a0 none]), (1, .val false [.int .i64 a1])] [(0, .val false [.lst (.int .i64) a0 none]), (1, .val false [.int .i64 a1])] ∧ ((hasI a0 a1 0) ∧ ∀ (y1 : Int), (hasI a0 a1 y1) → (caseB (decide (y1 < (ln a0))) (0 ≤ y1 ∧ (y1 < (ln a0) ∧ (caseB ((List.getD a0 (tN y1) 0) == a1) (Eq (true, ((), ())) ((fHas a0 a1), ((), ()))) (eS [(0, .val false [.lst (.int .i64) a0 none]), (1, .val false [.int .i64 a1])] [(0, .val false [.lst (.int .i64) a0 none]), (1, .val false [.int .i64 a1])] ∧ (hasI a0 a1 (wI (y1 + (1 : Int)))) ∧ (hasM a0 a1 (wI (y1 + (1 : Int)))) < (hasM a0 a1 y1))))) (Eq (false, ((), ())) ((fHas a0 a1), ((), ()))))))
def spec_l16In.L  (a0 : (List Int)) (a1 : Int) : Nat → Option LoopAnn := fun p => Go.Proofs.Ythkghdmpkdpnkaa.Bv.look p [(26, { kp := { hold := [0, 1], slots := [5], boxes := [], rows := [] }, T := (.int .i64), I := fun st y => hasI a0 a1 y, μ := fun st y => hasM a0 a1 y })]

theorem spec_l16In.pure  (a0 : (List Int)) (a1 : Int) (h : True) (hw : Wf c_spec_l16In.A (a0, a1)) : spec_l16In.F a0 a1 := by
  delta spec_l16In.F ln tN wI eS
  have hw1 : a0.length ≤ 9223372036854775807 := hw.1.1
  simp only [forall_eq, true_and, and_true, caseB_iff, Prod.mk.injEq, decide_eq_true_eq, decide_eq_false_iff_not, Bool.not_eq_true', Bool.not_eq_false', bne_iff_ne, ne_eq, beq_iff_eq, Bool.not_true, Bool.not_false, beq_eq_false_iff_ne, bne_eq_false_iff_eq, List.length_append, List.length_cons, List.length_nil, List.append_nil, Nat.zero_add, decide_true, decide_false, eq_self_iff_true, hasI, hasM]
  repeat' (with_reducible (first | (refine And.intro ?_ ?_) | intro _))
  all_goals (try simp (disch := omega) only [w64, wu8, tn0, tn1, tm1, tm2, List.length_append, List.length_cons, List.length_nil] at *)
  all_goals (try simp (disch := omega) only [w64, wu8, tn0, tn1, tm1, tm2, List.length_append, List.length_cons, List.length_nil] at *)
  all_goals (try omega)
  all_goals (try grind [has_at, has_no])

set_option maxRecDepth 100000 in
theorem spec_l16In.eq : EqS c_spec_l16In Try.f54 [4] [] [] (fun i x => spec_l16In.L x.1 x.2) (fun i x => spec_l16In.F x.1 x.2) := by intro i x; kernel_rfl
theorem spec_l16In.ok : ConOk Try.prog 54 c_spec_l16In := okOf spec_l16In.eq Try.func54 rfl (by kernel_rfl) fun i x h hi hw => spec_l16In.pure x.1 x.2 h hw
def spec_l16In.e : GE := ⟨54, c_spec_l16In, ⟨_, Try.func54, rfl, rfl⟩, spec_l16In.ok⟩

def c_impl_co_last : Con := { A := (.pair (.int .i64) (.pair (.int .i64) (.pair (.int .i64) (.pair (.int .i64) (.pair (.int .i64) (.pair (.int .i64) (.pair (.int .i64) (.pair (.int .i64) (.pair (.list (.pair (.int .i64) .str)) (.pair (.int .i64) (.pair (.list (.int .i64)) (.pair (.list (.int .i64)) (.list (.int .i64)))))))))))))), shA := [.ptr 13], R := (.int .i64), shR := [(false, 1)], pre := fun _ _ => True, f := some fun _ a => ((fCoreLast a), ((), ())) }
def impl_co_last.F  (a0 : (Int × (Int × (Int × (Int × (Int × (Int × (Int × (Int × ((List (Int × (List UInt8))) × (Int × ((List Int) × ((List Int) × (List Int)))))))))))))) : Prop := (Eq ((wI (a0.2.2.2.2.2.2.1 + (ln a0.2.2.2.2.2.2.2.2.1))), ((), ())) ((fCoreLast a0), ((), ())))

theorem impl_co_last.pure  (a0 : (Int × (Int × (Int × (Int × (Int × (Int × (Int × (Int × ((List (Int × (List UInt8))) × (Int × ((List Int) × ((List Int) × (List Int)))))))))))))) (h : True) (hw : Wf c_impl_co_last.A a0) : impl_co_last.F a0 := by
  delta impl_co_last.F ln wI
  simp only [forall_eq, true_and, and_true, caseB_iff, Prod.mk.injEq, decide_eq_true_eq, decide_eq_false_iff_not, Bool.not_eq_true', Bool.not_eq_false', bne_iff_ne, ne_eq, beq_iff_eq, Bool.not_true, Bool.not_false, beq_eq_false_iff_ne, bne_eq_false_iff_eq, List.length_append, List.length_cons, List.length_nil, List.append_nil, Nat.zero_add, decide_true, decide_false, eq_self_iff_true, Prod.eta, fCoreLast]
  repeat' (with_reducible (first | (refine And.intro ?_ ?_) | intro _))
  all_goals (try simp (disch := omega) only [w64, wu8, tn0, tn1, tm1, tm2, List.length_append, List.length_cons, List.length_nil] at *)
  all_goals (try simp (disch := omega) only [w64, wu8, tn0, tn1, tm1, tm2, List.length_append, List.length_cons, List.length_nil] at *)
  all_goals (try omega)
  all_goals (try grind [])

set_option maxRecDepth 100000 in
theorem impl_co_last.eq : EqS c_impl_co_last Try.f61 [3] [] [] noL (fun i x => impl_co_last.F x) := by intro i x; kernel_rfl
theorem impl_co_last.ok : ConOk Try.prog 61 c_impl_co_last := okOf impl_co_last.eq Try.func61 rfl (by kernel_rfl) fun i x h hi hw => impl_co_last.pure x h hw
def impl_co_last.e : GE := ⟨61, c_impl_co_last, ⟨_, Try.func61, rfl, rfl⟩, impl_co_last.ok⟩

def c_impl_co_majority : Con := { A := (.pair (.pair (.int .i64) (.pair (.int .i64) (.pair (.int .i64) (.pair (.int .i64) (.pair (.int .i64) (.pair (.int .i64) (.pair (.int .i64) (.pair (.int .i64) (.pair (.list (.pair (.int .i64) .str)) (.pair (.int .i64) (.pair (.list (.int .i64)) (.pair (.list (.int .i64)) (.list (.int .i64)))))))))))))) (.int .i64)), shA := [.ptr 13, .one], R := .bool, shR := [(false, 1)], pre := fun _ _ => True, f := some fun _ a => ((fMaj a.1 a.2), ((), ())) }
def impl_co_majority.F  (a0 : (Int × (Int × (Int × (Int × (Int × (Int × (Int × (Int × ((List (Int × (List UInt8))) × (Int × ((List Int) × ((List Int) × (List Int)))))))))))))) (a1 : Int) : Prop := (Eq ((decide ((wI ((2 : Int) * a1)) > a0.2.1)), ((), ())) ((fMaj a0 a1), ((), ())))

theorem impl_co_majority.pure  (a0 : (Int × (Int × (Int × (Int × (Int × (Int × (Int × (Int × ((List (Int × (List UInt8))) × (Int × ((List Int) × ((List Int) × (List Int)))))))))))))) (a1 : Int) (h : True) (hw : Wf c_impl_co_majority.A (a0, a1)) : impl_co_majority.F a0 a1 := by
  delta impl_co_majority.F wI
  simp only [forall_eq, true_and, and_true, caseB_iff, Prod.mk.injEq, decide_eq_true_eq, decide_eq_false_iff_not, Bool.not_eq_true', Bool.not_eq_false', bne_iff_ne, ne_eq, beq_iff_eq, Bool.not_true, Bool.not_false, beq_eq_false_iff_ne, bne_eq_false_iff_eq, List.length_append, List.length_cons, List.length_nil, List.append_nil, Nat.zero_add, decide_true, decide_false, eq_self_iff_true, Prod.eta, fMaj]
  repeat' (with_reducible (first | (refine And.intro ?_ ?_) | intro _))
  all_goals (try simp (disch := omega) only [w64, wu8, tn0, tn1, tm1, tm2, List.length_append, List.length_cons, List.length_nil] at *)
  all_goals (try simp (disch := omega) only [w64, wu8, tn0, tn1, tm1, tm2, List.length_append, List.length_cons, List.length_nil] at *)
  all_goals (try omega)
  all_goals (try grind [])

set_option maxRecDepth 100000 in
theorem impl_co_majority.eq : EqS c_impl_co_majority Try.f98 [4] [] [] noL (fun i x => impl_co_majority.F x.1 x.2) := by intro i x; kernel_rfl
theorem impl_co_majority.ok : ConOk Try.prog 98 c_impl_co_majority := okOf impl_co_majority.eq Try.func98 rfl (by kernel_rfl) fun i x h hi hw => impl_co_majority.pure x.1 x.2 h hw
def impl_co_majority.e : GE := ⟨98, c_impl_co_majority, ⟨_, Try.func98, rfl, rfl⟩, impl_co_majority.ok⟩

def c_spec_l16Last : Con := { A := (.pair (.int .i64) (.pair (.int .i64) (.pair (.int .i64) (.pair (.int .i64) (.pair (.int .i64) (.pair (.int .i64) (.pair (.int .i64) (.pair (.int .i64) (.pair (.list (.pair (.int .i64) .str)) (.pair (.int .i64) (.pair (.list (.int .i64)) (.pair (.list (.int .i64)) (.list (.int .i64)))))))))))))), shA := [.agg 13], R := (.int .i64), shR := [(false, 1)], pre := fun _ _ => True, f := some fun _ a => ((fCoreLast a), ((), ())) }
def spec_l16Last.F  (a0 : (Int × (Int × (Int × (Int × (Int × (Int × (Int × (Int × ((List (Int × (List UInt8))) × (Int × ((List Int) × ((List Int) × (List Int)))))))))))))) : Prop := (Eq ((wI (a0.2.2.2.2.2.2.1 + (ln a0.2.2.2.2.2.2.2.2.1))), ((), ())) ((fCoreLast a0), ((), ())))

theorem spec_l16Last.pure  (a0 : (Int × (Int × (Int × (Int × (Int × (Int × (Int × (Int × ((List (Int × (List UInt8))) × (Int × ((List Int) × ((List Int) × (List Int)))))))))))))) (h : True) (hw : Wf c_spec_l16Last.A a0) : spec_l16Last.F a0 := by
  delta spec_l16Last.F ln wI
  simp only [forall_eq, true_and, and_true, caseB_iff, Prod.mk.injEq, decide_eq_true_eq, decide_eq_false_iff_not, Bool.not_eq_true', Bool.not_eq_false', bne_iff_ne, ne_eq, beq_iff_eq, Bool.not_true, Bool.not_false, beq_eq_false_iff_ne, bne_eq_false_iff_eq, List.length_append, List.length_cons, List.length_nil, List.append_nil, Nat.zero_add, decide_true, decide_false, eq_self_iff_true, Prod.eta, fCoreLast]
  repeat' (with_reducible (first | (refine And.intro ?_ ?_) | intro _))
  all_goals (try simp (disch := omega) only [w64, wu8, tn0, tn1, tm1, tm2, List.length_append, List.length_cons, List.length_nil] at *)
  all_goals (try simp (disch := omega) only [w64, wu8, tn0, tn1, tm1, tm2, List.length_append, List.length_cons, List.length_nil] at *)
  all_goals (try omega)
  all_goals (try grind [])

set_option maxRecDepth 100000 in
theorem spec_l16Last.eq : EqS c_spec_l16Last Try.f53 [3] [] [] noL (fun i x => spec_l16Last.F x) := by intro i x; kernel_rfl
theorem spec_l16Last.ok : ConOk Try.prog 53 c_spec_l16Last := okOf spec_l16Last.eq Try.func53 rfl (by kernel_rfl) fun i x h hi hw => spec_l16Last.pure x h hw
def spec_l16Last.e : GE := ⟨53, c_spec_l16Last, ⟨_, Try.func53, rfl, rfl⟩, spec_l16Last.ok⟩

def c_impl_isPeer : Con := { A := (.pair (.pair (.int .i64) (.pair (.int .i64) (.pair (.int .i64) (.pair (.int .i64) (.pair (.int .i64) (.pair (.int .i64) (.pair (.int .i64) (.pair (.int .i64) (.pair (.list (.pair (.int .i64) .str)) (.pair (.int .i64) (.pair (.list (.int .i64)) (.pair (.list (.int .i64)) (.list (.int .i64)))))))))))))) (.int .i64)), shA := [.agg 13, .one], R := .bool, shR := [(false, 1)], pre := fun _ _ => True, f := some fun _ a => ((fIsPeer a.1 a.2), ((), ())) }
def impl_isPeer.F  (a0 : (Int × (Int × (Int × (Int × (Int × (Int × (Int × (Int × ((List (Int × (List UInt8))) × (Int × ((List Int) × ((List Int) × (List Int)))))))))))))) (a1 : Int) : Prop := (True ∧ ∀ r1, (Eq r1 ((fIn a1 0 (wI (a0.2.1 - (1 : Int)))), ((), ()))) → (Eq (r1.1, ((), ())) ((fIsPeer a0 a1), ((), ()))))

theorem impl_isPeer.pure  (a0 : (Int × (Int × (Int × (Int × (Int × (Int × (Int × (Int × ((List (Int × (List UInt8))) × (Int × ((List Int) × ((List Int) × (List Int)))))))))))))) (a1 : Int) (h : True) (hw : Wf c_impl_isPeer.A (a0, a1)) : impl_isPeer.F a0 a1 := by
  delta impl_isPeer.F wI
  simp only [forall_eq, true_and, and_true, caseB_iff, Prod.mk.injEq, decide_eq_true_eq, decide_eq_false_iff_not, Bool.not_eq_true', Bool.not_eq_false', bne_iff_ne, ne_eq, beq_iff_eq, Bool.not_true, Bool.not_false, beq_eq_false_iff_ne, bne_eq_false_iff_eq, List.length_append, List.length_cons, List.length_nil, List.append_nil, Nat.zero_add, decide_true, decide_false, eq_self_iff_true, Prod.eta, fIsPeer]
  repeat' (with_reducible (first | (refine And.intro ?_ ?_) | intro _))
  all_goals (try simp (disch := omega) only [w64, wu8, tn0, tn1, tm1, tm2, List.length_append, List.length_cons, List.length_nil] at *)
  all_goals (try simp (disch := omega) only [w64, wu8, tn0, tn1, tm1, tm2, List.length_append, List.length_cons, List.length_nil] at *)
  all_goals (try omega)
  all_goals (try grind [])

set_option maxRecDepth 100000 in
theorem impl_isPeer.eq : EqS c_impl_isPeer Try.f58 [4] [impl_from.e] [] noL (fun i x => impl_isPeer.F x.1 x.2) := by intro i x; kernel_rfl
theorem impl_isPeer.ok : ConOk Try.prog 58 c_impl_isPeer := okOf impl_isPeer.eq Try.func58 rfl (by kernel_rfl) fun i x h hi hw => impl_isPeer.pure x.1 x.2 h hw
def impl_isPeer.e : GE := ⟨58, c_impl_isPeer, ⟨_, Try.func58, rfl, rfl⟩, impl_isPeer.ok⟩

def c_impl_seekOk : Con := { A := (.pair (.int .i64) (.pair (.int .i64) (.pair (.int .i64) (.pair (.int .i64) (.pair (.int .i64) (.pair (.int .i64) (.pair (.int .i64) (.pair (.int .i64) (.pair (.list (.pair (.int .i64) .str)) (.pair (.int .i64) (.pair (.list (.int .i64)) (.pair (.list (.int .i64)) (.list (.int .i64)))))))))))))), shA := [.agg 13], R := .bool, shR := [(false, 1)], pre := fun _ a => (pCore a), f := some fun _ a => ((fSeek a), ((), ())) }
def impl_seekOk.F  (a0 : (Int × (Int × (Int × (Int × (Int × (Int × (Int × (Int × ((List (Int × (List UInt8))) × (Int × ((List Int) × ((List Int) × (List Int)))))))))))))) : Prop := (eS [(1, .box 2 0), (6, .val false [.lst (.int .i64) a0.2.2.2.2.2.2.2.2.2.2.1 none]), (7, .val false [.int .i64 (ln a0.2.2.2.2.2.2.2.2.2.2.1)])] [(1, .box 2 0), (6, .val false [.lst (.int .i64) a0.2.2.2.2.2.2.2.2.2.2.1 none]), (7, .val false [.int .i64 (ln a0.2.2.2.2.2.2.2.2.2.2.1)])] ∧ ((skI a0 0 a0.1 a0.2.1 a0.2.2.1 a0.2.2.2.1 a0.2.2.2.2.1 a0.2.2.2.2.2.1 a0.2.2.2.2.2.2.1 a0.2.2.2.2.2.2.2.1 a0.2.2.2.2.2.2.2.2.1 a0.2.2.2.2.2.2.2.2.2.1 a0.2.2.2.2.2.2.2.2.2.2.1 a0.2.2.2.2.2.2.2.2.2.2.2.1 a0.2.2.2.2.2.2.2.2.2.2.2.2) ∧ ∀ (y1 : (Int × (Int × (Int × (Int × (Int × (Int × (Int × (Int × (Int × ((List (Int × (List UInt8))) × (Int × ((List Int) × ((List Int) × (List Int))))))))))))))), (skI a0 y1.1 y1.2.1 y1.2.2.1 y1.2.2.2.1 y1.2.2.2.2.1 y1.2.2.2.2.2.1 y1.2.2.2.2.2.2.1 y1.2.2.2.2.2.2.2.1 y1.2.2.2.2.2.2.2.2.1 y1.2.2.2.2.2.2.2.2.2.1 y1.2.2.2.2.2.2.2.2.2.2.1 y1.2.2.2.2.2.2.2.2.2.2.2.1 y1.2.2.2.2.2.2.2.2.2.2.2.2.1 y1.2.2.2.2.2.2.2.2.2.2.2.2.2) → (caseB (decide (y1.1 < (ln a0.2.2.2.2.2.2.2.2.2.2.1))) (0 ≤ y1.1 ∧ (y1.1 < (ln a0.2.2.2.2.2.2.2.2.2.2.1) ∧ (True ∧ ∀ r2, (Eq r2 ((fIsPeer (y1.2.1, (y1.2.2.1, (y1.2.2.2.1, (y1.2.2.2.2.1, (y1.2.2.2.2.2.1, (y1.2.2.2.2.2.2.1, (y1.2.2.2.2.2.2.2.1, (y1.2.2.2.2.2.2.2.2.1, (y1.2.2.2.2.2.2.2.2.2.1, (y1.2.2.2.2.2.2.2.2.2.2.1, (y1.2.2.2.2.2.2.2.2.2.2.2.1, (y1.2.2.2.2.2.2.2.2.2.2.2.2.1, y1.2.2.2.2.2.2.2.2.2.2.2.2.2)))))))))))) (List.getD a0.2.2.2.2.2.2.2.2.2.2.1 (tN y1.1) 0)), ((), ()))) → (caseB (!r2.1) (Eq (false, ((), ())) ((fSeek a0), ((), ()))) (caseB (decide (y1.1 > (0 : Int))) (0 ≤ (wI (y1.1 - (1 : Int))) ∧ ((wI (y1.1 - (1 : Int))) < (ln y1.2.2.2.2.2.2.2.2.2.2.2.1) ∧ (caseB (decide ((List.getD y1.2.2.2.2.2.2.2.2.2.2.2.1 (tN (wI (y1.1 - (1 : Int)))) 0) ≥ (List.getD a0.2.2.2.2.2.2.2.2.2.2.1 (tN y1.1) 0))) (Eq (false, ((), ())) ((fSeek a0), ((), ()))) (eS [(1, .box 2 0), (6, .val false [.lst (.int .i64) a0.2.2.2.2.2.2.2.2.2.2.1 none]), (7, .val false [.int .i64 (ln a0.2.2.2.2.2.2.2.2.2.2.1)])] [(1, .box 2 0), (6, .val false [.lst (.int .i64) a0.2.2.2.2.2.2.2.2.2.2.1 none]), (7, .val false [.int .i64 (ln a0.2.2.2.2.2.2.2.2.2.2.1)])] ∧ (skI a0 (wI (y1.1 + (1 : Int))) y1.2.1 y1.2.2.1 y1.2.2.2.1 y1.2.2.2.2.1 y1.2.2.2.2.2.1 y1.2.2.2.2.2.2.1 y1.2.2.2.2.2.2.2.1 y1.2.2.2.2.2.2.2.2.1 y1.2.2.2.2.2.2.2.2.2.1 y1.2.2.2.2.2.2.2.2.2.2.1 y1.2.2.2.2.2.2.2.2.2.2.2.1 y1.2.2.2.2.2.2.2.2.2.2.2.2.1 y1.2.2.2.2.2.2.2.2.2.2.2.2.2) ∧ (skM a0 (wI (y1.1 + (1 : Int))) y1.2.1 y1.2.2.1 y1.2.2.2.1 y1.2.2.2.2.1 y1.2.2.2.2.2.1 y1.2.2.2.2.2.2.1 y1.2.2.2.2.2.2.2.1 y1.2.2.2.2.2.2.2.2.1 y1.2.2.2.2.2.2.2.2.2.1 y1.2.2.2.2.2.2.2.2.2.2.1 y1.2.2.2.2.2.2.2.2.2.2.2.1 y1.2.2.2.2.2.2.2.2.2.2.2.2.1 y1.2.2.2.2.2.2.2.2.2.2.2.2.2) < (skM a0 y1.1 y1.2.1 y1.2.2.1 y1.2.2.2.1 y1.2.2.2.2.1 y1.2.2.2.2.2.1 y1.2.2.2.2.2.2.1 y1.2.2.2.2.2.2.2.1 y1.2.2.2.2.2.2.2.2.1 y1.2.2.2.2.2.2.2.2.2.1 y1.2.2.2.2.2.2.2.2.2.2.1 y1.2.2.2.2.2.2.2.2.2.2.2.1 y1.2.2.2.2.2.2.2.2.2.2.2.2.1 y1.2.2.2.2.2.2.2.2.2.2.2.2.2))))) (eS [(1, .box 2 0), (6, .val false [.lst (.int .i64) a0.2.2.2.2.2.2.2.2.2.2.1 none]), (7, .val false [.int .i64 (ln a0.2.2.2.2.2.2.2.2.2.2.1)])] [(1, .box 2 0), (6, .val false [.lst (.int .i64) a0.2.2.2.2.2.2.2.2.2.2.1 none]), (7, .val false [.int .i64 (ln a0.2.2.2.2.2.2.2.2.2.2.1)])] ∧ (skI a0 (wI (y1.1 + (1 : Int))) y1.2.1 y1.2.2.1 y1.2.2.2.1 y1.2.2.2.2.1 y1.2.2.2.2.2.1 y1.2.2.2.2.2.2.1 y1.2.2.2.2.2.2.2.1 y1.2.2.2.2.2.2.2.2.1 y1.2.2.2.2.2.2.2.2.2.1 y1.2.2.2.2.2.2.2.2.2.2.1 y1.2.2.2.2.2.2.2.2.2.2.2.1 y1.2.2.2.2.2.2.2.2.2.2.2.2.1 y1.2.2.2.2.2.2.2.2.2.2.2.2.2) ∧ (skM a0 (wI (y1.1 + (1 : Int))) y1.2.1 y1.2.2.1 y1.2.2.2.1 y1.2.2.2.2.1 y1.2.2.2.2.2.1 y1.2.2.2.2.2.2.1 y1.2.2.2.2.2.2.2.1 y1.2.2.2.2.2.2.2.2.1 y1.2.2.2.2.2.2.2.2.2.1 y1.2.2.2.2.2.2.2.2.2.2.1 y1.2.2.2.2.2.2.2.2.2.2.2.1 y1.2.2.2.2.2.2.2.2.2.2.2.2.1 y1.2.2.2.2.2.2.2.2.2.2.2.2.2) < (skM a0 y1.1 y1.2.1 y1.2.2.1 y1.2.2.2.1 y1.2.2.2.2.1 y1.2.2.2.2.2.1 y1.2.2.2.2.2.2.1 y1.2.2.2.2.2.2.2.1 y1.2.2.2.2.2.2.2.2.1 y1.2.2.2.2.2.2.2.2.2.1 y1.2.2.2.2.2.2.2.2.2.2.1 y1.2.2.2.2.2.2.2.2.2.2.2.1 y1.2.2.2.2.2.2.2.2.2.2.2.2.1 y1.2.2.2.2.2.2.2.2.2.2.2.2.2))))))) (True ∧ ∀ r3, (Eq r3 ((fHas y1.2.2.2.2.2.2.2.2.2.2.2.1 y1.2.1), ((), ()))) → (caseB r3.1 (True ∧ ∀ r4, (Eq r4 ((fMaj (y1.2.1, (y1.2.2.1, (y1.2.2.2.1, (y1.2.2.2.2.1, (y1.2.2.2.2.2.1, (y1.2.2.2.2.2.2.1, (y1.2.2.2.2.2.2.2.1, (y1.2.2.2.2.2.2.2.2.1, (y1.2.2.2.2.2.2.2.2.2.1, (y1.2.2.2.2.2.2.2.2.2.2.1, (y1.2.2.2.2.2.2.2.2.2.2.2.1, (y1.2.2.2.2.2.2.2.2.2.2.2.2.1, y1.2.2.2.2.2.2.2.2.2.2.2.2.2)))))))))))) (ln y1.2.2.2.2.2.2.2.2.2.2.2.1)), ((), ()))) → (Eq ((!r4.1), ((), ())) ((fSeek a0), ((), ())))) (Eq (false, ((), ())) ((fSeek a0), ((), ()))))))))
def impl_seekOk.L  (a0 : (Int × (Int × (Int × (Int × (Int × (Int × (Int × (Int × ((List (Int × (List UInt8))) × (Int × ((List Int) × ((List Int) × (List Int)))))))))))))) : Nat → Option LoopAnn := fun p => Go.Proofs.Ythkghdmpkdpnkaa.Bv.look p [(26, { kp := { hold := [1, 6, 7], slots := [8], boxes := [2], rows := [] }, T := (.pair (.int .i64) (.pair (.int .i64) (.pair (.int .i64) (.pair (.int .i64) (.pair (.int .i64) (.pair (.int .i64) (.pair (.int .i64) (.pair (.int .i64) (.pair (.int .i64) (.pair (.list (.pair (.int .i64) .str)) (.pair (.int .i64) (.pair (.list (.int .i64)) (.pair (.list (.int .i64)) (.list (.int .i64))))))))))))))), I := fun st y => skI a0 y.1 y.2.1 y.2.2.1 y.2.2.2.1 y.2.2.2.2.1 y.2.2.2.2.2.1 y.2.2.2.2.2.2.1 y.2.2.2.2.2.2.2.1 y.2.2.2.2.2.2.2.2.1 y.2.2.2.2.2.2.2.2.2.1 y.2.2.2.2.2.2.2.2.2.2.1 y.2.2.2.2.2.2.2.2.2.2.2.1 y.2.2.2.2.2.2.2.2.2.2.2.2.1 y.2.2.2.2.2.2.2.2.2.2.2.2.2, μ := fun st y => skM a0 y.1 y.2.1 y.2.2.1 y.2.2.2.1 y.2.2.2.2.1 y.2.2.2.2.2.1 y.2.2.2.2.2.2.1 y.2.2.2.2.2.2.2.1 y.2.2.2.2.2.2.2.2.1 y.2.2.2.2.2.2.2.2.2.1 y.2.2.2.2.2.2.2.2.2.2.1 y.2.2.2.2.2.2.2.2.2.2.2.1 y.2.2.2.2.2.2.2.2.2.2.2.2.1 y.2.2.2.2.2.2.2.2.2.2.2.2.2 })]

theorem impl_seekOk.pure  (a0 : (Int × (Int × (Int × (Int × (Int × (Int × (Int × (Int × ((List (Int × (List UInt8))) × (Int × ((List Int) × ((List Int) × (List Int)))))))))))))) (h : (pCore a0)) (hw : Wf c_impl_seekOk.A a0) : impl_seekOk.F a0 := by
  delta impl_seekOk.F ln tN wI eS
  obtain ⟨p0, p1, p2, p3⟩ := h
  simp only [forall_eq, true_and, and_true, caseB_iff, Prod.mk.injEq, decide_eq_true_eq, decide_eq_false_iff_not, Bool.not_eq_true', Bool.not_eq_false', bne_iff_ne, ne_eq, beq_iff_eq, Bool.not_true, Bool.not_false, beq_eq_false_iff_ne, bne_eq_false_iff_eq, List.length_append, List.length_cons, List.length_nil, List.append_nil, Nat.zero_add, decide_true, decide_false, eq_self_iff_true, skI, skM, Prod.eta, fIsPeer, fMaj, pCore]
  repeat' (with_reducible (first | (refine And.intro ?_ ?_) | intro _))
  all_goals (try simp (disch := omega) only [w64, wu8, tn0, tn1, tm1, tm2, List.length_append, List.length_cons, List.length_nil] at *)
  all_goals (try simp (disch := omega) only [w64, wu8, tn0, tn1, tm1, tm2, List.length_append, List.length_cons, List.length_nil] at *)
  all_goals (try omega)
  all_goals (try grind [fSeek, all_y, all_n, skAt])

set_option maxRecDepth 100000 in
theorem impl_seekOk.eq : EqS c_impl_seekOk Try.f62 [4] [impl_isPeer.e, slices_Contains_int_int.e, impl_co_majority.e] [] (fun i x => impl_seekOk.L x) (fun i x => impl_seekOk.F x) := by intro i x; kernel_rfl
theorem impl_seekOk.ok : ConOk Try.prog 62 c_impl_seekOk := okOf impl_seekOk.eq Try.func62 rfl (by kernel_rfl) fun i x h hi hw => impl_seekOk.pure x h hw
def impl_seekOk.e : GE := ⟨62, c_impl_seekOk, ⟨_, Try.func62, rfl, rfl⟩, impl_seekOk.ok⟩

def c_impl_leadOk : Con := { A := (.pair (.int .i64) (.pair (.int .i64) (.pair (.int .i64) (.pair (.int .i64) (.pair (.int .i64) (.pair (.int .i64) (.pair (.int .i64) (.pair (.int .i64) (.pair (.list (.pair (.int .i64) .str)) (.pair (.int .i64) (.pair (.list (.int .i64)) (.pair (.list (.int .i64)) (.list (.int .i64)))))))))))))), shA := [.agg 13], R := .bool, shR := [(false, 1)], pre := fun _ a => (pLead a), f := some fun _ a => ((fLead a), ((), ())) }
def impl_leadOk.F  (a0 : (Int × (Int × (Int × (Int × (Int × (Int × (Int × (Int × ((List (Int × (List UInt8))) × (Int × ((List Int) × ((List Int) × (List Int)))))))))))))) : Prop := (caseB ((ln a0.2.2.2.2.2.2.2.2.2.2.2.1) != a0.2.1) (Eq (false, ((), ())) ((fLead a0), ((), ()))) (caseB ((ln a0.2.2.2.2.2.2.2.2.2.2.2.2) != a0.2.1) (Eq (false, ((), ())) ((fLead a0), ((), ()))) (eS [(1, .box 2 0), (20, .val false [.lst (.int .i64) a0.2.2.2.2.2.2.2.2.2.2.2.1 none]), (21, .val false [.int .i64 (ln a0.2.2.2.2.2.2.2.2.2.2.2.1)])] [(1, .box 2 0), (20, .val false [.lst (.int .i64) a0.2.2.2.2.2.2.2.2.2.2.2.1 none]), (21, .val false [.int .i64 (ln a0.2.2.2.2.2.2.2.2.2.2.2.1)])] ∧ ((ldI a0 0 a0.1 a0.2.1 a0.2.2.1 a0.2.2.2.1 a0.2.2.2.2.1 a0.2.2.2.2.2.1 a0.2.2.2.2.2.2.1 a0.2.2.2.2.2.2.2.1 a0.2.2.2.2.2.2.2.2.1 a0.2.2.2.2.2.2.2.2.2.1 a0.2.2.2.2.2.2.2.2.2.2.1 a0.2.2.2.2.2.2.2.2.2.2.2.1 a0.2.2.2.2.2.2.2.2.2.2.2.2) ∧ ∀ (y1 : (Int × (Int × (Int × (Int × (Int × (Int × (Int × (Int × (Int × ((List (Int × (List UInt8))) × (Int × ((List Int) × ((List Int) × (List Int))))))))))))))), (ldI a0 y1.1 y1.2.1 y1.2.2.1 y1.2.2.2.1 y1.2.2.2.2.1 y1.2.2.2.2.2.1 y1.2.2.2.2.2.2.1 y1.2.2.2.2.2.2.2.1 y1.2.2.2.2.2.2.2.2.1 y1.2.2.2.2.2.2.2.2.2.1 y1.2.2.2.2.2.2.2.2.2.2.1 y1.2.2.2.2.2.2.2.2.2.2.2.1 y1.2.2.2.2.2.2.2.2.2.2.2.2.1 y1.2.2.2.2.2.2.2.2.2.2.2.2.2) → (caseB (decide (y1.1 < (ln a0.2.2.2.2.2.2.2.2.2.2.2.1))) (0 ≤ y1.1 ∧ (y1.1 < (ln a0.2.2.2.2.2.2.2.2.2.2.2.1) ∧ (0 ≤ y1.1 ∧ (y1.1 < (ln y1.2.2.2.2.2.2.2.2.2.2.2.2.2) ∧ (caseB (decide ((List.getD y1.2.2.2.2.2.2.2.2.2.2.2.2.2 (tN y1.1) 0) < (0 : Int))) (Eq (false, ((), ())) ((fLead a0), ((), ()))) (0 ≤ y1.1 ∧ (y1.1 < (ln y1.2.2.2.2.2.2.2.2.2.2.2.2.2) ∧ (caseB (decide ((List.getD a0.2.2.2.2.2.2.2.2.2.2.2.1 (tN y1.1) 0) ≤ (List.getD y1.2.2.2.2.2.2.2.2.2.2.2.2.2 (tN y1.1) 0))) (Eq (false, ((), ())) ((fLead a0), ((), ()))) (True ∧ ∀ r2, (Eq r2 ((fCoreLast (y1.2.1, (y1.2.2.1, (y1.2.2.2.1, (y1.2.2.2.2.1, (y1.2.2.2.2.2.1, (y1.2.2.2.2.2.2.1, (y1.2.2.2.2.2.2.2.1, (y1.2.2.2.2.2.2.2.2.1, (y1.2.2.2.2.2.2.2.2.2.1, (y1.2.2.2.2.2.2.2.2.2.2.1, (y1.2.2.2.2.2.2.2.2.2.2.2.1, (y1.2.2.2.2.2.2.2.2.2.2.2.2.1, y1.2.2.2.2.2.2.2.2.2.2.2.2.2))))))))))))), ((), ()))) → (caseB (decide ((List.getD a0.2.2.2.2.2.2.2.2.2.2.2.1 (tN y1.1) 0) > (wI (r2.1 + (1 : Int))))) (Eq (false, ((), ())) ((fLead a0), ((), ()))) (eS [(1, .box 2 0), (20, .val false [.lst (.int .i64) a0.2.2.2.2.2.2.2.2.2.2.2.1 none]), (21, .val false [.int .i64 (ln a0.2.2.2.2.2.2.2.2.2.2.2.1)])] [(1, .box 2 0), (20, .val false [.lst (.int .i64) a0.2.2.2.2.2.2.2.2.2.2.2.1 none]), (21, .val false [.int .i64 (ln a0.2.2.2.2.2.2.2.2.2.2.2.1)])] ∧ (ldI a0 (wI (y1.1 + (1 : Int))) y1.2.1 y1.2.2.1 y1.2.2.2.1 y1.2.2.2.2.1 y1.2.2.2.2.2.1 y1.2.2.2.2.2.2.1 y1.2.2.2.2.2.2.2.1 y1.2.2.2.2.2.2.2.2.1 y1.2.2.2.2.2.2.2.2.2.1 y1.2.2.2.2.2.2.2.2.2.2.1 y1.2.2.2.2.2.2.2.2.2.2.2.1 y1.2.2.2.2.2.2.2.2.2.2.2.2.1 y1.2.2.2.2.2.2.2.2.2.2.2.2.2) ∧ (ldM a0 (wI (y1.1 + (1 : Int))) y1.2.1 y1.2.2.1 y1.2.2.2.1 y1.2.2.2.2.1 y1.2.2.2.2.2.1 y1.2.2.2.2.2.2.1 y1.2.2.2.2.2.2.2.1 y1.2.2.2.2.2.2.2.2.1 y1.2.2.2.2.2.2.2.2.2.1 y1.2.2.2.2.2.2.2.2.2.2.1 y1.2.2.2.2.2.2.2.2.2.2.2.1 y1.2.2.2.2.2.2.2.2.2.2.2.2.1 y1.2.2.2.2.2.2.2.2.2.2.2.2.2) < (ldM a0 y1.1 y1.2.1 y1.2.2.1 y1.2.2.2.1 y1.2.2.2.2.1 y1.2.2.2.2.2.1 y1.2.2.2.2.2.2.1 y1.2.2.2.2.2.2.2.1 y1.2.2.2.2.2.2.2.2.1 y1.2.2.2.2.2.2.2.2.2.1 y1.2.2.2.2.2.2.2.2.2.2.1 y1.2.2.2.2.2.2.2.2.2.2.2.1 y1.2.2.2.2.2.2.2.2.2.2.2.2.1 y1.2.2.2.2.2.2.2.2.2.2.2.2.2)))))))))))) (0 ≤ y1.2.1 ∧ (y1.2.1 < (ln y1.2.2.2.2.2.2.2.2.2.2.2.2.2) ∧ (True ∧ ∀ r3, (Eq r3 ((fCoreLast (y1.2.1, (y1.2.2.1, (y1.2.2.2.1, (y1.2.2.2.2.1, (y1.2.2.2.2.2.1, (y1.2.2.2.2.2.2.1, (y1.2.2.2.2.2.2.2.1, (y1.2.2.2.2.2.2.2.2.1, (y1.2.2.2.2.2.2.2.2.2.1, (y1.2.2.2.2.2.2.2.2.2.2.1, (y1.2.2.2.2.2.2.2.2.2.2.2.1, (y1.2.2.2.2.2.2.2.2.2.2.2.2.1, y1.2.2.2.2.2.2.2.2.2.2.2.2.2))))))))))))), ((), ()))) → (Eq (((List.getD y1.2.2.2.2.2.2.2.2.2.2.2.2.2 (tN y1.2.1) 0) == r3.1), ((), ())) ((fLead a0), ((), ())))))))))))
def impl_leadOk.L  (a0 : (Int × (Int × (Int × (Int × (Int × (Int × (Int × (Int × ((List (Int × (List UInt8))) × (Int × ((List Int) × ((List Int) × (List Int)))))))))))))) : Nat → Option LoopAnn := fun p => Go.Proofs.Ythkghdmpkdpnkaa.Bv.look p [(58, { kp := { hold := [1, 20, 21], slots := [22], boxes := [2], rows := [] }, T := (.pair (.int .i64) (.pair (.int .i64) (.pair (.int .i64) (.pair (.int .i64) (.pair (.int .i64) (.pair (.int .i64) (.pair (.int .i64) (.pair (.int .i64) (.pair (.int .i64) (.pair (.list (.pair (.int .i64) .str)) (.pair (.int .i64) (.pair (.list (.int .i64)) (.pair (.list (.int .i64)) (.list (.int .i64))))))))))))))), I := fun st y => ldI a0 y.1 y.2.1 y.2.2.1 y.2.2.2.1 y.2.2.2.2.1 y.2.2.2.2.2.1 y.2.2.2.2.2.2.1 y.2.2.2.2.2.2.2.1 y.2.2.2.2.2.2.2.2.1 y.2.2.2.2.2.2.2.2.2.1 y.2.2.2.2.2.2.2.2.2.2.1 y.2.2.2.2.2.2.2.2.2.2.2.1 y.2.2.2.2.2.2.2.2.2.2.2.2.1 y.2.2.2.2.2.2.2.2.2.2.2.2.2, μ := fun st y => ldM a0 y.1 y.2.1 y.2.2.1 y.2.2.2.1 y.2.2.2.2.1 y.2.2.2.2.2.1 y.2.2.2.2.2.2.1 y.2.2.2.2.2.2.2.1 y.2.2.2.2.2.2.2.2.1 y.2.2.2.2.2.2.2.2.2.1 y.2.2.2.2.2.2.2.2.2.2.1 y.2.2.2.2.2.2.2.2.2.2.2.1 y.2.2.2.2.2.2.2.2.2.2.2.2.1 y.2.2.2.2.2.2.2.2.2.2.2.2.2 })]

theorem impl_leadOk.pure  (a0 : (Int × (Int × (Int × (Int × (Int × (Int × (Int × (Int × ((List (Int × (List UInt8))) × (Int × ((List Int) × ((List Int) × (List Int)))))))))))))) (h : (pLead a0)) (hw : Wf c_impl_leadOk.A a0) : impl_leadOk.F a0 := by
  delta impl_leadOk.F ln tN wI eS
  obtain ⟨⟨p0, p1, p2, p3⟩, p4, p5⟩ := h
  simp only [forall_eq, true_and, and_true, caseB_iff, Prod.mk.injEq, decide_eq_true_eq, decide_eq_false_iff_not, Bool.not_eq_true', Bool.not_eq_false', bne_iff_ne, ne_eq, beq_iff_eq, Bool.not_true, Bool.not_false, beq_eq_false_iff_ne, bne_eq_false_iff_eq, List.length_append, List.length_cons, List.length_nil, List.append_nil, Nat.zero_add, decide_true, decide_false, eq_self_iff_true, ldI, ldM, Prod.eta, fCoreLast, pCore]
  repeat' (with_reducible (first | (refine And.intro ?_ ?_) | intro _))
  all_goals (try simp (disch := omega) only [w64, wu8, tn0, tn1, tm1, tm2, List.length_append, List.length_cons, List.length_nil] at *)
  all_goals (try simp (disch := omega) only [w64, wu8, tn0, tn1, tm1, tm2, List.length_append, List.length_cons, List.length_nil] at *)
  all_goals (try omega)
  all_goals (try grind [fLead, all_y, all_n, ldAt, fCoreLast])

set_option maxRecDepth 100000 in
theorem impl_leadOk.eq : EqS c_impl_leadOk Try.f63 [4] [impl_co_last.e] [] (fun i x => impl_leadOk.L x) (fun i x => impl_leadOk.F x) := by intro i x; kernel_rfl
theorem impl_leadOk.ok : ConOk Try.prog 63 c_impl_leadOk := okOf impl_leadOk.eq Try.func63 rfl (by kernel_rfl) fun i x h hi hw => impl_leadOk.pure x h hw
def impl_leadOk.e : GE := ⟨63, c_impl_leadOk, ⟨_, Try.func63, rfl, rfl⟩, impl_leadOk.ok⟩

end Go.Proofs.Ythkghdmpkdpnkaa.B
