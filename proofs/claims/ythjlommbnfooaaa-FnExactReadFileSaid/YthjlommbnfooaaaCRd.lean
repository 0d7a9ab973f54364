/- Pieces of a text, one behind the other. -/
import Derived.Test.YthjlommbnfooaaaCReadB
namespace Go.Proofs.Ythjlommbnfooaaa.B
set_option linter.unusedVariables false
set_option linter.unusedSimpArgs false
open Go Go.Proofs.Ythjlommbnfooaaa.Bv

def fBytes (i : Rd) (n : Int) : List UInt8 × Rd := if i.2 = true ∧ n ≤ i.1.length then (i.1.take n.toNat, (i.1.drop n.toNat, true)) else ([], (i.1, false))
def pBytes (i : Rd) (n : Int) : Prop := 0 ≤ n
def fPiece (i : Rd) : List UInt8 × Rd := fBytes (fNum i).2 (fNum i).1
def fKind (i : Rd) : Int × Rd := (((fBytes i 1).1.getD 0 0).toNat, (fBytes i 1).2)
def pStr (s : List UInt8) : Prop := s.length ≤ maxLen
def c_impl_rd_bytes : Con := { io := true, I := (.pair .str .bool), ownI := [], A := (.int .i64), shA := [.one], ownA := [], backA := [], B := .unit, R := .str, shR := [(false, 1)], fresh := [], newR := false, pre := fun i a => (pBytes i a), f := some fun i a => ((fBytes i a).1, ((fBytes i a).2, ())) }
def impl_rd_bytes.F (i0 : ((List UInt8) × Bool)) (a0 : Int) : Prop := (caseB (!i0.2) ((([], ((i0.1, false), ())) : (List UInt8) × (((List UInt8) × Bool) × Unit)) = ((fBytes i0 a0).1, ((fBytes i0 a0).2, ()))) (caseB (decide (a0 > ((List.length i0.1 : Nat) : Int))) ((([], ((i0.1, false), ())) : (List UInt8) × (((List UInt8) × Bool) × Unit)) = ((fBytes i0 a0).1, ((fBytes i0 a0).2, ()))) (0 ≤ a0 ∧ (a0 ≤ ((List.length i0.1 : Nat) : Int) ∧ (0 ≤ a0 ∧ (a0 ≤ ((List.length i0.1 : Nat) : Int) ∧ ((((List.take (Int.toNat a0) i0.1), (((List.drop (Int.toNat a0) i0.1), i0.2), ())) : (List UInt8) × (((List UInt8) × Bool) × Unit)) = ((fBytes i0 a0).1, ((fBytes i0 a0).2, ())))))))))
def impl_rd_bytes.L (i0 : ((List UInt8) × Bool)) (a0 : Int) : Nat → Option LoopAnn := fun p => Go.Proofs.Ythjlommbnfooaaa.Bv.look p []

theorem impl_rd_bytes.pure (i0 : ((List UInt8) × Bool)) (a0 : Int) (h : (pBytes i0 a0)) (hi : Wf c_impl_rd_bytes.I i0) (hw : Wf c_impl_rd_bytes.A a0) : impl_rd_bytes.F i0 a0 := by
  unfold impl_rd_bytes.F
  have h0 : 0 ≤ a0 := h
  simp only [forall_eq, true_and, and_true, caseB_iff, Prod.mk.injEq, decide_eq_true_eq, decide_eq_false_iff_not, Bool.not_eq_true', Bool.not_eq_false', bne_iff_ne, ne_eq, beq_iff_eq, Bool.not_true, Bool.not_false, beq_eq_false_iff_ne, bne_eq_false_iff_eq, List.length_append, List.length_cons, List.length_nil, List.append_nil, Nat.zero_add, decide_true, decide_false, eq_self_iff_true, pBytes, Prod.eta]
  repeat' (with_reducible (first | (refine And.intro ?_ ?_) | intro _))
  all_goals (try simp (disch := omega) only [w64, wu8, tn0, tn1, tm1, tm2, List.length_append, List.length_cons, List.length_nil] at *)
  all_goals (try simp (disch := omega) only [w64, wu8, tn0, tn1, tm1, tm2, List.length_append, List.length_cons, List.length_nil] at *)
  all_goals (try omega)
  all_goals (try grind [fBytes])

set_option maxRecDepth 100000 in
theorem impl_rd_bytes.eq (i : El c_impl_rd_bytes.I) (x : El c_impl_rd_bytes.A) : vc tab (gam [] [] eqs) (impl_rd_bytes.L i x) (match Try.f152.body with | some c => c | none => .skip) 1 (initSt c_impl_rd_bytes Try.f152.ntmps i x) (bodyK tab c_impl_rd_bytes Try.f152.results.toList [9] i x) = impl_rd_bytes.F i x := by kernel_rfl
theorem impl_rd_bytes.ok : ConOk Try.prog 152 c_impl_rd_bytes :=
  conOk_of_eq (con := c_impl_rd_bytes) (tab := tab) (Γ := (gam [] [] eqs)) (fn := Try.f152) (c := (match Try.f152.body with | some c => c | none => .skip)) (fun i x => impl_rd_bytes.L i x) (fun i x => impl_rd_bytes.F i x) rfl tabOk (gam_nil _ [] eqsOk) Try.func152 rfl [9] (by kernel_rfl) impl_rd_bytes.eq fun i x h hi hw => impl_rd_bytes.pure i x h (hi rfl) hw

def c_impl_rd_piece : Con := { io := true, I := (.pair .str .bool), ownI := [], A := .unit, shA := [], ownA := [], backA := [], B := .unit, R := .str, shR := [(false, 1)], fresh := [], newR := false, pre := fun i a => True, f := some fun i a => ((fPiece i).1, ((fPiece i).2, ())) }
def impl_rd_piece.F (i0 : ((List UInt8) × Bool))  : Prop := (True ∧ ∀ (r1 : Int × (((List UInt8) × Bool) × Unit)), ((r1 : Int × (((List UInt8) × Bool) × Unit)) = ((fNum (i0.1, i0.2)).1, ((fNum (i0.1, i0.2)).2, ()))) → ((pBytes (r1.2.1.1, r1.2.1.2) r1.1) ∧ ∀ (r2 : (List UInt8) × (((List UInt8) × Bool) × Unit)), ((r2 : (List UInt8) × (((List UInt8) × Bool) × Unit)) = ((fBytes (r1.2.1.1, r1.2.1.2) r1.1).1, ((fBytes (r1.2.1.1, r1.2.1.2) r1.1).2, ()))) → (((r2.1, ((r2.2.1.1, r2.2.1.2), ())) : (List UInt8) × (((List UInt8) × Bool) × Unit)) = ((fPiece i0).1, ((fPiece i0).2, ())))))
def impl_rd_piece.L (i0 : ((List UInt8) × Bool))  : Nat → Option LoopAnn := fun p => Go.Proofs.Ythjlommbnfooaaa.Bv.look p []

theorem impl_rd_piece.pure (i0 : ((List UInt8) × Bool))  (h : True) (hi : Wf c_impl_rd_piece.I i0) (hw : Wf c_impl_rd_piece.A ()) : impl_rd_piece.F i0 := by
  unfold impl_rd_piece.F
  simp only [forall_eq, true_and, and_true, caseB_iff, Prod.mk.injEq, decide_eq_true_eq, decide_eq_false_iff_not, Bool.not_eq_true', Bool.not_eq_false', bne_iff_ne, ne_eq, beq_iff_eq, Bool.not_true, Bool.not_false, beq_eq_false_iff_ne, bne_eq_false_iff_eq, List.length_append, List.length_cons, List.length_nil, List.append_nil, Nat.zero_add, decide_true, decide_false, eq_self_iff_true, pBytes, Prod.eta]
  exact ⟨(num_in i0).1, rfl, rfl⟩

set_option maxRecDepth 100000 in
theorem impl_rd_piece.eq (i : El c_impl_rd_piece.I) (x : El c_impl_rd_piece.A) : vc tab (gam [(116, c_impl_rd_num), (152, c_impl_rd_bytes)] [] eqs) (impl_rd_piece.L i) (match Try.f119.body with | some c => c | none => .skip) 1 (initSt c_impl_rd_piece Try.f119.ntmps i x) (bodyK tab c_impl_rd_piece Try.f119.results.toList [9] i x) = impl_rd_piece.F i := by kernel_rfl
theorem impl_rd_piece.ok : ConOk Try.prog 119 c_impl_rd_piece :=
  conOk_of_eq (con := c_impl_rd_piece) (tab := tab) (Γ := (gam [(116, c_impl_rd_num), (152, c_impl_rd_bytes)] [] eqs)) (fn := Try.f119) (c := (match Try.f119.body with | some c => c | none => .skip)) (fun i x => impl_rd_piece.L i) (fun i x => impl_rd_piece.F i) rfl tabOk (gam_cons ⟨_, Try.func116, rfl, rfl⟩ impl_rd_num.ok (gam_cons ⟨_, Try.func152, rfl, rfl⟩ impl_rd_bytes.ok (gam_nil _ [] eqsOk))) Try.func119 rfl [9] (by kernel_rfl) impl_rd_piece.eq fun i x h hi hw => impl_rd_piece.pure i h (hi rfl) hw

theorem kind_le (s : List UInt8) : 0 ≤ ((s.getD 0 0).toNat : Int) ∧ ((s.getD 0 0).toNat : Int) ≤ 255 := by
  have := (s.getD 0 0).toNat_lt; omega
def c_impl_rd_kind : Con := { io := true, I := (.pair .str .bool), ownI := [], A := .unit, shA := [], ownA := [], backA := [], B := .unit, R := (.int .i64), shR := [(false, 1)], fresh := [], newR := false, pre := fun i a => True, f := some fun i a => ((fKind i).1, ((fKind i).2, ())) }
def impl_rd_kind.F (i0 : ((List UInt8) × Bool))  : Prop := ((pBytes (i0.1, i0.2) 1) ∧ ∀ (r1 : (List UInt8) × (((List UInt8) × Bool) × Unit)), ((r1 : (List UInt8) × (((List UInt8) × Bool) × Unit)) = ((fBytes (i0.1, i0.2) 1).1, ((fBytes (i0.1, i0.2) 1).2, ()))) → (caseB (r1.1 == []) (((0, ((r1.2.1.1, r1.2.1.2), ())) : Int × (((List UInt8) × Bool) × Unit)) = ((fKind i0).1, ((fKind i0).2, ()))) (0 ≤ (0 : Int) ∧ ((0 : Int) < ((List.length r1.1 : Nat) : Int) ∧ ((((IntKind.wrap .i64 ((UInt8.toNat (List.getD r1.1 (Int.toNat (0 : Int)) 0) : Nat) : Int)), ((r1.2.1.1, r1.2.1.2), ())) : Int × (((List UInt8) × Bool) × Unit)) = ((fKind i0).1, ((fKind i0).2, ())))))))
def impl_rd_kind.L (i0 : ((List UInt8) × Bool))  : Nat → Option LoopAnn := fun p => Go.Proofs.Ythjlommbnfooaaa.Bv.look p []

theorem impl_rd_kind.pure (i0 : ((List UInt8) × Bool))  (h : True) (hi : Wf c_impl_rd_kind.I i0) (hw : Wf c_impl_rd_kind.A ()) : impl_rd_kind.F i0 := by
  unfold impl_rd_kind.F
  simp only [forall_eq, true_and, and_true, caseB_iff, Prod.mk.injEq, decide_eq_true_eq, decide_eq_false_iff_not, Bool.not_eq_true', Bool.not_eq_false', bne_iff_ne, ne_eq, beq_iff_eq, Bool.not_true, Bool.not_false, beq_eq_false_iff_ne, bne_eq_false_iff_eq, List.length_append, List.length_cons, List.length_nil, List.append_nil, Nat.zero_add, decide_true, decide_false, eq_self_iff_true, pBytes, Prod.eta]
  have hk := kind_le (fBytes i0 1).1
  refine ⟨by omega, fun h1 => ?_, fun h1 => ?_⟩
  · unfold fKind; rw [h1]; exact ⟨rfl, rfl⟩
  · have := List.length_pos_iff.2 h1
    rw [show Int.toNat 0 = 0 from rfl, w64 (by omega) (by omega)]
    exact ⟨by omega, by omega, rfl, rfl⟩

set_option maxRecDepth 100000 in
theorem impl_rd_kind.eq (i : El c_impl_rd_kind.I) (x : El c_impl_rd_kind.A) : vc tab (gam [(152, c_impl_rd_bytes)] [] eqs) (impl_rd_kind.L i) (match Try.f151.body with | some c => c | none => .skip) 1 (initSt c_impl_rd_kind Try.f151.ntmps i x) (bodyK tab c_impl_rd_kind Try.f151.results.toList [3] i x) = impl_rd_kind.F i := by kernel_rfl
theorem impl_rd_kind.ok : ConOk Try.prog 151 c_impl_rd_kind :=
  conOk_of_eq (con := c_impl_rd_kind) (tab := tab) (Γ := (gam [(152, c_impl_rd_bytes)] [] eqs)) (fn := Try.f151) (c := (match Try.f151.body with | some c => c | none => .skip)) (fun i x => impl_rd_kind.L i) (fun i x => impl_rd_kind.F i) rfl tabOk (gam_cons ⟨_, Try.func152, rfl, rfl⟩ impl_rd_bytes.ok (gam_nil _ [] eqsOk)) Try.func151 rfl [3] (by kernel_rfl) impl_rd_kind.eq fun i x h hi hw => impl_rd_kind.pure i h (hi rfl) hw

theorem bytes_len (i : Rd) (n : Int) : (fBytes i n).1.length ≤ i.1.length ∧ (fBytes i n).2.1.length ≤ i.1.length := by
  unfold fBytes; split
  · simp only [List.length_take, List.length_drop]; omega
  · simp
theorem num_len (i : Rd) : (fNum i).2.1.length ≤ i.1.length := by
  unfold fNum; split
  · simp only [List.length_drop]; omega
  · simp
theorem piece_len (i : Rd) : (fPiece i).1.length ≤ i.1.length ∧ (fPiece i).2.1.length ≤ i.1.length := by
  have h1 := bytes_len (fNum i).2 (fNum i).1
  have h2 := num_len i
  unfold fPiece; omega
theorem num_yes {i : Rd} (h : i.2 = true) (h2 : (fReadVar i.1).2 ≠ 0) : fNum i = ((fReadVar i.1).1, (i.1.drop (fReadVar i.1).2.toNat, true)) := by
  have := readVar_bound i.1
  unfold fNum; rw [if_pos ⟨h, by omega⟩]
theorem num_no {i : Rd} (h : (fReadVar i.1).2 = 0) : fNum i = (0, (i.1, false)) := by
  unfold fNum; rw [if_neg (by omega)]
theorem num_bad {i : Rd} (h : i.2 = false) : fNum i = (0, (i.1, false)) := by
  unfold fNum; rw [if_neg (by rw [h]; simp)]
theorem kind_at {s : List UInt8} (h : 1 ≤ s.length) : fKind (s, true) = (((s.getD 0 0).toNat : Int), (s.drop 1, true)) := by
  unfold fKind fBytes
  rw [if_pos ⟨rfl, by simp only; omega⟩]
  cases s with
  | nil => simp at h
  | cons a r => rfl
theorem kind_no {s : List UInt8} (h : ¬ 1 ≤ s.length) : (fKind (s, true)).2 = (s, false) := by
  unfold fKind fBytes
  rw [if_neg (by simp only; omega)]
theorem piece_bad {i : Rd} (h : i.2 = false) : (fPiece i).2.2 = false := by
  unfold fPiece fBytes; rw [num_bad h, if_neg (by simp)]
theorem piece_at {s : List UInt8} (h : (fReadVar s).2 ≠ 0) : fPiece (s, true) = if (fReadVar s).1 ≤ (s.length : Int) - (fReadVar s).2 then ((s.drop (fReadVar s).2.toNat).take (fReadVar s).1.toNat, (s.drop ((fReadVar s).2 + (fReadVar s).1).toNat, true)) else ([], (s.drop (fReadVar s).2.toNat, false)) := by
  have hb := readVar_bound s
  unfold fPiece
  rw [num_yes (i := (s, true)) rfl h]
  unfold fBytes
  simp only [List.length_drop]
  by_cases hc : (fReadVar s).1 ≤ (s.length : Int) - (fReadVar s).2
  · rw [if_pos hc, if_pos ⟨trivial, by omega⟩, List.drop_drop]
    rw [show (fReadVar s).2.toNat + (fReadVar s).1.toNat = ((fReadVar s).2 + (fReadVar s).1).toNat by omega]
  · rw [if_neg hc, if_neg (by omega)]
theorem piece_no {s : List UInt8} (h : (fReadVar s).2 = 0) : (fPiece (s, true)).2.2 = false := by
  unfold fPiece; rw [num_no (i := (s, true)) h]; unfold fBytes; rw [if_neg (by simp)]
theorem drop_take_swap (s : List UInt8) (a b : Nat) : (s.take (a + b)).drop a = (s.drop a).take b := by
  rw [List.drop_take]; congr 1; omega
end Go.Proofs.Ythjlommbnfooaaa.B
