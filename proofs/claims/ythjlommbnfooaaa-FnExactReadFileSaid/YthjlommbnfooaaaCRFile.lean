/- Files of series: read. -/
import Derived.Test.YthjlommbnfooaaaCFile
import Derived.Test.YthjlommbnfooaaaCRBlk
import Derived.Test.YthjlommbnfooaaaCRd
namespace Go.Proofs.Ythjlommbnfooaaa.B
set_option linter.unusedVariables false
set_option linter.unusedSimpArgs false
open Go Go.Proofs.Ythjlommbnfooaaa.Bv

def ixF : List Ser → Nat → List UInt8
  | [], _ => []
  | x :: r, n => ftPiece x n ++ ixF r (n + (fShowBlock x.2).length)
def txF (l : List Ser) : List UInt8 := l.flatMap fun x => fShowBlock x.2
theorem ft_fold : ∀ (l : List Ser) (t x : List UInt8), l.foldl ftStep (t, x) = (t ++ txF l, x ++ ixF l t.length)
  | [], t, x => by simp [txF, ixF]
  | s :: l, t, x => by
    rw [List.foldl_cons, ftStep, ft_fold l]
    simp only [txF, ixF, List.flatMap_cons, List.append_assoc, List.length_append]
theorem txF_append (a b : List Ser) : txF (a ++ b) = txF a ++ txF b := by simp [txF]
theorem txF_cons (x : Ser) (b : List Ser) : txF (x :: b) = fShowBlock x.2 ++ txF b := by simp [txF]
theorem txF_length : ∀ l : List Ser, (txF l).length ≤ 2014 * l.length
  | [] => by simp [txF]
  | x :: l => by
    have h1 := txF_length l
    have h2 := fShowBlock_length x.2
    rw [txF_cons, List.length_append, List.length_cons]; omega
def tF (l : List Ser) : List UInt8 := [116, 115, 98, 49] ++ txF l
theorem tF_length (l : List Ser) : (tF l).length = 4 + (txF l).length := by simp [tF]; omega
def RF (s : List UInt8) (l : List Ser) : Prop := (fSerOk l = true ∧ l ≠ []) ∧ fFileText l = s
instance (s : List UInt8) (l : List Ser) : Decidable (RF s l) := by unfold RF; infer_instance
theorem fFixed4' {n : Nat} (h : n < 4294967296) : fFixed n 4 = toBytes (fx 4 n) := by
  unfold fFixed
  rw [if_pos ⟨by decide, by omega, by rw [show (4 : Int).toNat = 4 from rfl]; omega⟩]; rfl
structure Lay (s : List UInt8) (l : List Ser) : Prop where
  len : s.length = (tF l).length + (ixF l 4).length + 8
  five : l.length ≤ 5
  at4 : fReadFixed (s.drop ((tF l).length + (ixF l 4).length)) 4 = (((tF l).length : Int), true)
  ix : (s.take ((tF l).length + (ixF l 4).length)).drop (tF l).length = ixF l 4
  tx : s.take (tF l).length = tF l
theorem RF.lay {s : List UInt8} {l : List Ser} (h : RF s l) : Lay s l := by
  obtain ⟨h0, rfl⟩ := h
  have h5 := (fSer_at h0.1).1
  have ht := txF_length l
  have hl := tF_length l
  have e : ftGo l = (tF l, ixF l 4) := by
    have := ft_fold l [116, 115, 98, 49] []
    rw [List.nil_append] at this
    exact this
  have e2 : fFileText l = (tF l ++ ixF l 4) ++ (fFixed (tF l).length 4 ++ fFixed (fCrc (ftTail (ftGo l))) 4) := by
    unfold fFileText
    rw [if_pos h0]
    conv => lhs; rw [e]
    rw [e]
    simp only [ftTail, List.append_assoc]
  have l1 : (fFixed (tF l).length 4).length = 4 := by rw [fFixed4' (by omega), toBytes_length, fx_length]
  have l2 := crc4_length (ftTail (ftGo l))
  have hlen : (fFileText l).length = (tF l).length + (ixF l 4).length + 8 := by
    rw [e2]; simp only [List.length_append, l1, l2]
  have e3 : (tF l).length + (ixF l 4).length = (tF l ++ ixF l 4).length := by rw [List.length_append]
  refine ⟨hlen, h5, ?_, ?_, ?_⟩
  · rw [e2, e3, List.drop_left]
    unfold fReadFixed
    rw [if_pos ⟨by decide, by rw [List.length_append, l1, l2]; decide⟩, show (4 : Int).toNat = (fFixed (tF l).length 4).length from l1.symm, List.take_left, fFixed4' (by omega), be_fx 4 _ (by omega)]
  · rw [e2, e3, List.take_left, List.drop_left]
  · rw [e2, List.append_assoc, List.take_left]
theorem num_enc {v : Int} (h : inVar v) (q : List UInt8) : fNum (fVar v ++ q, true) = (v, (q, true)) := by
  have hp := fVar_pos h
  have e := rv_enc h q
  rw [num_yes (i := (fVar v ++ q, true)) rfl (by rw [e]; simp only; omega)]
  simp only
  rw [e]
  simp only [Int.toNat_natCast, List.drop_left]
theorem piece_enc {k : List UInt8} (h : k.length ≤ 1000) (q : List UInt8) : fPiece (fVar k.length ++ (k ++ q), true) = (k, (q, true)) := by
  unfold fPiece
  rw [num_enc (by unfold inVar; omega)]
  unfold fBytes
  rw [if_pos ⟨rfl, by simp only [List.length_append]; omega⟩]
  simp only [Int.toNat_natCast, List.take_left, List.drop_left]
/-- What is known of a series in its place. -/
structure At (s : List UInt8) (x : Ser) (p : Nat) (bl : Nat) : Prop where
  key : 1 ≤ x.1.length ∧ x.1.length ≤ 8
  eb : bl = (fShowBlock x.2).length
  blk : (s.take (p + bl)).drop p = fShowBlock x.2
  fit : p + bl + 8 ≤ s.length
  small : p + bl ≤ 12000
  read : fReadBlock (fShowBlock x.2) = (x.2, true)
  t0 : inVar (x.2.getD 0 (0, 0)).1
  t1 : inVar (x.2.getD (x.2.length - 1) (0, 0)).1
theorem readB_show {l : List Pt} (h : fPtsOk l = true ∧ l ≠ []) : fReadBlock (fShowBlock l) = (l, true) := (readB_yes ⟨h, by unfold fShowBlock; rw [if_pos h]; rfl⟩).symm
theorem pt_in {l : List Pt} (h : fPtsOk l = true) {i : Nat} (hi : i < l.length) : 0 ≤ (l.getD i (0, 0)).1 ∧ (l.getD i (0, 0)).1 ≤ 1099511627776 := by
  have := (ptAt_iff.1 ((fPtsOk_iff.1 h).2 i hi)).1
  have := riseAt_iff.1 this
  rw [getD_map1] at this
  exact this.1
theorem RF.at {s : List UInt8} {a b : List Ser} {x : Ser} (h : RF s (a ++ x :: b)) : At s x (4 + (txF a).length) (fShowBlock x.2).length := by
  have L := h.lay
  have hs := (fSer_at h.1.1).2 a.length (by simp)
  have ex : (a ++ x :: b).getD a.length ([], []) = x := by simp [List.getD_eq_getElem?_getD]
  rw [ex] at hs
  obtain ⟨q1, q2, q3, q4⟩ := hs
  have q5 : 0 < x.2.length := by omega
  have q3 : x.2 ≠ [] := List.length_pos_iff.1 q5
  have htl := tF_length (a ++ x :: b)
  have e1 : tF (a ++ x :: b) = ([116, 115, 98, 49] ++ txF a) ++ (fShowBlock x.2 ++ txF b) := by
    simp only [tF, txF_append, txF_cons, List.append_assoc]
  have e2 : 4 + (txF a).length = ([116, 115, 98, 49] ++ txF a).length := by simp; omega
  have e3 : (tF (a ++ x :: b)).length = 4 + (txF a).length + (fShowBlock x.2).length + (txF b).length := by
    rw [e1]; simp only [List.length_append, List.length_cons, List.length_nil]; omega
  have e4 : s.take (4 + (txF a).length + (fShowBlock x.2).length) = ([116, 115, 98, 49] ++ txF a) ++ fShowBlock x.2 := by
    have : s.take (4 + (txF a).length + (fShowBlock x.2).length) = (s.take (tF (a ++ x :: b)).length).take (4 + (txF a).length + (fShowBlock x.2).length) := by
      rw [List.take_take]; congr 1; omega
    rw [this, L.tx, e1, ← List.append_assoc, e2, ← List.length_append, List.take_left]
  have p0 := pt_in q4 (i := 0) (by omega)
  have p1 := pt_in q4 (i := x.2.length - 1) (by omega)
  have h5 := L.five
  have tb := txF_length (a ++ x :: b)
  have el := L.len
  refine ⟨⟨q2, q1⟩, rfl, ?_, by omega, by omega, readB_show ⟨q4, q3⟩, by unfold inVar; omega, by unfold inVar; omega⟩
  rw [e4, e2, List.drop_left]
theorem ft_assoc (x : Ser) (p : Nat) (r : List UInt8) : ftPiece x p ++ r = fVar x.1.length ++ (x.1 ++ (fVar p ++ (fVar (fShowBlock x.2).length ++ (fVar (x.2.getD 0 (0, 0)).1 ++ (fVar (x.2.getD (x.2.length - 1) (0, 0)).1 ++ r))))) := by
  simp only [ftPiece, List.append_assoc]
/-- How the program's reader reads a series. -/
structure Rs (s rest : List UInt8) (x : Ser) (p : Nat) (r : List UInt8) : Prop where
  k : (fPiece (rest, true)).1 = x.1
  b : (fNum (fPiece (rest, true)).2).1 = (p : Int)
  c : (fNum (fNum (fPiece (rest, true)).2).2).1 = ((fShowBlock x.2).length : Int)
  d : (fNum (fNum (fNum (fNum (fPiece (rest, true)).2).2).2).2).2 = (r, true)
theorem At.rs {s : List UInt8} {x : Ser} {p : Nat} (h : At s x p (fShowBlock x.2).length) (r : List UInt8) : Rs s (ftPiece x p ++ r) x p r := by
  have hk := h.key
  have hs := h.small
  have a1 := piece_enc (k := x.1) (by omega) (fVar p ++ (fVar (fShowBlock x.2).length ++ (fVar (x.2.getD 0 (0, 0)).1 ++ (fVar (x.2.getD (x.2.length - 1) (0, 0)).1 ++ r))))
  have a2 := num_enc (v := (p : Int)) (by unfold inVar; omega) (fVar (fShowBlock x.2).length ++ (fVar (x.2.getD 0 (0, 0)).1 ++ (fVar (x.2.getD (x.2.length - 1) (0, 0)).1 ++ r)))
  have a3 := num_enc (v := ((fShowBlock x.2).length : Int)) (by unfold inVar; omega) (fVar (x.2.getD 0 (0, 0)).1 ++ (fVar (x.2.getD (x.2.length - 1) (0, 0)).1 ++ r))
  have a4 := num_enc h.t0 (fVar (x.2.getD (x.2.length - 1) (0, 0)).1 ++ r)
  have a5 := num_enc h.t1 r
  rw [ft_assoc]
  refine ⟨?_, ?_, ?_, ?_⟩
  · rw [a1]
  · rw [a1]; simp only; rw [a2]
  · rw [a1]; simp only; rw [a2]; simp only; rw [a3]
  · rw [a1]; simp only; rw [a2]; simp only; rw [a3]; simp only; rw [a4]; simp only; rw [a5]
def dcF (s : List UInt8) : Nat → Rd → List Ser
  | 0, _ => []
  | k + 1, r => if r.1 = [] then [] else ((fPiece r).1, (fReadBlock ((s.take ((fNum (fPiece r).2).1 + (fNum (fNum (fPiece r).2).2).1).toNat).drop (fNum (fPiece r).2).1.toNat)).1) :: dcF s k (fNum (fNum (fNum (fNum (fPiece r).2).2).2).2).2
def cF (s : List UInt8) : List Ser := dcF s 6 ((s.take (s.length - 8)).drop (fReadFixed (s.drop (s.length - 8)) 4).1.toNat, true)
theorem piece_pos {x : Ser} {p : Nat} (h : 1 ≤ x.1.length) (r : List UInt8) : ftPiece x p ++ r ≠ [] := by
  intro e
  have := congrArg List.length e
  rw [ft_assoc] at this
  simp only [List.length_append, List.length_nil] at this
  omega
theorem dc_all {s : List UInt8} : ∀ (b a : List Ser) (k : Nat), RF s (a ++ b) → b.length < k → dcF s k (ixF b (4 + (txF a).length), true) = b
  | [], a, k + 1, h, hk => by simp [dcF, ixF]
  | x :: b, a, k + 1, h, hk => by
    have A := h.at
    have R := A.rs (ixF b (4 + (txF a).length + (fShowBlock x.2).length))
    rw [dcF, if_neg (by simp only; rw [ixF]; exact piece_pos A.key.1 _), ixF, R.d]
    have hn : RF s ((a ++ [x]) ++ b) := by rw [List.append_assoc]; exact h
    have ih := dc_all b (a ++ [x]) k hn (by simp at hk; omega)
    rw [txF_append, List.length_append, show txF [x] = fShowBlock x.2 by simp [txF], ← Nat.add_assoc] at ih
    rw [ih, R.c, R.b, R.k]
    rw [show ((((4 + (txF a).length : Nat) : Int) + ((fShowBlock x.2).length : Int))).toNat = 4 + (txF a).length + (fShowBlock x.2).length by omega, Int.toNat_natCast, A.blk, A.read]
theorem RF.dec {s : List UInt8} {l : List Ser} (h : RF s l) : cF s = l := by
  have L := h.lay
  have e : s.length - 8 = (tF l).length + (ixF l 4).length := by rw [L.len]; omega
  unfold cF
  rw [e, L.at4]
  simp only [Int.toNat_natCast]
  rw [L.ix]
  have := dc_all (s := s) l [] 6 (by simpa using h) (by have := L.five; omega)
  simpa [txF] using this
def fReadFile (s : List UInt8) : List Ser × Bool := if RF s (cF s) then (cF s, true) else ([], false)
theorem readF_yes {s : List UInt8} {l : List Ser} (h : RF s l) : (l, true) = fReadFile s := by
  unfold fReadFile; rw [h.dec, if_pos h]
theorem readF_no {s : List UInt8} (h : ∀ l, ¬ RF s l) : ([], false) = fReadFile s := by
  unfold fReadFile; rw [if_neg (h _)]
theorem RF_of {s : List UInt8} {l : List Ser} (h : fFileText l = s) (h2 : s ≠ []) : RF s l := by
  unfold RF
  refine ⟨?_, h⟩
  unfold fFileText at h
  split at h
  · rename_i h3; exact h3
  · exact absurd h.symm h2
def fI (s rest : List UInt8) (ok : Bool) (out : List Ser) : Prop := (rest.length ≤ s.length ∧ (∀ x ∈ out, x.1.length ≤ maxLen) ∧ out.length ≤ 6) ∧ ∀ l, RF s l → ok = true ∧ ∃ b, l = out ++ b ∧ rest = ixF b (4 + (txF out).length)
def fM (s rest : List UInt8) (ok : Bool) (out : List Ser) : Nat := 6 - out.length
theorem f_full {s rest : List UInt8} {ok : Bool} {out : List Ser} (h : fI s rest ok out) (he : ok = true → rest ≠ [] → out.length ≤ 5 → False) : ∀ l, RF s l → ok = true ∧ out = l := fun l hl => by
  obtain ⟨h1, b, h2, h3⟩ := h.2 l hl
  refine ⟨h1, ?_⟩
  have h5 := hl.lay.five
  cases b with
  | nil => rw [h2]; simp
  | cons x b =>
    exfalso
    subst h2
    have A := hl.at
    exact he h1 (by rw [h3, ixF]; exact piece_pos A.key.1 _) (by rw [List.length_append] at h5; omega)
/-- What is done with what was read. -/
theorem f_end {s rest : List UInt8} {ok : Bool} {out : List Ser} (hs : s ≠ []) (h : fI s rest ok out) (he : ok = true → rest ≠ [] → out.length ≤ 5 → False) :
    (ok = false → ([], false) = fReadFile s) ∧ (ok = true → ((out.length : Int) = 0 → ([], false) = fReadFile s) ∧ (¬ (out.length : Int) = 0 → pSerOk out ∧ (¬ fFileText out = s → ([], false) = fReadFile s) ∧ (fFileText out = s → (out, true) = fReadFile s))) := by
  have hf := f_full h he
  refine ⟨fun h1 => readF_no fun l hl => ?_, fun h1 => ⟨fun h2 => readF_no fun l hl => ?_, fun h2 => ⟨h.1.2.1, fun h3 => readF_no fun l hl => h3 ?_, fun h3 => readF_yes (RF_of h3 hs)⟩⟩⟩
  · rw [(hf l hl).1] at h1; cases h1
  · have := (hf l hl).2; exact hl.1.2 (by rw [← this]; exact List.length_eq_zero_iff.1 (by omega))
  · rw [(hf l hl).2]; exact hl.2
theorem f_step {s rest : List UInt8} {out : List Ser} (h : fI s rest true out) (hr : rest ≠ []) : (∀ l, RF s l → ∃ x b, l = out ++ x :: b ∧ rest = ftPiece x (4 + (txF out).length) ++ ixF b (4 + (txF out).length + (fShowBlock x.2).length) ∧ At s x (4 + (txF out).length) (fShowBlock x.2).length ∧ Rs s rest x (4 + (txF out).length) (ixF b (4 + (txF out).length + (fShowBlock x.2).length))) := fun l hl => by
  obtain ⟨h1, b, h2, h3⟩ := h.2 l hl
  cases b with
  | nil => exact absurd h3 hr
  | cons x b =>
    rw [ixF] at h3
    have A : At s x (4 + (txF out).length) (fShowBlock x.2).length := RF.at (h2 ▸ hl)
    exact ⟨x, b, h2, h3, A, h3 ▸ A.rs _⟩

def c_impl_ReadFile : Con := { io := false, I := .unit, ownI := [], A := .str, shA := [.one], ownA := [], backA := [], B := .unit, R := (.pair (.list (.pair .str (.list (.pair (.int .i64) (.int .i64))))) .bool), shR := [(false, 1), (false, 1)], fresh := [(0, 115)], newR := false, pre := fun _ a => (pStr a), f := some fun _ a => ((fReadFile a), ((), ())) }
def impl_ReadFile.F  (a0 : (List UInt8)) : Prop := (caseB (decide ((IntKind.wrap .i64 (((List.length a0 : Nat) : Int) - (8 : Int))) < (4 : Int))) ((((([] : (List ((List UInt8) × (List (Int × Int))))), false), ((), ())) : ((List ((List UInt8) × (List (Int × Int)))) × Bool) × (Unit × Unit)) = ((fReadFile a0), ((), ()))) (0 ≤ (IntKind.wrap .i64 (((List.length a0 : Nat) : Int) - (8 : Int))) ∧ ((IntKind.wrap .i64 (((List.length a0 : Nat) : Int) - (8 : Int))) ≤ ((List.length a0 : Nat) : Int) ∧ (True ∧ ∀ (r1 : (Int × Bool) × (Unit × Unit)), ((r1 : (Int × Bool) × (Unit × Unit)) = ((fReadFixed (List.drop (Int.toNat (IntKind.wrap .i64 (((List.length a0 : Nat) : Int) - (8 : Int)))) a0) 4), ((), ()))) → (caseB (decide (r1.1.1 > (IntKind.wrap .i64 (((List.length a0 : Nat) : Int) - (8 : Int))))) ((((([] : (List ((List UInt8) × (List (Int × Int))))), false), ((), ())) : ((List ((List UInt8) × (List (Int × Int)))) × Bool) × (Unit × Unit)) = ((fReadFile a0), ((), ()))) (0 ≤ r1.1.1 ∧ (r1.1.1 ≤ (IntKind.wrap .i64 (((List.length a0 : Nat) : Int) - (8 : Int))) ∧ ((IntKind.wrap .i64 (((List.length a0 : Nat) : Int) - (8 : Int))) ≤ ((List.length a0 : Nat) : Int) ∧ (([(0, .val false [.str a0]), (4, .val false [.int .i64 (IntKind.wrap .i64 (((List.length a0 : Nat) : Int) - (8 : Int)))]), (7, .box 35 0)] : List (Nat × Sv)) = [(0, .val false [.str a0]), (4, .val false [.int .i64 (IntKind.wrap .i64 (((List.length a0 : Nat) : Int) - (8 : Int)))]), (7, .box 35 0)] ∧ ((fI a0 (List.drop (Int.toNat r1.1.1) (List.take (Int.toNat (IntKind.wrap .i64 (((List.length a0 : Nat) : Int) - (8 : Int)))) a0)) true ([] : List ((List UInt8) × (List (Int × Int))))) ∧ ∀ (y2 : ((List UInt8) × (Bool × (List ((List UInt8) × (List (Int × Int))))))), (fI a0 y2.1 y2.2.1 y2.2.2) → (caseB y2.2.1 (caseB (!(y2.1 == [])) (caseB (decide (((List.length y2.2.2 : Nat) : Int) ≤ (5 : Int))) (True ∧ ∀ (r3 : (List UInt8) × (((List UInt8) × Bool) × Unit)), ((r3 : (List UInt8) × (((List UInt8) × Bool) × Unit)) = ((fPiece (y2.1, y2.2.1)).1, ((fPiece (y2.1, y2.2.1)).2, ()))) → (True ∧ ∀ (r4 : Int × (((List UInt8) × Bool) × Unit)), ((r4 : Int × (((List UInt8) × Bool) × Unit)) = ((fNum (r3.2.1.1, r3.2.1.2)).1, ((fNum (r3.2.1.1, r3.2.1.2)).2, ()))) → (True ∧ ∀ (r5 : Int × (((List UInt8) × Bool) × Unit)), ((r5 : Int × (((List UInt8) × Bool) × Unit)) = ((fNum (r4.2.1.1, r4.2.1.2)).1, ((fNum (r4.2.1.1, r4.2.1.2)).2, ()))) → (True ∧ ∀ (r6 : Int × (((List UInt8) × Bool) × Unit)), ((r6 : Int × (((List UInt8) × Bool) × Unit)) = ((fNum (r5.2.1.1, r5.2.1.2)).1, ((fNum (r5.2.1.1, r5.2.1.2)).2, ()))) → (True ∧ ∀ (r7 : Int × (((List UInt8) × Bool) × Unit)), ((r7 : Int × (((List UInt8) × Bool) × Unit)) = ((fNum (r6.2.1.1, r6.2.1.2)).1, ((fNum (r6.2.1.1, r6.2.1.2)).2, ()))) → (caseB (!r7.2.1.2) ((((([] : (List ((List UInt8) × (List (Int × Int))))), false), ((), ())) : ((List ((List UInt8) × (List (Int × Int)))) × Bool) × (Unit × Unit)) = ((fReadFile a0), ((), ()))) (caseB (decide (r4.1 > (IntKind.wrap .i64 (((List.length a0 : Nat) : Int) - (8 : Int))))) ((((([] : (List ((List UInt8) × (List (Int × Int))))), false), ((), ())) : ((List ((List UInt8) × (List (Int × Int)))) × Bool) × (Unit × Unit)) = ((fReadFile a0), ((), ()))) (caseB (decide (r5.1 > (IntKind.wrap .i64 ((IntKind.wrap .i64 (((List.length a0 : Nat) : Int) - (8 : Int))) - r4.1)))) ((((([] : (List ((List UInt8) × (List (Int × Int))))), false), ((), ())) : ((List ((List UInt8) × (List (Int × Int)))) × Bool) × (Unit × Unit)) = ((fReadFile a0), ((), ()))) (0 ≤ r4.1 ∧ (r4.1 ≤ (IntKind.wrap .i64 (r4.1 + r5.1)) ∧ ((IntKind.wrap .i64 (r4.1 + r5.1)) ≤ ((List.length a0 : Nat) : Int) ∧ (True ∧ ∀ (r8 : ((List (Int × Int)) × Bool) × (Unit × Unit)), ((r8 : ((List (Int × Int)) × Bool) × (Unit × Unit)) = ((fReadBlock (List.drop (Int.toNat r4.1) (List.take (Int.toNat (IntKind.wrap .i64 (r4.1 + r5.1))) a0))), ((), ()))) → (List.length y2.2.2 + List.length [(r3.1, r8.1.1)] ≤ 9223372036854775807 ∧ ((List.length y2.2.2 + List.length [(r3.1, r8.1.1)]) * 40 ≤ 140737488355328 ∧ (([(0, .val false [.str a0]), (4, .val false [.int .i64 (IntKind.wrap .i64 (((List.length a0 : Nat) : Int) - (8 : Int)))]), (7, .box 35 0)] : List (Nat × Sv)) = [(0, .val false [.str a0]), (4, .val false [.int .i64 (IntKind.wrap .i64 (((List.length a0 : Nat) : Int) - (8 : Int)))]), (7, .box 35 0)] ∧ (fI a0 r7.2.1.1 r7.2.1.2 (y2.2.2 ++ [(r3.1, r8.1.1)])) ∧ (fM a0 r7.2.1.1 r7.2.1.2 (y2.2.2 ++ [(r3.1, r8.1.1)])) < (fM a0 y2.1 y2.2.1 y2.2.2)))))))))))))))) (caseB (!y2.2.1) ((((([] : (List ((List UInt8) × (List (Int × Int))))), false), ((), ())) : ((List ((List UInt8) × (List (Int × Int)))) × Bool) × (Unit × Unit)) = ((fReadFile a0), ((), ()))) (caseB (((List.length y2.2.2 : Nat) : Int) == (0 : Int)) ((((([] : (List ((List UInt8) × (List (Int × Int))))), false), ((), ())) : ((List ((List UInt8) × (List (Int × Int)))) × Bool) × (Unit × Unit)) = ((fReadFile a0), ((), ()))) ((pSerOk y2.2.2) ∧ ∀ (r9 : (List UInt8) × (Unit × Unit)), ((r9 : (List UInt8) × (Unit × Unit)) = ((fFileText y2.2.2), ((), ()))) → (caseB (!(r9.1 == a0)) ((((([] : (List ((List UInt8) × (List (Int × Int))))), false), ((), ())) : ((List ((List UInt8) × (List (Int × Int)))) × Bool) × (Unit × Unit)) = ((fReadFile a0), ((), ()))) ((((y2.2.2, true), ((), ())) : ((List ((List UInt8) × (List (Int × Int)))) × Bool) × (Unit × Unit)) = ((fReadFile a0), ((), ())))))))) (caseB (!y2.2.1) ((((([] : (List ((List UInt8) × (List (Int × Int))))), false), ((), ())) : ((List ((List UInt8) × (List (Int × Int)))) × Bool) × (Unit × Unit)) = ((fReadFile a0), ((), ()))) (caseB (((List.length y2.2.2 : Nat) : Int) == (0 : Int)) ((((([] : (List ((List UInt8) × (List (Int × Int))))), false), ((), ())) : ((List ((List UInt8) × (List (Int × Int)))) × Bool) × (Unit × Unit)) = ((fReadFile a0), ((), ()))) ((pSerOk y2.2.2) ∧ ∀ (r10 : (List UInt8) × (Unit × Unit)), ((r10 : (List UInt8) × (Unit × Unit)) = ((fFileText y2.2.2), ((), ()))) → (caseB (!(r10.1 == a0)) ((((([] : (List ((List UInt8) × (List (Int × Int))))), false), ((), ())) : ((List ((List UInt8) × (List (Int × Int)))) × Bool) × (Unit × Unit)) = ((fReadFile a0), ((), ()))) ((((y2.2.2, true), ((), ())) : ((List ((List UInt8) × (List (Int × Int)))) × Bool) × (Unit × Unit)) = ((fReadFile a0), ((), ())))))))) (caseB (!y2.2.1) ((((([] : (List ((List UInt8) × (List (Int × Int))))), false), ((), ())) : ((List ((List UInt8) × (List (Int × Int)))) × Bool) × (Unit × Unit)) = ((fReadFile a0), ((), ()))) (caseB (((List.length y2.2.2 : Nat) : Int) == (0 : Int)) ((((([] : (List ((List UInt8) × (List (Int × Int))))), false), ((), ())) : ((List ((List UInt8) × (List (Int × Int)))) × Bool) × (Unit × Unit)) = ((fReadFile a0), ((), ()))) ((pSerOk y2.2.2) ∧ ∀ (r11 : (List UInt8) × (Unit × Unit)), ((r11 : (List UInt8) × (Unit × Unit)) = ((fFileText y2.2.2), ((), ()))) → (caseB (!(r11.1 == a0)) ((((([] : (List ((List UInt8) × (List (Int × Int))))), false), ((), ())) : ((List ((List UInt8) × (List (Int × Int)))) × Bool) × (Unit × Unit)) = ((fReadFile a0), ((), ()))) ((((y2.2.2, true), ((), ())) : ((List ((List UInt8) × (List (Int × Int)))) × Bool) × (Unit × Unit)) = ((fReadFile a0), ((), ()))))))))))))))))))
def impl_ReadFile.L  (a0 : (List UInt8)) : Nat → Option LoopAnn := fun p => Go.Proofs.Ythjlommbnfooaaa.Bv.look p [(1020, { kp := { hold := [0, 4, 7], slots := [8], boxes := [35], rows := [{ bx := false, s := 8, i := 0, k := 1001027, e := 115, hot := true }] }, T := (.pair .str (.pair .bool (.list (.pair .str (.list (.pair (.int .i64) (.int .i64))))))), I := fun st y => fI a0 y.1 y.2.1 y.2.2, μ := fun st y => fM a0 y.1 y.2.1 y.2.2 })]

theorem impl_ReadFile.pure  (a0 : (List UInt8)) (h : (pStr a0)) (hw : Wf c_impl_ReadFile.A a0) : impl_ReadFile.F a0 := by
  unfold impl_ReadFile.F
  simp only [forall_eq, true_and, and_true, caseB_iff, Prod.mk.injEq, decide_eq_true_eq, decide_eq_false_iff_not, Bool.not_eq_true', Bool.not_eq_false', bne_iff_ne, ne_eq, beq_iff_eq, Bool.not_true, Bool.not_false, beq_eq_false_iff_ne, bne_eq_false_iff_eq, List.length_append, List.length_cons, List.length_nil, List.append_nil, Nat.zero_add, decide_true, decide_false, eq_self_iff_true, Prod.eta]
  have hl : a0.length ≤ maxLen := h
  have hl2 := hl
  unfold maxLen at hl
  rw [w64 (x := (a0.length : Int) - 8) (by omega) (by omega)]
  have hbe := be_lt (s := a0.drop ((a0.length : Int) - 8).toNat) (w := 4)
  refine ⟨fun h1 => readF_no fun l hl => ?_, fun h1 => ?_⟩
  · have L := hl.lay; have := L.len; have := tF_length l; omega
  have hne : a0 ≠ [] := fun e => by rw [e] at h1; simp at h1
  have en : ((a0.length : Int) - 8).toNat = a0.length - 8 := by omega
  rw [en] at hbe ⊢
  refine ⟨by omega, by omega, fun h2 => readF_no fun l hl => ?_, fun h2 => ⟨by omega, by omega, by omega, ⟨⟨by rw [List.length_drop, List.length_take]; omega, by simp, by simp⟩, fun l hl => ⟨rfl, l, rfl, ?_⟩⟩, fun y hI => ?_⟩⟩
  · have L := hl.lay
    have := L.len
    rw [show a0.length - 8 = (tF l).length + (ixF l 4).length by omega, L.at4] at h2
    simp only at h2; omega
  · have L := hl.lay
    have := L.len
    rw [show a0.length - 8 = (tF l).length + (ixF l 4).length by omega, L.at4]
    simp only [Int.toNat_natCast]
    rw [L.ix]; rfl
  obtain ⟨rest, ok, out⟩ := y
  simp only at hI ⊢
  refine ⟨fun h3 => ⟨fun h4 => ⟨fun h5 => ?_, fun h5 => f_end hne hI (fun _ _ h6 => by omega)⟩, fun h4 => f_end hne hI (fun _ h6 _ => h6 h4)⟩, fun h3 => f_end hne hI (fun h6 _ _ => by rw [h6] at h3; cases h3)⟩
  subst h3
  have st := f_step hI h4
  obtain ⟨⟨r1, r2, r3⟩, _⟩ := hI
  have n1 := num_in (fPiece (rest, true)).2
  have n2 := num_in (fNum (fPiece (rest, true)).2).2
  have k1 := piece_len (rest, true)
  have k2 := num_len (fPiece (rest, true)).2
  have k3 := num_len (fNum (fPiece (rest, true)).2).2
  have k4 := num_len (fNum (fNum (fPiece (rest, true)).2).2).2
  have k5 := num_len (fNum (fNum (fNum (fPiece (rest, true)).2).2).2).2
  simp only at k1
  refine ⟨fun h6 => readF_no fun l hl => ?_, fun h6 => ⟨fun h7 => readF_no fun l hl => ?_, fun h7 => ?_⟩⟩
  · obtain ⟨x, b, e1, e2, A, R⟩ := st l hl
    rw [R.d] at h6; cases h6
  · obtain ⟨x, b, e1, e2, A, R⟩ := st l hl
    rw [R.b] at h7
    have := A.fit
    omega
  rw [w64 (x := (a0.length : Int) - 8 - (fNum (fPiece (rest, true)).2).1) (by omega) (by omega)]
  refine ⟨fun h8 => readF_no fun l hl => ?_, fun h8 => ?_⟩
  · obtain ⟨x, b, e1, e2, A, R⟩ := st l hl
    rw [R.b, R.c] at h8
    have := A.fit
    omega
  rw [w64 (x := (fNum (fPiece (rest, true)).2).1 + (fNum (fNum (fPiece (rest, true)).2).2).1) (by omega) (by omega)]
  refine ⟨by omega, by omega, by omega, by omega, by omega, ⟨⟨by omega, ?_, by simp; omega⟩, fun l hl => ?_⟩, by unfold fM; simp; omega⟩
  · intro x hx
    rcases List.mem_append.1 hx with hx | hx
    · exact r2 x hx
    · rw [List.mem_singleton.1 hx]; simp only; unfold maxLen; omega
  · obtain ⟨x, b, e1, e2, A, R⟩ := st l hl
    refine ⟨h6, b, ?_, ?_⟩
    · rw [e1, R.c, R.b, R.k]
      rw [show ((((4 + (txF out).length : Nat) : Int) + ((fShowBlock x.2).length : Int))).toNat = 4 + (txF out).length + (fShowBlock x.2).length by omega, Int.toNat_natCast, A.blk, A.read]
      simp
    · rw [R.d, R.c, R.b, R.k]
      rw [show ((((4 + (txF out).length : Nat) : Int) + ((fShowBlock x.2).length : Int))).toNat = 4 + (txF out).length + (fShowBlock x.2).length by omega, Int.toNat_natCast, A.blk, A.read]
      simp only [txF_append, List.length_append]
      rw [show txF [(x.1, x.2)] = fShowBlock x.2 by simp [txF], ← Nat.add_assoc]

set_option maxRecDepth 100000 in
theorem impl_ReadFile.eq (i : El c_impl_ReadFile.I) (x : El c_impl_ReadFile.A) : vc tab (gam [(28, c_impl_FileText), (31, c_impl_ReadBlock), (116, c_impl_rd_num), (118, c_impl_ReadFixed), (119, c_impl_rd_piece)] [] eqs) (impl_ReadFile.L x) (match Try.f56.body with | some c => c | none => .skip) 1 (initSt c_impl_ReadFile Try.f56.ntmps i x) (bodyK tab c_impl_ReadFile Try.f56.results.toList [35, 4] i x) = impl_ReadFile.F x := by kernel_rfl
theorem impl_ReadFile.ok : ConOk Try.prog 56 c_impl_ReadFile :=
  conOk_of_eq (con := c_impl_ReadFile) (tab := tab) (Γ := (gam [(28, c_impl_FileText), (31, c_impl_ReadBlock), (116, c_impl_rd_num), (118, c_impl_ReadFixed), (119, c_impl_rd_piece)] [] eqs)) (fn := Try.f56) (c := (match Try.f56.body with | some c => c | none => .skip)) (fun i x => impl_ReadFile.L x) (fun i x => impl_ReadFile.F x) rfl tabOk (gam_cons ⟨_, Try.func28, rfl, rfl⟩ impl_FileText.ok (gam_cons ⟨_, Try.func31, rfl, rfl⟩ impl_ReadBlock.ok (gam_cons ⟨_, Try.func116, rfl, rfl⟩ impl_rd_num.ok (gam_cons ⟨_, Try.func118, rfl, rfl⟩ impl_ReadFixed.ok (gam_cons ⟨_, Try.func119, rfl, rfl⟩ impl_rd_piece.ok (gam_nil _ [] eqsOk)))))) Try.func56 rfl [35, 4] (by kernel_rfl) impl_ReadFile.eq fun i x h hi hw => impl_ReadFile.pure x h hw


/-! The reference's reading. -/
def ixPost (s : List UInt8) (y : (List Ser × Bool) × (Unit × Unit)) : Prop := (∀ x ∈ y.1.1, x.1.length ≤ maxLen) ∧ (y.1.2 = true → s ≠ []) ∧ ∀ l, RF s l → y.1 = (l, true)
def lI (s : List UInt8) (at' : Int) (out : List Ser) : Prop := (12 ≤ s.length ∧ 0 ≤ at' ∧ at' ≤ (s.length : Int) - 8 ∧ (∀ x ∈ out, x.1.length ≤ maxLen) ∧ out.length ≤ 5) ∧ ∀ l, RF s l → ∃ b, l = out ++ b ∧ (s.take (s.length - 8)).drop at'.toNat = ixF b (4 + (txF out).length)
def lM (s : List UInt8) (at' : Int) (out : List Ser) : Nat := ((s.length : Int) - at').toNat
theorem ix_no {s : List UInt8} {out : List Ser} (h : ∀ x ∈ out, x.1.length ≤ maxLen) (h2 : ∀ l, RF s l → False) : ixPost s ((out, false), ((), ())) := ⟨h, fun h => (by cases h), fun l hl => absurd hl (h2 l)⟩
/-- How the reference reads a series. -/
structure Sp (s : List UInt8) (a : Nat) (x : Ser) (p : Nat) (r : List UInt8) : Prop where
  v : fReadVar ((s.take (s.length - 8)).drop a) = ((x.1.length : Int), ((fVar x.1.length).length : Int))
  kp : 0 < (fVar x.1.length).length
  fit : a + (fVar x.1.length).length + x.1.length ≤ s.length - 8
  key : (s.take (a + (fVar x.1.length).length + x.1.length)).drop (a + (fVar x.1.length).length) = x.1
  v7 : fVars7 ((s.take (s.length - 8)).drop (a + (fVar x.1.length).length + x.1.length)) 4 = ([(p : Int), ((fShowBlock x.2).length : Int), (x.2.getD 0 (0, 0)).1, (x.2.getD (x.2.length - 1) (0, 0)).1], ((s.length - 8 - (a + (fVar x.1.length).length + x.1.length) - r.length : Nat) : Int))
  r8 : r.length ≤ s.length - 8 - (a + (fVar x.1.length).length + x.1.length)
  last : (s.take (s.length - 8)).drop (s.length - 8 - r.length) = r
theorem drop_of_append {l a b : List UInt8} (h : l = a ++ b) : l.drop a.length = b := by rw [h, List.drop_left]
theorem At.sp {s : List UInt8} {a p : Nat} {x : Ser} {r : List UInt8} (h : At s x p (fShowBlock x.2).length) (hr : (s.take (s.length - 8)).drop a = ftPiece x p ++ r) : Sp s a x p r := by
  have hk := h.key
  have hs := h.small
  have i1 : inVar (x.1.length : Int) := by unfold inVar; omega
  have i2 : inVar (p : Int) := by unfold inVar; omega
  have i3 : inVar ((fShowBlock x.2).length : Int) := by unfold inVar; omega
  have kp := fVar_pos i1
  have hlen := congrArg List.length hr
  rw [List.length_drop, List.length_take] at hlen
  rw [ft_assoc] at hr hlen
  simp only [List.length_append] at hlen
  have d1 : (s.take (s.length - 8)).drop (a + (fVar x.1.length).length) = x.1 ++ (fVar p ++ (fVar (fShowBlock x.2).length ++ (fVar (x.2.getD 0 (0, 0)).1 ++ (fVar (x.2.getD (x.2.length - 1) (0, 0)).1 ++ r)))) := by
    rw [← List.drop_drop, hr, List.drop_left]
  have d2 : (s.take (s.length - 8)).drop (a + (fVar x.1.length).length + x.1.length) = fVar p ++ (fVar (fShowBlock x.2).length ++ (fVar (x.2.getD 0 (0, 0)).1 ++ (fVar (x.2.getD (x.2.length - 1) (0, 0)).1 ++ r))) := by
    rw [← List.drop_drop, d1, List.drop_left]
  refine ⟨by rw [hr]; exact rv_enc i1 _, kp, by omega, ?_, ?_, by omega, ?_⟩
  · have : s.take (a + (fVar x.1.length).length + x.1.length) = (s.take (s.length - 8)).take (a + (fVar x.1.length).length + x.1.length) := by
      rw [List.take_take]; congr 1; omega
    rw [this, drop_take_swap, d1, List.take_left]
  · rw [d2]
    let W : Nat → Int := fun j => ([(p : Int), ((fShowBlock x.2).length : Int), (x.2.getD 0 (0, 0)).1, (x.2.getD (x.2.length - 1) (0, 0)).1] : List Int).getD j 0
    have hc : cat W 4 = fVar p ++ (fVar (fShowBlock x.2).length ++ (fVar (x.2.getD 0 (0, 0)).1 ++ fVar (x.2.getD (x.2.length - 1) (0, 0)).1)) := by
      simp only [cat, List.nil_append, List.append_assoc]; rfl
    have e : fVar p ++ (fVar (fShowBlock x.2).length ++ (fVar (x.2.getD 0 (0, 0)).1 ++ (fVar (x.2.getD (x.2.length - 1) (0, 0)).1 ++ r))) = cat W 4 ++ r := by
      rw [hc]; simp only [List.append_assoc]
    have hv := vars7_cat (W := W) (n := 4) (s := cat W 4 ++ r) (fun j hj => by
      have : j = 0 ∨ j = 1 ∨ j = 2 ∨ j = 3 := by omega
      rcases this with h0 | h0 | h0 | h0 <;> subst h0
      · exact i2
      · exact i3
      · exact h.t0
      · exact h.t1) (by rw [List.take_left])
    rw [e]
    refine hv.trans ?_
    have hcl := congrArg List.length hc
    simp only [List.length_append] at hcl
    rw [Prod.mk.injEq]
    exact ⟨rfl, by omega⟩
  · have d3 : (s.take (s.length - 8)).drop (a + (fVar x.1.length).length + x.1.length + ((fVar p).length + ((fVar (fShowBlock x.2).length).length + ((fVar (x.2.getD 0 (0, 0)).1).length + (fVar (x.2.getD (x.2.length - 1) (0, 0)).1).length)))) = r := by
      rw [← List.drop_drop, d2, ← List.drop_drop, List.drop_left, ← List.drop_drop, List.drop_left, ← List.drop_drop, List.drop_left, List.drop_left]
    have e : s.length - 8 - r.length = a + (fVar x.1.length).length + x.1.length + ((fVar p).length + ((fVar (fShowBlock x.2).length).length + ((fVar (x.2.getD 0 (0, 0)).1).length + (fVar (x.2.getD (x.2.length - 1) (0, 0)).1).length))) := by omega
    rw [e]; exact d3
theorem l_step {s : List UInt8} {at' : Int} {out : List Ser} (h : lI s at' out) (hi : at' < (s.length : Int) - 8) : ∀ l, RF s l → ∃ x b, l = out ++ x :: b ∧ At s x (4 + (txF out).length) (fShowBlock x.2).length ∧ Sp s at'.toNat x (4 + (txF out).length) (ixF b (4 + (txF out).length + (fShowBlock x.2).length)) := fun l hl => by
  obtain ⟨b, h2, h3⟩ := h.2 l hl
  cases b with
  | nil =>
    exfalso
    have := congrArg List.length h3
    rw [List.length_drop, List.length_take] at this
    have h0 := h.1
    simp only [ixF, List.length_nil] at this
    omega
  | cons x b =>
    rw [ixF] at h3
    have A : At s x (4 + (txF out).length) (fShowBlock x.2).length := RF.at (h2 ▸ hl)
    exact ⟨x, b, h2, A, A.sp h3⟩
theorem l_end {s : List UInt8} {at' : Int} {out : List Ser} (h : lI s at' out) (hi : ¬ at' < (s.length : Int) - 8) : ixPost s ((out, true), ((), ())) := by
  obtain ⟨⟨h1, h2, h3, h4, h5⟩, h6⟩ := h
  refine ⟨h4, fun _ e => by rw [e] at h1; simp at h1, fun l hl => ?_⟩
  obtain ⟨b, k1, k2⟩ := h6 l hl
  cases b with
  | nil => rw [k1]; simp
  | cons x b =>
    exfalso
    have A : At s x (4 + (txF out).length) (fShowBlock x.2).length := RF.at (k1 ▸ hl)
    have := congrArg List.length k2
    rw [List.length_drop, List.length_take, ixF, ft_assoc] at this
    have := A.key
    simp only [List.length_append] at *
    omega
def c_spec_l9Index : Con := { io := false, I := .unit, ownI := [], A := .str, shA := [.one], ownA := [], backA := [], B := .unit, R := (.pair (.list (.pair .str (.list (.pair (.int .i64) (.int .i64))))) .bool), shR := [(false, 1), (false, 1)], fresh := [(0, 115)], newR := false, pre := fun _ a => (pStr a), post := fun _ a y => (ixPost a y) }
def spec_l9Index.F  (a0 : (List UInt8)) : Prop := (caseB (decide (((List.length a0 : Nat) : Int) < (12 : Int))) (ixPost a0 ((([] : (List ((List UInt8) × (List (Int × Int))))), false), ((), ()))) (0 ≤ (IntKind.wrap .i64 (((List.length a0 : Nat) : Int) - (8 : Int))) ∧ ((IntKind.wrap .i64 (((List.length a0 : Nat) : Int) - (8 : Int))) ≤ ((List.length a0 : Nat) : Int) ∧ (True ∧ ∀ (r1 : (Int × Bool) × (Unit × Unit)), ((r1 : (Int × Bool) × (Unit × Unit)) = ((fReadFixed (List.drop (Int.toNat (IntKind.wrap .i64 (((List.length a0 : Nat) : Int) - (8 : Int)))) a0) 4), ((), ()))) → (caseB (decide (r1.1.1 > (IntKind.wrap .i64 (((List.length a0 : Nat) : Int) - (8 : Int))))) (ixPost a0 ((([] : (List ((List UInt8) × (List (Int × Int))))), false), ((), ()))) (([(0, .val false [.str a0]), (7, .val false [.int .i64 (IntKind.wrap .i64 (((List.length a0 : Nat) : Int) - (8 : Int)))])] : List (Nat × Sv)) = [(0, .val false [.str a0]), (7, .val false [.int .i64 (IntKind.wrap .i64 (((List.length a0 : Nat) : Int) - (8 : Int)))])] ∧ ((lI a0 r1.1.1 ([] : List ((List UInt8) × (List (Int × Int))))) ∧ ∀ (y2 : (Int × (List ((List UInt8) × (List (Int × Int)))))), (lI a0 y2.1 y2.2) → (caseB (decide (y2.1 < (IntKind.wrap .i64 (((List.length a0 : Nat) : Int) - (8 : Int))))) (0 ≤ y2.1 ∧ (y2.1 ≤ (IntKind.wrap .i64 (((List.length a0 : Nat) : Int) - (8 : Int))) ∧ ((IntKind.wrap .i64 (((List.length a0 : Nat) : Int) - (8 : Int))) ≤ ((List.length a0 : Nat) : Int) ∧ (True ∧ ∀ (r3 : (Int × Int) × (Unit × Unit)), ((r3 : (Int × Int) × (Unit × Unit)) = ((fReadVar (List.drop (Int.toNat y2.1) (List.take (Int.toNat (IntKind.wrap .i64 (((List.length a0 : Nat) : Int) - (8 : Int)))) a0))), ((), ()))) → (caseB (r3.1.2 == (0 : Int)) (ixPost a0 ((y2.2, false), ((), ()))) (caseB (decide (r3.1.1 > (IntKind.wrap .i64 ((IntKind.wrap .i64 ((IntKind.wrap .i64 (((List.length a0 : Nat) : Int) - (8 : Int))) - y2.1)) - r3.1.2)))) (ixPost a0 ((y2.2, false), ((), ()))) (0 ≤ (IntKind.wrap .i64 (y2.1 + r3.1.2)) ∧ ((IntKind.wrap .i64 (y2.1 + r3.1.2)) ≤ (IntKind.wrap .i64 ((IntKind.wrap .i64 (y2.1 + r3.1.2)) + r3.1.1)) ∧ ((IntKind.wrap .i64 ((IntKind.wrap .i64 (y2.1 + r3.1.2)) + r3.1.1)) ≤ ((List.length a0 : Nat) : Int) ∧ (0 ≤ (IntKind.wrap .i64 ((IntKind.wrap .i64 (y2.1 + r3.1.2)) + r3.1.1)) ∧ ((IntKind.wrap .i64 ((IntKind.wrap .i64 (y2.1 + r3.1.2)) + r3.1.1)) ≤ (IntKind.wrap .i64 (((List.length a0 : Nat) : Int) - (8 : Int))) ∧ ((IntKind.wrap .i64 (((List.length a0 : Nat) : Int) - (8 : Int))) ≤ ((List.length a0 : Nat) : Int) ∧ ((p7 (List.drop (Int.toNat (IntKind.wrap .i64 ((IntKind.wrap .i64 (y2.1 + r3.1.2)) + r3.1.1))) (List.take (Int.toNat (IntKind.wrap .i64 (((List.length a0 : Nat) : Int) - (8 : Int)))) a0)) 4) ∧ ∀ (r4 : ((List Int) × Int) × (Unit × Unit)), ((r4 : ((List Int) × Int) × (Unit × Unit)) = ((fVars7 (List.drop (Int.toNat (IntKind.wrap .i64 ((IntKind.wrap .i64 (y2.1 + r3.1.2)) + r3.1.1))) (List.take (Int.toNat (IntKind.wrap .i64 (((List.length a0 : Nat) : Int) - (8 : Int)))) a0)) 4), ((), ()))) → (caseB (decide (r4.1.2 < (0 : Int))) (ixPost a0 ((y2.2, false), ((), ()))) (0 ≤ (0 : Int) ∧ ((0 : Int) < ((List.length r4.1.1 : Nat) : Int) ∧ (caseB (decide ((List.getD r4.1.1 (Int.toNat (0 : Int)) (0 : Int)) > ((List.length a0 : Nat) : Int))) (ixPost a0 ((y2.2, false), ((), ()))) (0 ≤ (1 : Int) ∧ ((1 : Int) < ((List.length r4.1.1 : Nat) : Int) ∧ (0 ≤ (0 : Int) ∧ ((0 : Int) < ((List.length r4.1.1 : Nat) : Int) ∧ (caseB (decide ((List.getD r4.1.1 (Int.toNat (1 : Int)) (0 : Int)) > (IntKind.wrap .i64 (((List.length a0 : Nat) : Int) - (List.getD r4.1.1 (Int.toNat (0 : Int)) (0 : Int)))))) (ixPost a0 ((y2.2, false), ((), ()))) (0 ≤ (0 : Int) ∧ ((0 : Int) < ((List.length r4.1.1 : Nat) : Int) ∧ (0 ≤ (0 : Int) ∧ ((0 : Int) < ((List.length r4.1.1 : Nat) : Int) ∧ (0 ≤ (1 : Int) ∧ ((1 : Int) < ((List.length r4.1.1 : Nat) : Int) ∧ (0 ≤ (List.getD r4.1.1 (Int.toNat (0 : Int)) (0 : Int)) ∧ ((List.getD r4.1.1 (Int.toNat (0 : Int)) (0 : Int)) ≤ (IntKind.wrap .i64 ((List.getD r4.1.1 (Int.toNat (0 : Int)) (0 : Int)) + (List.getD r4.1.1 (Int.toNat (1 : Int)) (0 : Int)))) ∧ ((IntKind.wrap .i64 ((List.getD r4.1.1 (Int.toNat (0 : Int)) (0 : Int)) + (List.getD r4.1.1 (Int.toNat (1 : Int)) (0 : Int)))) ≤ ((List.length a0 : Nat) : Int) ∧ (True ∧ ∀ (r5 : ((List (Int × Int)) × Bool) × (Unit × Unit)), ((r5 : ((List (Int × Int)) × Bool) × (Unit × Unit)) = ((fReadBlock (List.drop (Int.toNat (List.getD r4.1.1 (Int.toNat (0 : Int)) (0 : Int))) (List.take (Int.toNat (IntKind.wrap .i64 ((List.getD r4.1.1 (Int.toNat (0 : Int)) (0 : Int)) + (List.getD r4.1.1 (Int.toNat (1 : Int)) (0 : Int))))) a0))), ((), ()))) → (caseB (!r5.1.2) (ixPost a0 ((y2.2, false), ((), ()))) (List.length y2.2 + List.length [((List.drop (Int.toNat (IntKind.wrap .i64 (y2.1 + r3.1.2))) (List.take (Int.toNat (IntKind.wrap .i64 ((IntKind.wrap .i64 (y2.1 + r3.1.2)) + r3.1.1))) a0)), r5.1.1)] ≤ 9223372036854775807 ∧ ((List.length y2.2 + List.length [((List.drop (Int.toNat (IntKind.wrap .i64 (y2.1 + r3.1.2))) (List.take (Int.toNat (IntKind.wrap .i64 ((IntKind.wrap .i64 (y2.1 + r3.1.2)) + r3.1.1))) a0)), r5.1.1)]) * 40 ≤ 140737488355328 ∧ (caseB (decide (((List.length (y2.2 ++ [((List.drop (Int.toNat (IntKind.wrap .i64 (y2.1 + r3.1.2))) (List.take (Int.toNat (IntKind.wrap .i64 ((IntKind.wrap .i64 (y2.1 + r3.1.2)) + r3.1.1))) a0)), r5.1.1)]) : Nat) : Int) > (5 : Int))) (ixPost a0 (((y2.2 ++ [((List.drop (Int.toNat (IntKind.wrap .i64 (y2.1 + r3.1.2))) (List.take (Int.toNat (IntKind.wrap .i64 ((IntKind.wrap .i64 (y2.1 + r3.1.2)) + r3.1.1))) a0)), r5.1.1)]), false), ((), ()))) (([(0, .val false [.str a0]), (7, .val false [.int .i64 (IntKind.wrap .i64 (((List.length a0 : Nat) : Int) - (8 : Int)))])] : List (Nat × Sv)) = [(0, .val false [.str a0]), (7, .val false [.int .i64 (IntKind.wrap .i64 (((List.length a0 : Nat) : Int) - (8 : Int)))])] ∧ (lI a0 (IntKind.wrap .i64 ((IntKind.wrap .i64 ((IntKind.wrap .i64 (y2.1 + r3.1.2)) + r3.1.1)) + r4.1.2)) (y2.2 ++ [((List.drop (Int.toNat (IntKind.wrap .i64 (y2.1 + r3.1.2))) (List.take (Int.toNat (IntKind.wrap .i64 ((IntKind.wrap .i64 (y2.1 + r3.1.2)) + r3.1.1))) a0)), r5.1.1)])) ∧ (lM a0 (IntKind.wrap .i64 ((IntKind.wrap .i64 ((IntKind.wrap .i64 (y2.1 + r3.1.2)) + r3.1.1)) + r4.1.2)) (y2.2 ++ [((List.drop (Int.toNat (IntKind.wrap .i64 (y2.1 + r3.1.2))) (List.take (Int.toNat (IntKind.wrap .i64 ((IntKind.wrap .i64 (y2.1 + r3.1.2)) + r3.1.1))) a0)), r5.1.1)])) < (lM a0 y2.1 y2.2)))))))))))))))))))))))))))))))))))))) (ixPost a0 ((y2.2, true), ((), ())))))))))))
def spec_l9Index.L  (a0 : (List UInt8)) : Nat → Option LoopAnn := fun p => Go.Proofs.Ythjlommbnfooaaa.Bv.look p [(508, { kp := { hold := [0, 7], slots := [4, 5], boxes := [], rows := [{ bx := false, s := 4, i := 0, k := 1000515, e := 115, hot := true }] }, T := (.pair (.int .i64) (.list (.pair .str (.list (.pair (.int .i64) (.int .i64)))))), I := fun st y => lI a0 y.1 y.2, μ := fun st y => lM a0 y.1 y.2 })]

theorem spec_l9Index.pure  (a0 : (List UInt8)) (h : (pStr a0)) (hw : Wf c_spec_l9Index.A a0) : spec_l9Index.F a0 := by
  unfold spec_l9Index.F
  simp only [forall_eq, true_and, and_true, caseB_iff, Prod.mk.injEq, decide_eq_true_eq, decide_eq_false_iff_not, Bool.not_eq_true', Bool.not_eq_false', bne_iff_ne, ne_eq, beq_iff_eq, Bool.not_true, Bool.not_false, beq_eq_false_iff_ne, bne_eq_false_iff_eq, List.length_append, List.length_cons, List.length_nil, List.append_nil, Nat.zero_add, decide_true, decide_false, eq_self_iff_true, Prod.eta]
  have hl : a0.length ≤ maxLen := h
  have hl2 := hl
  unfold maxLen at hl
  rw [w64 (x := (a0.length : Int) - 8) (by omega) (by omega)]
  have hbe := be_lt (s := a0.drop ((a0.length : Int) - 8).toNat) (w := 4)
  refine ⟨fun h1 => ix_no (by simp) fun l hl => ?_, fun h1 => ?_⟩
  · have L := hl.lay; have := L.len; have := tF_length l; omega
  have en : ((a0.length : Int) - 8).toNat = a0.length - 8 := by omega
  rw [en] at hbe ⊢
  refine ⟨by omega, by omega, fun h2 => ix_no (by simp) fun l hl => ?_, fun h2 => ⟨⟨⟨by omega, by omega, by omega, by simp, by simp⟩, fun l hl => ⟨l, rfl, ?_⟩⟩, fun y hI => ?_⟩⟩
  · have L := hl.lay
    have := L.len
    rw [show a0.length - 8 = (tF l).length + (ixF l 4).length by omega, L.at4] at h2
    simp only at h2; omega
  · have L := hl.lay
    have := L.len
    rw [show a0.length - 8 = (tF l).length + (ixF l 4).length by omega, L.at4]
    simp only [Int.toNat_natCast]
    rw [L.ix]; rfl
  obtain ⟨p, out⟩ := y
  simp only at hI ⊢
  refine ⟨fun hi => ?_, fun hi => l_end hI hi⟩
  have st := l_step hI hi
  obtain ⟨⟨g1, g2, g3, g4, g5⟩, _⟩ := hI
  have hb := readVar_bound ((a0.take (a0.length - 8)).drop p.toNat)
  rw [List.length_drop, List.length_take] at hb
  have st2 : ∀ l, RF a0 l → ∃ x b, l = out ++ x :: b ∧ At a0 x (4 + (txF out).length) (fShowBlock x.2).length ∧ Sp a0 p.toNat x (4 + (txF out).length) (ixF b (4 + (txF out).length + (fShowBlock x.2).length)) ∧ (fReadVar ((a0.take (a0.length - 8)).drop p.toNat)).1 = x.1.length ∧ (fReadVar ((a0.take (a0.length - 8)).drop p.toNat)).2 = (fVar x.1.length).length := fun l hl => by
    obtain ⟨x, b, e1, A, S⟩ := st l hl
    exact ⟨x, b, e1, A, S, by rw [S.v], by rw [S.v]⟩
  clear st
  generalize (fReadVar ((a0.take (a0.length - 8)).drop p.toNat)).1 = n at *
  generalize (fReadVar ((a0.take (a0.length - 8)).drop p.toNat)).2 = k at *
  rw [w64 (x := (a0.length : Int) - 8 - p) (by omega) (by omega), w64 (x := (a0.length : Int) - 8 - p - k) (by omega) (by omega), w64 (x := p + k) (by omega) (by omega)]
  refine ⟨g2, by omega, by omega, fun h3 => ix_no g4 fun l hl => ?_, fun h3 => ⟨fun h4 => ix_no g4 fun l hl => ?_, fun h4 => ?_⟩⟩
  · obtain ⟨x, b, e1, A, S, v1, v2⟩ := st2 l hl; have := S.kp; omega
  · obtain ⟨x, b, e1, A, S, v1, v2⟩ := st2 l hl; have := S.fit; omega
  rw [w64 (x := p + k + n) (by omega) (by omega)]
  have hl2' : ((a0.take (a0.length - 8)).drop (p + k + n).toNat).length = a0.length - 8 - (p + k + n).toNat := by rw [List.length_drop, List.length_take]; omega
  have st3 : ∀ l, RF a0 l → ∃ x b, l = out ++ x :: b ∧ At a0 x (4 + (txF out).length) (fShowBlock x.2).length ∧ Sp a0 p.toNat x (4 + (txF out).length) (ixF b (4 + (txF out).length + (fShowBlock x.2).length)) ∧ (a0.take (p + k + n).toNat).drop (p + k).toNat = x.1 ∧ (fVars7 ((a0.take (a0.length - 8)).drop (p + k + n).toNat) 4).1 = [((4 + (txF out).length : Nat) : Int), ((fShowBlock x.2).length : Int), (x.2.getD 0 (0, 0)).1, (x.2.getD (x.2.length - 1) (0, 0)).1] ∧ (p + k + n) + (fVars7 ((a0.take (a0.length - 8)).drop (p + k + n).toNat) 4).2 = (a0.length : Int) - 8 - (ixF b (4 + (txF out).length + (fShowBlock x.2).length)).length ∧ p + k + n ≤ (a0.length : Int) - 8 - (ixF b (4 + (txF out).length + (fShowBlock x.2).length)).length := fun l hl => by
    obtain ⟨x, b, e1, A, S, v1, v2⟩ := st2 l hl
    have e2 : (p + k + n).toNat = p.toNat + (fVar x.1.length).length + x.1.length := by omega
    have e3 : (p + k).toNat = p.toNat + (fVar x.1.length).length := by omega
    have hf := S.fit
    have h8 := S.r8
    refine ⟨x, b, e1, A, S, by rw [e2, e3]; exact S.key, by rw [e2, S.v7], ?_, by omega⟩
    rw [e2, S.v7]; simp only; omega
  clear st2
  have h7 := varsOk (s := (a0.take (a0.length - 8)).drop (p + k + n).toNat) (n := 4) (by omega)
  have hkl : ((a0.take (p + k + n).toNat).drop (p + k).toNat).length ≤ maxLen := by unfold maxLen; rw [List.length_drop, List.length_take]; omega
  refine ⟨by omega, by omega, by omega, by omega, by omega, by omega, ⟨by omega, by omega, by omega⟩, fun h5 => ix_no g4 fun l hl => ?_, fun h5 => ?_⟩
  · obtain ⟨x, b, e1, A, S, v1, v2, v3, v4⟩ := st3 l hl
    omega
  obtain ⟨k1, k2, k3, k4⟩ := h7 h5
  rw [hl2'] at k4
  clear h7
  generalize (fVars7 ((a0.take (a0.length - 8)).drop (p + k + n).toNat) 4).1 = v at *
  generalize (fVars7 ((a0.take (a0.length - 8)).drop (p + k + n).toNat) 4).2 = m at *
  have k20 := k2 0
  have k21 := k2 1
  rw [show Int.toNat 0 = 0 from rfl, show Int.toNat 1 = 1 from rfl]
  have st4 : ∀ l, RF a0 l → ∃ x b, l = out ++ x :: b ∧ At a0 x (4 + (txF out).length) (fShowBlock x.2).length ∧ Sp a0 p.toNat x (4 + (txF out).length) (ixF b (4 + (txF out).length + (fShowBlock x.2).length)) ∧ (a0.take (p + k + n).toNat).drop (p + k).toNat = x.1 ∧ v.getD 0 0 = ((4 + (txF out).length : Nat) : Int) ∧ v.getD 1 0 = ((fShowBlock x.2).length : Int) ∧ p + k + n + m = (a0.length : Int) - 8 - (ixF b (4 + (txF out).length + (fShowBlock x.2).length)).length := fun l hl => by
    obtain ⟨x, b, e1, A, S, v1, v2, v3, _⟩ := st3 l hl
    exact ⟨x, b, e1, A, S, v1, by rw [v2]; rfl, by rw [v2]; rfl, v3⟩
  clear st3
  generalize v.getD 0 0 = v0 at *
  generalize v.getD 1 0 = v1 at *
  refine ⟨by omega, by omega, fun h6 => ix_no g4 fun l hl => ?_, fun h6 => ?_⟩
  · obtain ⟨x, b, e1, A, S, w1, w2, w3, w4⟩ := st4 l hl; have := A.fit; omega
  rw [w64 (x := (a0.length : Int) - v0) (by omega) (by omega)]
  refine ⟨by omega, by omega, by omega, by omega, fun h8 => ix_no g4 fun l hl => ?_, fun h8 => ?_⟩
  · obtain ⟨x, b, e1, A, S, w1, w2, w3, w4⟩ := st4 l hl; have := A.fit; omega
  rw [w64 (x := v0 + v1) (by omega) (by omega), w64 (x := p + k + n + m) (by omega) (by omega)]
  have blk : ∀ x, At a0 x (4 + (txF out).length) (fShowBlock x.2).length → v0 = ((4 + (txF out).length : Nat) : Int) → v1 = ((fShowBlock x.2).length : Int) → fReadBlock ((a0.take (v0 + v1).toNat).drop v0.toNat) = (x.2, true) := fun x A w2 w3 => by
    rw [w2, w3, show (((4 + (txF out).length : Nat) : Int) + ((fShowBlock x.2).length : Int)).toNat = 4 + (txF out).length + (fShowBlock x.2).length by omega, Int.toNat_natCast, A.blk, A.read]
  refine ⟨by omega, by omega, by omega, by omega, by omega, by omega, by omega, by omega, by omega, fun h9 => ix_no g4 fun l hl => ?_, fun h9 => ?_⟩
  · obtain ⟨x, b, e1, A, S, w1, w2, w3, w4⟩ := st4 l hl
    rw [blk x A w2 w3] at h9; cases h9
  have g4' : ∀ y, ∀ x ∈ out ++ [((a0.take (p + k + n).toNat).drop (p + k).toNat, y)], x.1.length ≤ maxLen := fun y x hx => by
    rcases List.mem_append.1 hx with hx | hx
    · exact g4 x hx
    · rw [List.mem_singleton.1 hx]; exact hkl
  refine ⟨by omega, by omega, fun h10 => ix_no (g4' _) fun l hl => ?_, fun h10 => ⟨⟨⟨g1, by omega, by omega, g4' _, by simp; omega⟩, fun l hl => ?_⟩, by unfold lM; omega⟩⟩
  · obtain ⟨x, b, e1, A, S, w1, w2, w3, w4⟩ := st4 l hl
    have h5' := hl.lay.five
    rw [e1, List.length_append, List.length_cons] at h5'
    omega
  · obtain ⟨x, b, e1, A, S, w1, w2, w3, w4⟩ := st4 l hl
    refine ⟨b, ?_, ?_⟩
    · rw [blk x A w2 w3, w1, e1]; simp
    · rw [blk x A w2 w3, w1, txF_append, List.length_append, show txF [(x.1, x.2)] = fShowBlock x.2 by simp [txF], ← Nat.add_assoc]
      have := S.last
      have h8 := S.r8
      rw [show (p + k + n + m).toNat = a0.length - 8 - (ixF b (4 + (txF out).length + (fShowBlock x.2).length)).length by omega]
      exact this

set_option maxRecDepth 100000 in
theorem spec_l9Index.eq (i : El c_spec_l9Index.I) (x : El c_spec_l9Index.A) : vc tab (gam [(30, c_spec_ReadBlock), (100, c_spec_ReadVar), (146, c_spec_ReadFixed), (147, c_spec_l7Vars)] [] eqs) (spec_l9Index.L x) (match Try.f117.body with | some c => c | none => .skip) 1 (initSt c_spec_l9Index Try.f117.ntmps i x) (bodyK tab c_spec_l9Index Try.f117.results.toList [35, 4] i x) = spec_l9Index.F x := by kernel_rfl
theorem spec_l9Index.ok : ConOk Try.prog 117 c_spec_l9Index :=
  conOk_of_eq (con := c_spec_l9Index) (tab := tab) (Γ := (gam [(30, c_spec_ReadBlock), (100, c_spec_ReadVar), (146, c_spec_ReadFixed), (147, c_spec_l7Vars)] [] eqs)) (fn := Try.f117) (c := (match Try.f117.body with | some c => c | none => .skip)) (fun i x => spec_l9Index.L x) (fun i x => spec_l9Index.F x) rfl tabOk (gam_cons ⟨_, Try.func30, rfl, rfl⟩ spec_ReadBlock.ok (gam_cons ⟨_, Try.func100, rfl, rfl⟩ spec_ReadVar.ok (gam_cons ⟨_, Try.func146, rfl, rfl⟩ spec_ReadFixed.ok (gam_cons ⟨_, Try.func147, rfl, rfl⟩ spec_l7Vars.ok (gam_nil _ [] eqsOk))))) Try.func117 rfl [35, 4] (by kernel_rfl) spec_l9Index.eq fun i x h hi hw => spec_l9Index.pure x h hw

def c_spec_ReadFile : Con := { io := false, I := .unit, ownI := [], A := .str, shA := [.one], ownA := [], backA := [], B := .unit, R := (.pair (.list (.pair .str (.list (.pair (.int .i64) (.int .i64))))) .bool), shR := [(false, 1), (false, 1)], fresh := [], newR := false, pre := fun _ a => (pStr a), f := some fun _ a => ((fReadFile a), ((), ())) }
def spec_ReadFile.F  (a0 : (List UInt8)) : Prop := ((pStr a0) ∧ ∀ (r1 : ((List ((List UInt8) × (List (Int × Int)))) × Bool) × (Unit × Unit)), (ixPost a0 r1) → (caseB (!r1.1.2) ((((([] : (List ((List UInt8) × (List (Int × Int))))), false), ((), ())) : ((List ((List UInt8) × (List (Int × Int)))) × Bool) × (Unit × Unit)) = ((fReadFile a0), ((), ()))) ((pSerOk r1.1.1) ∧ ∀ (r2 : (List UInt8) × (Unit × Unit)), ((r2 : (List UInt8) × (Unit × Unit)) = ((fFileText r1.1.1), ((), ()))) → (caseB (!(r2.1 == a0)) ((((([] : (List ((List UInt8) × (List (Int × Int))))), false), ((), ())) : ((List ((List UInt8) × (List (Int × Int)))) × Bool) × (Unit × Unit)) = ((fReadFile a0), ((), ()))) ((((r1.1.1, true), ((), ())) : ((List ((List UInt8) × (List (Int × Int)))) × Bool) × (Unit × Unit)) = ((fReadFile a0), ((), ())))))))
def spec_ReadFile.L  (a0 : (List UInt8)) : Nat → Option LoopAnn := fun p => Go.Proofs.Ythjlommbnfooaaa.Bv.look p []

theorem spec_ReadFile.pure  (a0 : (List UInt8)) (h : (pStr a0)) (hw : Wf c_spec_ReadFile.A a0) : spec_ReadFile.F a0 := by
  unfold spec_ReadFile.F
  simp only [forall_eq, true_and, and_true, caseB_iff, Prod.mk.injEq, decide_eq_true_eq, decide_eq_false_iff_not, Bool.not_eq_true', Bool.not_eq_false', bne_iff_ne, ne_eq, beq_iff_eq, Bool.not_true, Bool.not_false, beq_eq_false_iff_ne, bne_eq_false_iff_eq, List.length_append, List.length_cons, List.length_nil, List.append_nil, Nat.zero_add, decide_true, decide_false, eq_self_iff_true, Prod.eta]
  refine ⟨h, fun r hr => ?_⟩
  obtain ⟨⟨l, is⟩, _, _⟩ := r
  obtain ⟨q1, q2, q3⟩ := hr
  simp only at q1 q2 q3 ⊢
  refine ⟨fun h1 => readF_no fun l' hl => ?_, fun h1 => ⟨q1, fun h2 => readF_no fun l' hl => h2 ?_, fun h2 => readF_yes (RF_of h2 (q2 h1))⟩⟩
  · have := q3 l' hl; rw [Prod.mk.injEq] at this; rw [this.2] at h1; cases h1
  · have := q3 l' hl; rw [Prod.mk.injEq] at this; rw [this.1]; exact hl.2

set_option maxRecDepth 100000 in
theorem spec_ReadFile.eq (i : El c_spec_ReadFile.I) (x : El c_spec_ReadFile.A) : vc tab (gam [(26, c_spec_FileText), (117, c_spec_l9Index)] [] eqs) (spec_ReadFile.L x) (match Try.f55.body with | some c => c | none => .skip) 1 (initSt c_spec_ReadFile Try.f55.ntmps i x) (bodyK tab c_spec_ReadFile Try.f55.results.toList [35, 4] i x) = spec_ReadFile.F x := by kernel_rfl
theorem spec_ReadFile.ok : ConOk Try.prog 55 c_spec_ReadFile :=
  conOk_of_eq (con := c_spec_ReadFile) (tab := tab) (Γ := (gam [(26, c_spec_FileText), (117, c_spec_l9Index)] [] eqs)) (fn := Try.f55) (c := (match Try.f55.body with | some c => c | none => .skip)) (fun i x => spec_ReadFile.L x) (fun i x => spec_ReadFile.F x) rfl tabOk (gam_cons ⟨_, Try.func26, rfl, rfl⟩ spec_FileText.ok (gam_cons ⟨_, Try.func117, rfl, rfl⟩ spec_l9Index.ok (gam_nil _ [] eqsOk))) Try.func55 rfl [35, 4] (by kernel_rfl) spec_ReadFile.eq fun i x h hi hw => spec_ReadFile.pure x h hw


/-! What times a file has. -/
def loN (l : List Ser) : Nat → Int
  | 0 => 1099511627776
  | i + 1 => if ((l.getD i ([], [])).2.getD 0 (0, 0)).1 < loN l i then ((l.getD i ([], [])).2.getD 0 (0, 0)).1 else loN l i
def hiN (l : List Ser) : Nat → Int
  | 0 => 0
  | i + 1 => if hiN l i < ((l.getD i ([], [])).2.getD ((l.getD i ([], [])).2.length - 1) (0, 0)).1 then ((l.getD i ([], [])).2.getD ((l.getD i ([], [])).2.length - 1) (0, 0)).1 else hiN l i
def fFileSpan (s : List UInt8) : Int × (Int × Bool) := if (fReadFile s).2 = true then (loN (fReadFile s).1 (fReadFile s).1.length, (hiN (fReadFile s).1 (fReadFile s).1.length, true)) else (0, (0, false))
theorem readF_RF {s : List UInt8} (h : (fReadFile s).2 = true) : RF s (fReadFile s).1 := by
  unfold fReadFile at h ⊢
  split at h
  · rename_i h2; rw [if_pos h2]; exact h2
  · cases h
theorem pts_mono {l : List Pt} (h : fPtsOk l = true) : ∀ i, i < l.length → (l.getD 0 (0, 0)).1 ≤ (l.getD i (0, 0)).1
  | 0, _ => by omega
  | i + 1, hi => by
    have h1 := pts_mono h i (by omega)
    have h2 := riseAt_iff.1 (ptAt_iff.1 ((fPtsOk_iff.1 h).2 (i + 1) hi)).1
    simp only [getD_map1, Nat.add_sub_cancel] at h2
    omega
theorem ser_pts {l : List Ser} (h : fSerOk l = true) {i : Nat} (hi : i < l.length) : 0 < (l.getD i ([], [])).2.length ∧ (l.getD i ([], [])).2.length ≤ 60 ∧ 0 ≤ ((l.getD i ([], [])).2.getD 0 (0, 0)).1 ∧ ((l.getD i ([], [])).2.getD 0 (0, 0)).1 ≤ ((l.getD i ([], [])).2.getD ((l.getD i ([], [])).2.length - 1) (0, 0)).1 ∧ ((l.getD i ([], [])).2.getD ((l.getD i ([], [])).2.length - 1) (0, 0)).1 ≤ 1099511627776 := by
  obtain ⟨q1, q2, q3, q4⟩ := (fSer_at h).2 i hi
  have q5 : 0 < (l.getD i ([], [])).2.length := by omega
  have p0 := pt_in q4 (i := 0) (by omega)
  have p1 := pt_in q4 (i := (l.getD i ([], [])).2.length - 1) (by omega)
  have pm := pts_mono q4 ((l.getD i ([], [])).2.length - 1) (by omega)
  exact ⟨q5, fPtsOk_len q4, p0.1, pm, p1.2⟩
def ssI (s : List UInt8) (a b i : Int) : Prop := 0 ≤ i ∧ i ≤ (fReadFile s).1.length ∧ a = (if i = 0 then (((fReadFile s).1.getD 0 ([], [])).2.getD 0 (0, 0)).1 else loN (fReadFile s).1 i.toNat) ∧ b = (if i = 0 then (((fReadFile s).1.getD 0 ([], [])).2.getD 0 (0, 0)).1 else hiN (fReadFile s).1 i.toNat)
def ssM (s : List UInt8) (a b i : Int) : Nat := ((fReadFile s).1.length - i).toNat
def siI (s : List UInt8) (a b i : Int) : Prop := 0 ≤ i ∧ i ≤ (fReadFile s).1.length ∧ a = loN (fReadFile s).1 i.toNat ∧ b = hiN (fReadFile s).1 i.toNat
def c_impl_FileSpan : Con := { io := false, I := .unit, ownI := [], A := .str, shA := [.one], ownA := [], backA := [], B := .unit, R := (.pair (.int .i64) (.pair (.int .i64) .bool)), shR := [(false, 1), (false, 1), (false, 1)], fresh := [], newR := false, pre := fun _ a => (pStr a), f := some fun _ a => ((fFileSpan a), ((), ())) }
def impl_FileSpan.F  (a0 : (List UInt8)) : Prop := ((pStr a0) ∧ ∀ (r1 : ((List ((List UInt8) × (List (Int × Int)))) × Bool) × (Unit × Unit)), ((r1 : ((List ((List UInt8) × (List (Int × Int)))) × Bool) × (Unit × Unit)) = ((fReadFile a0), ((), ()))) → (caseB (!r1.1.2) ((((0, (0, false)), ((), ())) : (Int × (Int × Bool)) × (Unit × Unit)) = ((fFileSpan a0), ((), ()))) (([(18, .val false [.lst (.pair .str (.list (.pair (.int .i64) (.int .i64)))) r1.1.1 none]), (19, .val false [.int .i64 ((List.length r1.1.1 : Nat) : Int)])] : List (Nat × Sv)) = [(18, .val false [.lst (.pair .str (.list (.pair (.int .i64) (.int .i64)))) r1.1.1 none]), (19, .val false [.int .i64 ((List.length r1.1.1 : Nat) : Int)])] ∧ ((siI a0 1099511627776 0 0) ∧ ∀ (y2 : (Int × (Int × Int))), (siI a0 y2.1 y2.2.1 y2.2.2) → (caseB (decide (y2.2.2 < ((List.length r1.1.1 : Nat) : Int))) (0 ≤ y2.2.2 ∧ (y2.2.2 < ((List.length r1.1.1 : Nat) : Int) ∧ (0 ≤ (0 : Int) ∧ ((0 : Int) < ((List.length ((List.getD r1.1.1 (Int.toNat y2.2.2) (([] : (List UInt8)), ([] : (List (Int × Int))))).2) : Nat) : Int) ∧ (0 ≤ (IntKind.wrap .i64 (((List.length ((List.getD r1.1.1 (Int.toNat y2.2.2) (([] : (List UInt8)), ([] : (List (Int × Int))))).2) : Nat) : Int) - (1 : Int))) ∧ ((IntKind.wrap .i64 (((List.length ((List.getD r1.1.1 (Int.toNat y2.2.2) (([] : (List UInt8)), ([] : (List (Int × Int))))).2) : Nat) : Int) - (1 : Int))) < ((List.length ((List.getD r1.1.1 (Int.toNat y2.2.2) (([] : (List UInt8)), ([] : (List (Int × Int))))).2) : Nat) : Int) ∧ (([(18, .val false [.lst (.pair .str (.list (.pair (.int .i64) (.int .i64)))) r1.1.1 none]), (19, .val false [.int .i64 ((List.length r1.1.1 : Nat) : Int)])] : List (Nat × Sv)) = [(18, .val false [.lst (.pair .str (.list (.pair (.int .i64) (.int .i64)))) r1.1.1 none]), (19, .val false [.int .i64 ((List.length r1.1.1 : Nat) : Int)])] ∧ (siI a0 (if ((List.getD ((List.getD r1.1.1 (Int.toNat y2.2.2) (([] : (List UInt8)), ([] : (List (Int × Int))))).2) (Int.toNat (0 : Int)) ((0 : Int), (0 : Int))).1) < y2.1 then ((List.getD ((List.getD r1.1.1 (Int.toNat y2.2.2) (([] : (List UInt8)), ([] : (List (Int × Int))))).2) (Int.toNat (0 : Int)) ((0 : Int), (0 : Int))).1) else y2.1) (if y2.2.1 < ((List.getD ((List.getD r1.1.1 (Int.toNat y2.2.2) (([] : (List UInt8)), ([] : (List (Int × Int))))).2) (Int.toNat (IntKind.wrap .i64 (((List.length ((List.getD r1.1.1 (Int.toNat y2.2.2) (([] : (List UInt8)), ([] : (List (Int × Int))))).2) : Nat) : Int) - (1 : Int)))) ((0 : Int), (0 : Int))).1) then ((List.getD ((List.getD r1.1.1 (Int.toNat y2.2.2) (([] : (List UInt8)), ([] : (List (Int × Int))))).2) (Int.toNat (IntKind.wrap .i64 (((List.length ((List.getD r1.1.1 (Int.toNat y2.2.2) (([] : (List UInt8)), ([] : (List (Int × Int))))).2) : Nat) : Int) - (1 : Int)))) ((0 : Int), (0 : Int))).1) else y2.2.1) (IntKind.wrap .i64 (y2.2.2 + (1 : Int)))) ∧ (ssM a0 (if ((List.getD ((List.getD r1.1.1 (Int.toNat y2.2.2) (([] : (List UInt8)), ([] : (List (Int × Int))))).2) (Int.toNat (0 : Int)) ((0 : Int), (0 : Int))).1) < y2.1 then ((List.getD ((List.getD r1.1.1 (Int.toNat y2.2.2) (([] : (List UInt8)), ([] : (List (Int × Int))))).2) (Int.toNat (0 : Int)) ((0 : Int), (0 : Int))).1) else y2.1) (if y2.2.1 < ((List.getD ((List.getD r1.1.1 (Int.toNat y2.2.2) (([] : (List UInt8)), ([] : (List (Int × Int))))).2) (Int.toNat (IntKind.wrap .i64 (((List.length ((List.getD r1.1.1 (Int.toNat y2.2.2) (([] : (List UInt8)), ([] : (List (Int × Int))))).2) : Nat) : Int) - (1 : Int)))) ((0 : Int), (0 : Int))).1) then ((List.getD ((List.getD r1.1.1 (Int.toNat y2.2.2) (([] : (List UInt8)), ([] : (List (Int × Int))))).2) (Int.toNat (IntKind.wrap .i64 (((List.length ((List.getD r1.1.1 (Int.toNat y2.2.2) (([] : (List UInt8)), ([] : (List (Int × Int))))).2) : Nat) : Int) - (1 : Int)))) ((0 : Int), (0 : Int))).1) else y2.2.1) (IntKind.wrap .i64 (y2.2.2 + (1 : Int)))) < (ssM a0 y2.1 y2.2.1 y2.2.2)))))))) ((((y2.1, (y2.2.1, true)), ((), ())) : (Int × (Int × Bool)) × (Unit × Unit)) = ((fFileSpan a0), ((), ()))))))))
def impl_FileSpan.L  (a0 : (List UInt8)) : Nat → Option LoopAnn := fun p => Go.Proofs.Ythjlommbnfooaaa.Bv.look p [(250, { kp := { hold := [18, 19], slots := [7, 8, 20], boxes := [], rows := [] }, T := (.pair (.int .i64) (.pair (.int .i64) (.int .i64))), I := fun st y => siI a0 y.1 y.2.1 y.2.2, μ := fun st y => ssM a0 y.1 y.2.1 y.2.2 })]

theorem impl_FileSpan.pure  (a0 : (List UInt8)) (h : (pStr a0)) (hw : Wf c_impl_FileSpan.A a0) : impl_FileSpan.F a0 := by
  unfold impl_FileSpan.F
  simp only [forall_eq, true_and, and_true, caseB_iff, Prod.mk.injEq, decide_eq_true_eq, decide_eq_false_iff_not, Bool.not_eq_true', Bool.not_eq_false', bne_iff_ne, ne_eq, beq_iff_eq, Bool.not_true, Bool.not_false, beq_eq_false_iff_ne, bne_eq_false_iff_eq, List.length_append, List.length_cons, List.length_nil, List.append_nil, Nat.zero_add, decide_true, decide_false, eq_self_iff_true, Prod.eta]
  refine ⟨h, fun h1 => by unfold fFileSpan; rw [if_neg (by rw [h1]; decide)], fun h1 => ?_⟩
  have hR := readF_RF h1
  have hlen := List.length_pos_iff.2 hR.1.2
  have h5 := (fSer_at hR.1.1).1
  have hp := fun i hi => ser_pts hR.1.1 (i := i) hi
  have hp0 := hp 0 hlen
  have hF : fFileSpan a0 = (loN (fReadFile a0).1 (fReadFile a0).1.length, (hiN (fReadFile a0).1 (fReadFile a0).1.length, true)) := by unfold fFileSpan; rw [if_pos h1]
  rw [hF]
  refine ⟨⟨by omega, by omega, rfl, rfl⟩, fun y hI => ?_⟩
  obtain ⟨a, b, i⟩ := y
  obtain ⟨g1, g2, g3, g4⟩ := hI
  simp only at g1 g2 g3 g4 ⊢
  refine ⟨fun hi => ?_, fun hi => ?_⟩
  · have hq := hp i.toNat (by omega)
    have el : loN (fReadFile a0).1 (i + 1).toNat = if (((fReadFile a0).1.getD i.toNat ([], [])).2.getD 0 (0, 0)).1 < loN (fReadFile a0).1 i.toNat then (((fReadFile a0).1.getD i.toNat ([], [])).2.getD 0 (0, 0)).1 else loN (fReadFile a0).1 i.toNat := by
      rw [show (i + 1).toNat = i.toNat + 1 by omega]; rfl
    have eh : hiN (fReadFile a0).1 (i + 1).toNat = if hiN (fReadFile a0).1 i.toNat < (((fReadFile a0).1.getD i.toNat ([], [])).2.getD (((fReadFile a0).1.getD i.toNat ([], [])).2.length - 1) (0, 0)).1 then (((fReadFile a0).1.getD i.toNat ([], [])).2.getD (((fReadFile a0).1.getD i.toNat ([], [])).2.length - 1) (0, 0)).1 else hiN (fReadFile a0).1 i.toNat := by
      rw [show (i + 1).toNat = i.toNat + 1 by omega]; rfl
    rw [w64 (x := ((((fReadFile a0).1.getD i.toNat ([], [])).2.length : Nat) : Int) - 1) (by omega) (by omega), w64 (x := i + 1) (by omega) (by omega), show (((((fReadFile a0).1.getD i.toNat ([], [])).2.length : Nat) : Int) - 1).toNat = ((fReadFile a0).1.getD i.toNat ([], [])).2.length - 1 by omega, show Int.toNat 0 = 0 from rfl]
    exact ⟨by omega, by omega, by omega, by omega, by omega, by omega, ⟨by omega, by omega, by rw [el, g3], by rw [eh, g4]⟩, by unfold ssM; omega⟩
  · rw [g3, g4, show i.toNat = (fReadFile a0).1.length by omega]

set_option maxRecDepth 100000 in
theorem impl_FileSpan.eq (i : El c_impl_FileSpan.I) (x : El c_impl_FileSpan.A) : vc tab (gam [(56, c_impl_ReadFile)] [] eqs) (impl_FileSpan.L x) (match Try.f49.body with | some c => c | none => .skip) 1 (initSt c_impl_FileSpan Try.f49.ntmps i x) (bodyK tab c_impl_FileSpan Try.f49.results.toList [3, 3, 4] i x) = impl_FileSpan.F x := by kernel_rfl
theorem impl_FileSpan.ok : ConOk Try.prog 49 c_impl_FileSpan :=
  conOk_of_eq (con := c_impl_FileSpan) (tab := tab) (Γ := (gam [(56, c_impl_ReadFile)] [] eqs)) (fn := Try.f49) (c := (match Try.f49.body with | some c => c | none => .skip)) (fun i x => impl_FileSpan.L x) (fun i x => impl_FileSpan.F x) rfl tabOk (gam_cons ⟨_, Try.func56, rfl, rfl⟩ impl_ReadFile.ok (gam_nil _ [] eqsOk)) Try.func49 rfl [3, 3, 4] (by kernel_rfl) impl_FileSpan.eq fun i x h hi hw => impl_FileSpan.pure x h hw

def c_spec_FileSpan : Con := { io := false, I := .unit, ownI := [], A := .str, shA := [.one], ownA := [], backA := [], B := .unit, R := (.pair (.int .i64) (.pair (.int .i64) .bool)), shR := [(false, 1), (false, 1), (false, 1)], fresh := [], newR := false, pre := fun _ a => (pStr a), f := some fun _ a => ((fFileSpan a), ((), ())) }
def spec_FileSpan.F  (a0 : (List UInt8)) : Prop := ((pStr a0) ∧ ∀ (r1 : ((List ((List UInt8) × (List (Int × Int)))) × Bool) × (Unit × Unit)), ((r1 : ((List ((List UInt8) × (List (Int × Int)))) × Bool) × (Unit × Unit)) = ((fReadFile a0), ((), ()))) → (caseB (!r1.1.2) ((((0, (0, false)), ((), ())) : (Int × (Int × Bool)) × (Unit × Unit)) = ((fFileSpan a0), ((), ()))) (0 ≤ (0 : Int) ∧ ((0 : Int) < ((List.length r1.1.1 : Nat) : Int) ∧ (0 ≤ (0 : Int) ∧ ((0 : Int) < ((List.length ((List.getD r1.1.1 (Int.toNat (0 : Int)) (([] : (List UInt8)), ([] : (List (Int × Int))))).2) : Nat) : Int) ∧ (([(5, .val false [.lst (.pair .str (.list (.pair (.int .i64) (.int .i64)))) r1.1.1 none])] : List (Nat × Sv)) = [(5, .val false [.lst (.pair .str (.list (.pair (.int .i64) (.int .i64)))) r1.1.1 none])] ∧ ((ssI a0 ((List.getD ((List.getD r1.1.1 (Int.toNat (0 : Int)) (([] : (List UInt8)), ([] : (List (Int × Int))))).2) (Int.toNat (0 : Int)) ((0 : Int), (0 : Int))).1) ((List.getD ((List.getD r1.1.1 (Int.toNat (0 : Int)) (([] : (List UInt8)), ([] : (List (Int × Int))))).2) (Int.toNat (0 : Int)) ((0 : Int), (0 : Int))).1) 0) ∧ ∀ (y2 : (Int × (Int × Int))), (ssI a0 y2.1 y2.2.1 y2.2.2) → (caseB (decide (y2.2.2 < ((List.length r1.1.1 : Nat) : Int))) (0 ≤ y2.2.2 ∧ (y2.2.2 < ((List.length r1.1.1 : Nat) : Int) ∧ (0 ≤ (0 : Int) ∧ ((0 : Int) < ((List.length ((List.getD r1.1.1 (Int.toNat y2.2.2) (([] : (List UInt8)), ([] : (List (Int × Int))))).2) : Nat) : Int) ∧ (caseB (decide (((List.getD ((List.getD r1.1.1 (Int.toNat y2.2.2) (([] : (List UInt8)), ([] : (List (Int × Int))))).2) (Int.toNat (0 : Int)) ((0 : Int), (0 : Int))).1) < y2.1)) (0 ≤ (0 : Int) ∧ ((0 : Int) < ((List.length ((List.getD r1.1.1 (Int.toNat y2.2.2) (([] : (List UInt8)), ([] : (List (Int × Int))))).2) : Nat) : Int) ∧ (0 ≤ (IntKind.wrap .i64 (((List.length ((List.getD r1.1.1 (Int.toNat y2.2.2) (([] : (List UInt8)), ([] : (List (Int × Int))))).2) : Nat) : Int) - (1 : Int))) ∧ ((IntKind.wrap .i64 (((List.length ((List.getD r1.1.1 (Int.toNat y2.2.2) (([] : (List UInt8)), ([] : (List (Int × Int))))).2) : Nat) : Int) - (1 : Int))) < ((List.length ((List.getD r1.1.1 (Int.toNat y2.2.2) (([] : (List UInt8)), ([] : (List (Int × Int))))).2) : Nat) : Int) ∧ (caseB (decide (((List.getD ((List.getD r1.1.1 (Int.toNat y2.2.2) (([] : (List UInt8)), ([] : (List (Int × Int))))).2) (Int.toNat (IntKind.wrap .i64 (((List.length ((List.getD r1.1.1 (Int.toNat y2.2.2) (([] : (List UInt8)), ([] : (List (Int × Int))))).2) : Nat) : Int) - (1 : Int)))) ((0 : Int), (0 : Int))).1) > y2.2.1)) (0 ≤ (IntKind.wrap .i64 (((List.length ((List.getD r1.1.1 (Int.toNat y2.2.2) (([] : (List UInt8)), ([] : (List (Int × Int))))).2) : Nat) : Int) - (1 : Int))) ∧ ((IntKind.wrap .i64 (((List.length ((List.getD r1.1.1 (Int.toNat y2.2.2) (([] : (List UInt8)), ([] : (List (Int × Int))))).2) : Nat) : Int) - (1 : Int))) < ((List.length ((List.getD r1.1.1 (Int.toNat y2.2.2) (([] : (List UInt8)), ([] : (List (Int × Int))))).2) : Nat) : Int) ∧ (([(5, .val false [.lst (.pair .str (.list (.pair (.int .i64) (.int .i64)))) r1.1.1 none])] : List (Nat × Sv)) = [(5, .val false [.lst (.pair .str (.list (.pair (.int .i64) (.int .i64)))) r1.1.1 none])] ∧ (ssI a0 ((List.getD ((List.getD r1.1.1 (Int.toNat y2.2.2) (([] : (List UInt8)), ([] : (List (Int × Int))))).2) (Int.toNat (0 : Int)) ((0 : Int), (0 : Int))).1) ((List.getD ((List.getD r1.1.1 (Int.toNat y2.2.2) (([] : (List UInt8)), ([] : (List (Int × Int))))).2) (Int.toNat (IntKind.wrap .i64 (((List.length ((List.getD r1.1.1 (Int.toNat y2.2.2) (([] : (List UInt8)), ([] : (List (Int × Int))))).2) : Nat) : Int) - (1 : Int)))) ((0 : Int), (0 : Int))).1) (IntKind.wrap .i64 (y2.2.2 + (1 : Int)))) ∧ (ssM a0 ((List.getD ((List.getD r1.1.1 (Int.toNat y2.2.2) (([] : (List UInt8)), ([] : (List (Int × Int))))).2) (Int.toNat (0 : Int)) ((0 : Int), (0 : Int))).1) ((List.getD ((List.getD r1.1.1 (Int.toNat y2.2.2) (([] : (List UInt8)), ([] : (List (Int × Int))))).2) (Int.toNat (IntKind.wrap .i64 (((List.length ((List.getD r1.1.1 (Int.toNat y2.2.2) (([] : (List UInt8)), ([] : (List (Int × Int))))).2) : Nat) : Int) - (1 : Int)))) ((0 : Int), (0 : Int))).1) (IntKind.wrap .i64 (y2.2.2 + (1 : Int)))) < (ssM a0 y2.1 y2.2.1 y2.2.2)))) (([(5, .val false [.lst (.pair .str (.list (.pair (.int .i64) (.int .i64)))) r1.1.1 none])] : List (Nat × Sv)) = [(5, .val false [.lst (.pair .str (.list (.pair (.int .i64) (.int .i64)))) r1.1.1 none])] ∧ (ssI a0 ((List.getD ((List.getD r1.1.1 (Int.toNat y2.2.2) (([] : (List UInt8)), ([] : (List (Int × Int))))).2) (Int.toNat (0 : Int)) ((0 : Int), (0 : Int))).1) y2.2.1 (IntKind.wrap .i64 (y2.2.2 + (1 : Int)))) ∧ (ssM a0 ((List.getD ((List.getD r1.1.1 (Int.toNat y2.2.2) (([] : (List UInt8)), ([] : (List (Int × Int))))).2) (Int.toNat (0 : Int)) ((0 : Int), (0 : Int))).1) y2.2.1 (IntKind.wrap .i64 (y2.2.2 + (1 : Int)))) < (ssM a0 y2.1 y2.2.1 y2.2.2))))))) (0 ≤ (IntKind.wrap .i64 (((List.length ((List.getD r1.1.1 (Int.toNat y2.2.2) (([] : (List UInt8)), ([] : (List (Int × Int))))).2) : Nat) : Int) - (1 : Int))) ∧ ((IntKind.wrap .i64 (((List.length ((List.getD r1.1.1 (Int.toNat y2.2.2) (([] : (List UInt8)), ([] : (List (Int × Int))))).2) : Nat) : Int) - (1 : Int))) < ((List.length ((List.getD r1.1.1 (Int.toNat y2.2.2) (([] : (List UInt8)), ([] : (List (Int × Int))))).2) : Nat) : Int) ∧ (caseB (decide (((List.getD ((List.getD r1.1.1 (Int.toNat y2.2.2) (([] : (List UInt8)), ([] : (List (Int × Int))))).2) (Int.toNat (IntKind.wrap .i64 (((List.length ((List.getD r1.1.1 (Int.toNat y2.2.2) (([] : (List UInt8)), ([] : (List (Int × Int))))).2) : Nat) : Int) - (1 : Int)))) ((0 : Int), (0 : Int))).1) > y2.2.1)) (0 ≤ (IntKind.wrap .i64 (((List.length ((List.getD r1.1.1 (Int.toNat y2.2.2) (([] : (List UInt8)), ([] : (List (Int × Int))))).2) : Nat) : Int) - (1 : Int))) ∧ ((IntKind.wrap .i64 (((List.length ((List.getD r1.1.1 (Int.toNat y2.2.2) (([] : (List UInt8)), ([] : (List (Int × Int))))).2) : Nat) : Int) - (1 : Int))) < ((List.length ((List.getD r1.1.1 (Int.toNat y2.2.2) (([] : (List UInt8)), ([] : (List (Int × Int))))).2) : Nat) : Int) ∧ (([(5, .val false [.lst (.pair .str (.list (.pair (.int .i64) (.int .i64)))) r1.1.1 none])] : List (Nat × Sv)) = [(5, .val false [.lst (.pair .str (.list (.pair (.int .i64) (.int .i64)))) r1.1.1 none])] ∧ (ssI a0 y2.1 ((List.getD ((List.getD r1.1.1 (Int.toNat y2.2.2) (([] : (List UInt8)), ([] : (List (Int × Int))))).2) (Int.toNat (IntKind.wrap .i64 (((List.length ((List.getD r1.1.1 (Int.toNat y2.2.2) (([] : (List UInt8)), ([] : (List (Int × Int))))).2) : Nat) : Int) - (1 : Int)))) ((0 : Int), (0 : Int))).1) (IntKind.wrap .i64 (y2.2.2 + (1 : Int)))) ∧ (ssM a0 y2.1 ((List.getD ((List.getD r1.1.1 (Int.toNat y2.2.2) (([] : (List UInt8)), ([] : (List (Int × Int))))).2) (Int.toNat (IntKind.wrap .i64 (((List.length ((List.getD r1.1.1 (Int.toNat y2.2.2) (([] : (List UInt8)), ([] : (List (Int × Int))))).2) : Nat) : Int) - (1 : Int)))) ((0 : Int), (0 : Int))).1) (IntKind.wrap .i64 (y2.2.2 + (1 : Int)))) < (ssM a0 y2.1 y2.2.1 y2.2.2)))) (([(5, .val false [.lst (.pair .str (.list (.pair (.int .i64) (.int .i64)))) r1.1.1 none])] : List (Nat × Sv)) = [(5, .val false [.lst (.pair .str (.list (.pair (.int .i64) (.int .i64)))) r1.1.1 none])] ∧ (ssI a0 y2.1 y2.2.1 (IntKind.wrap .i64 (y2.2.2 + (1 : Int)))) ∧ (ssM a0 y2.1 y2.2.1 (IntKind.wrap .i64 (y2.2.2 + (1 : Int)))) < (ssM a0 y2.1 y2.2.1 y2.2.2)))))))))) ((((y2.1, (y2.2.1, true)), ((), ())) : (Int × (Int × Bool)) × (Unit × Unit)) = ((fFileSpan a0), ((), ()))))))))))))
def spec_FileSpan.L  (a0 : (List UInt8)) : Nat → Option LoopAnn := fun p => Go.Proofs.Ythjlommbnfooaaa.Bv.look p [(506, { kp := { hold := [5], slots := [7, 8, 9], boxes := [], rows := [] }, T := (.pair (.int .i64) (.pair (.int .i64) (.int .i64))), I := fun st y => ssI a0 y.1 y.2.1 y.2.2, μ := fun st y => ssM a0 y.1 y.2.1 y.2.2 })]

theorem spec_FileSpan.pure  (a0 : (List UInt8)) (h : (pStr a0)) (hw : Wf c_spec_FileSpan.A a0) : spec_FileSpan.F a0 := by
  unfold spec_FileSpan.F
  simp only [forall_eq, true_and, and_true, caseB_iff, Prod.mk.injEq, decide_eq_true_eq, decide_eq_false_iff_not, Bool.not_eq_true', Bool.not_eq_false', bne_iff_ne, ne_eq, beq_iff_eq, Bool.not_true, Bool.not_false, beq_eq_false_iff_ne, bne_eq_false_iff_eq, List.length_append, List.length_cons, List.length_nil, List.append_nil, Nat.zero_add, decide_true, decide_false, eq_self_iff_true, Prod.eta]
  refine ⟨h, fun h1 => by unfold fFileSpan; rw [if_neg (by rw [h1]; decide)], fun h1 => ?_⟩
  have hR := readF_RF h1
  have hlen := List.length_pos_iff.2 hR.1.2
  have h5 := (fSer_at hR.1.1).1
  have hp := fun i hi => ser_pts hR.1.1 (i := i) hi
  have hp0 := hp 0 hlen
  have hF : fFileSpan a0 = (loN (fReadFile a0).1 (fReadFile a0).1.length, (hiN (fReadFile a0).1 (fReadFile a0).1.length, true)) := by unfold fFileSpan; rw [if_pos h1]
  rw [hF]
  rw [show Int.toNat 0 = 0 from rfl]
  refine ⟨by omega, by omega, by omega, by omega, ⟨by omega, by omega, rfl, rfl⟩, fun y hI => ?_⟩
  obtain ⟨a, b, i⟩ := y
  obtain ⟨g1, g2, g3, g4⟩ := hI
  simp only at g1 g2 g3 g4 ⊢
  refine ⟨fun hi => ?_, fun hi => ?_⟩
  · have hq := hp i.toNat (by omega)
    have st : ∀ a' b', a' = (if (((fReadFile a0).1.getD i.toNat ([], [])).2.getD 0 (0, 0)).1 < loN (fReadFile a0).1 i.toNat then (((fReadFile a0).1.getD i.toNat ([], [])).2.getD 0 (0, 0)).1 else loN (fReadFile a0).1 i.toNat) → b' = (if hiN (fReadFile a0).1 i.toNat < (((fReadFile a0).1.getD i.toNat ([], [])).2.getD (((fReadFile a0).1.getD i.toNat ([], [])).2.length - 1) (0, 0)).1 then (((fReadFile a0).1.getD i.toNat ([], [])).2.getD (((fReadFile a0).1.getD i.toNat ([], [])).2.length - 1) (0, 0)).1 else hiN (fReadFile a0).1 i.toNat) → ssI a0 a' b' (i + 1) := fun a' b' h1 h2 => ⟨by omega, by omega, by rw [if_neg (by omega), h1, show (i + 1).toNat = i.toNat + 1 by omega]; rfl, by rw [if_neg (by omega), h2, show (i + 1).toNat = i.toNat + 1 by omega]; rfl⟩
    have dn : ∀ a' b', ssM a0 a' b' (i + 1) < ssM a0 a b i := fun _ _ => by unfold ssM; omega
    have z : i = 0 → loN (fReadFile a0).1 i.toNat = 1099511627776 ∧ hiN (fReadFile a0).1 i.toNat = 0 ∧ (fReadFile a0).1.getD 0 ([], []) = (fReadFile a0).1.getD i.toNat ([], []) := fun h => by rw [h]; exact ⟨rfl, rfl, rfl⟩
    rw [w64 (x := ((((fReadFile a0).1.getD i.toNat ([], [])).2.length : Nat) : Int) - 1) (by omega) (by omega), w64 (x := i + 1) (by omega) (by omega), show (((((fReadFile a0).1.getD i.toNat ([], [])).2.length : Nat) : Int) - 1).toNat = ((fReadFile a0).1.getD i.toNat ([], [])).2.length - 1 by omega]
    generalize loN (fReadFile a0).1 i.toNat = lo at *
    generalize hiN (fReadFile a0).1 i.toNat = h9 at *
    by_cases h0 : i = 0
    · obtain ⟨z1, z2, z3⟩ := z h0
      rw [if_pos h0] at g3 g4
      rw [z3] at g3 g4
      generalize (fReadFile a0).1.getD i.toNat ([], []) = x at *
      repeat' (with_reducible (first | (refine And.intro ?_ ?_) | intro _))
      all_goals (first | omega | exact dn _ _ | (refine st _ _ ?_ ?_ <;> split <;> omega))
    · rw [if_neg h0] at g3 g4
      generalize (fReadFile a0).1.getD i.toNat ([], []) = x at *
      repeat' (with_reducible (first | (refine And.intro ?_ ?_) | intro _))
      all_goals (first | omega | exact dn _ _ | (refine st _ _ ?_ ?_ <;> split <;> omega))
  · rw [g3, g4, if_neg (by omega), if_neg (by omega), show i.toNat = (fReadFile a0).1.length by omega]

set_option maxRecDepth 100000 in
theorem spec_FileSpan.eq (i : El c_spec_FileSpan.I) (x : El c_spec_FileSpan.A) : vc tab (gam [(55, c_spec_ReadFile)] [] eqs) (spec_FileSpan.L x) (match Try.f48.body with | some c => c | none => .skip) 1 (initSt c_spec_FileSpan Try.f48.ntmps i x) (bodyK tab c_spec_FileSpan Try.f48.results.toList [3, 3, 4] i x) = spec_FileSpan.F x := by kernel_rfl
theorem spec_FileSpan.ok : ConOk Try.prog 48 c_spec_FileSpan :=
  conOk_of_eq (con := c_spec_FileSpan) (tab := tab) (Γ := (gam [(55, c_spec_ReadFile)] [] eqs)) (fn := Try.f48) (c := (match Try.f48.body with | some c => c | none => .skip)) (fun i x => spec_FileSpan.L x) (fun i x => spec_FileSpan.F x) rfl tabOk (gam_cons ⟨_, Try.func55, rfl, rfl⟩ spec_ReadFile.ok (gam_nil _ [] eqsOk)) Try.func48 rfl [3, 3, 4] (by kernel_rfl) spec_FileSpan.eq fun i x h hi hw => spec_FileSpan.pure x h hw

end Go.Proofs.Ythjlommbnfooaaa.B
