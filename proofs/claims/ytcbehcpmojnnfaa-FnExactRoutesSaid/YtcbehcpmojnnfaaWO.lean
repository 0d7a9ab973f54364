/- Rows of the call's own that may be written: cells and the blocks that are theirs alone. Plain memory: no program. -/
import Derived.Test.YtcbehcpmojnnfaaW1
import Derived.OwnWalk
import Derived.Deep.Draws
import Derived.Laws.Append
namespace Go.Proofs.Ytcbehcpmojnnfaa.Bv
set_option linter.unusedVariables false
set_option linter.unusedSimpArgs false

/-- Cells, and the blocks that are theirs alone, in their order. -/
inductive OwnCs (w : World) : List Value → List CellV → List Nat → Prop
  | nil : OwnCs w [] [] []
  | int {k n vs cs bs} : OwnCs w vs cs bs → OwnCs w (.int k n :: vs) (.int k n :: cs) bs
  | bool {b vs cs bs} : OwnCs w vs cs bs → OwnCs w (.bool b :: vs) (.bool b :: cs) bs
  | str {s vs cs bs} : OwnCs w vs cs bs → OwnCs w (.string ⟨s.toArray⟩ :: vs) (.str s :: cs) bs
  | emp {ad t tag vs cs bs} : OwnCs w vs cs bs → OwnCs w (.slice ad 0 0 :: vs) (.lst t [] tag :: cs) bs
  | lst {g o cap arr e t l tag b1 vs cs b2} : w.heap[g]? = some (.cells arr e (0, 0)) → List.length l ≤ cap → cap ≤ maxLen → o + cap * size t ≤ arr.size →
      OwnCs w ((arr.toList.drop o).take (List.length l * size t)) (flatAll t l) b1 → OwnCs w vs cs b2 →
      OwnCs w (.slice (some ⟨g, o, none⟩) (List.length l) cap :: vs) (.lst t l tag :: cs) (g :: (b1 ++ b2))

variable {w : World}

theorem OwnCs.length {vs cs bs} (h : OwnCs w vs cs bs) : vs.length = cs.length := by
  induction h with
  | nil => rfl
  | lst _ _ _ _ _ _ _ ih => simp [ih]
  | _ => simp [*]

theorem OwnCs.append {vs cs bs vs' cs' bs'} (h : OwnCs w vs cs bs) (h' : OwnCs w vs' cs' bs') : OwnCs w (vs ++ vs') (cs ++ cs') (bs ++ bs') := by
  induction h with
  | nil => exact h'
  | int _ ih => exact .int ih
  | bool _ ih => exact .bool ih
  | str _ ih => exact .str ih
  | emp _ ih => exact .emp ih
  | lst h1 h2 h3 h4 h5 _ _ ih =>
    have := OwnCs.lst (tag := ‹_›) h1 h2 h3 h4 h5 ih
    simpa [List.append_assoc] using this

theorem OwnCs.split {vs cs bs} (h : OwnCs w vs cs bs) : ∀ {c1 c2}, cs = c1 ++ c2 → ∃ v1 v2 b1 b2, vs = v1 ++ v2 ∧ bs = b1 ++ b2 ∧ OwnCs w v1 c1 b1 ∧ OwnCs w v2 c2 b2 := by
  induction h with
  | nil => intro c1 c2 e; cases c1 with
    | nil => simp at e; subst e; exact ⟨[], [], [], [], rfl, rfl, .nil, .nil⟩
    | cons => simp at e
  | @int k n vs cs bs h ih => intro c1 c2 e; cases c1 with
    | nil => simp at e; subst e; exact ⟨[], _, [], _, rfl, rfl, .nil, .int h⟩
    | cons x c1 => simp at e; obtain ⟨rfl, rfl⟩ := e; obtain ⟨v1, v2, b1, b2, e1, e2, h1, h2⟩ := ih rfl; subst e1; subst e2; exact ⟨_ :: v1, v2, b1, b2, rfl, rfl, .int h1, h2⟩
  | @bool b vs cs bs h ih => intro c1 c2 e; cases c1 with
    | nil => simp at e; subst e; exact ⟨[], _, [], _, rfl, rfl, .nil, .bool h⟩
    | cons x c1 => simp at e; obtain ⟨rfl, rfl⟩ := e; obtain ⟨v1, v2, b1, b2, e1, e2, h1, h2⟩ := ih rfl; subst e1; subst e2; exact ⟨_ :: v1, v2, b1, b2, rfl, rfl, .bool h1, h2⟩
  | @str s vs cs bs h ih => intro c1 c2 e; cases c1 with
    | nil => simp at e; subst e; exact ⟨[], _, [], _, rfl, rfl, .nil, .str h⟩
    | cons x c1 => simp at e; obtain ⟨rfl, rfl⟩ := e; obtain ⟨v1, v2, b1, b2, e1, e2, h1, h2⟩ := ih rfl; subst e1; subst e2; exact ⟨_ :: v1, v2, b1, b2, rfl, rfl, .str h1, h2⟩
  | @emp ad t tag vs cs bs h ih => intro c1 c2 e; cases c1 with
    | nil => simp at e; subst e; exact ⟨[], _, [], _, rfl, rfl, .nil, .emp h⟩
    | cons x c1 => simp at e; obtain ⟨rfl, rfl⟩ := e; obtain ⟨v1, v2, b1, b2, e1, e2, h1, h2⟩ := ih rfl; subst e1; subst e2; exact ⟨_ :: v1, v2, b1, b2, rfl, rfl, .emp h1, h2⟩
  | @lst g o cap arr e0 t l tag b1 vs cs b2 h1 h2 h3 h4 h5 h6 ih5 ih6 => intro c1 c2 e; cases c1 with
    | nil => simp at e; subst e; exact ⟨[], _, [], _, rfl, rfl, .nil, .lst h1 h2 h3 h4 h5 h6⟩
    | cons x c1 =>
      simp at e; obtain ⟨rfl, rfl⟩ := e
      obtain ⟨v1, v2, b21, b22, e1, e2, k1, k2⟩ := ih6 rfl
      subst e1; subst e2
      exact ⟨_ :: v1, v2, g :: (b1 ++ b21), b22, rfl, by simp, .lst h1 h2 h3 h4 h5 k1, k2⟩

theorem OwnCs.frame {vs cs bs} (h : OwnCs w vs cs bs) {w' : World} : (∀ g ∈ bs, w'.heap[g]? = w.heap[g]?) → OwnCs w' vs cs bs := by
  induction h with
  | nil => intro _; exact .nil
  | int _ ih => intro hw; exact .int (ih hw)
  | bool _ ih => intro hw; exact .bool (ih hw)
  | str _ ih => intro hw; exact .str (ih hw)
  | emp _ ih => intro hw; exact .emp (ih hw)
  | lst h1 h2 h3 h4 h5 h6 ih5 ih6 =>
    intro hw
    exact .lst (by rw [hw _ (by simp)]; exact h1) h2 h3 h4 (ih5 fun g hg => hw g (by simp [hg])) (ih6 fun g hg => hw g (by simp [hg]))

theorem OwnCs.lt {vs cs bs} (h : OwnCs w vs cs bs) : ∀ g ∈ bs, g < w.heap.size := by
  induction h with
  | nil => intro g hg; cases hg
  | lst h1 h2 h3 h4 h5 h6 ih5 ih6 =>
    intro g hg
    simp only [List.mem_cons, List.mem_append] at hg
    rcases hg with rfl | hg | hg
    · exact (Array.getElem?_eq_some_iff.1 h1).1
    · exact ih5 g hg
    · exact ih6 g hg
  | _ => assumption

theorem OwnCs.one {vs cs bs} (h : OwnCs w vs cs bs) : ∀ u ∈ vs, u.oneCell' = true := by
  induction h with
  | nil => intro g hg; cases hg
  | lst h1 h2 h3 h4 h5 h6 ih5 ih6 =>
    intro u hu
    rcases List.mem_cons.1 hu with rfl | hu
    · rfl
    · exact ih6 u hu
  | int _ ih => intro u hu; rcases List.mem_cons.1 hu with rfl | hu <;> first | rfl | exact ih u hu
  | bool _ ih => intro u hu; rcases List.mem_cons.1 hu with rfl | hu <;> first | rfl | exact ih u hu
  | str _ ih => intro u hu; rcases List.mem_cons.1 hu with rfl | hu <;> first | rfl | exact ih u hu
  | emp _ ih => intro u hu; rcases List.mem_cons.1 hu with rfl | hu <;> first | rfl | exact ih u hu

/-- Tags do not matter. -/
theorem OwnCs.untag {vs cs bs} (h : OwnCs w vs cs bs) : OwnCs w vs (cs.map fun c => match c with | .lst t l _ => .lst t l none | c => c) bs := by
  induction h with
  | nil => exact .nil
  | int _ ih => exact .int ih
  | bool _ ih => exact .bool ih
  | str _ ih => exact .str ih
  | emp _ ih => exact .emp ih
  | lst h1 h2 h3 h4 h5 h6 ih5 ih6 => exact .lst h1 h2 h3 h4 h5 ih6

/-- Memory of some blocks. -/
def memOn (w : World) (bs : List Nat) : Mem := fun ad => if ad.block ∈ bs then w.cell? ad else none

theorem memOn_in {bs : List Nat} {ad : Addr} (h : ad.block ∈ bs) : memOn w bs ad = w.cell? ad := if_pos h
theorem memOn_cell {bs : List Nat} {ad : Addr} {u : Value} (h : memOn w bs ad = some u) : w.cell? ad = some u ∧ ad.block ∈ bs := by
  unfold memOn at h; split at h
  · rename_i hb; exact ⟨h, hb⟩
  · cases h
theorem memOn_none {bs : List Nat} {ad : Addr} (h : ad.block ∉ bs) : memOn w bs ad = none := if_neg h

theorem addLit (g o n : Nat) : (⟨g, o, none⟩ : Addr).add n = ⟨g, o + n, none⟩ := by unfold Addr.add; split <;> simp_all

theorem cellAtArr {g o : Nat} {arr : Array Value} {e : TypeId} (h : w.heap[g]? = some (.cells arr e (0, 0))) {j : Nat} {u : Value} (hu : (arr.toList.drop o)[j]? = some u) : w.cell? ⟨g, o + j, none⟩ = some u := by
  rw [List.getElem?_drop] at hu
  simp [World.cell?, h] at hu ⊢
  exact hu

theorem getElem_drop_take {α : Type} (l : List α) (s n i : Nat) : ((l.drop (i * s)).take s)[n]? = if n < s then l[i * s + n]? else none := by
  rw [List.getElem?_take]; split
  · rw [List.getElem?_drop]
  · rfl

/-- They read as what they are. -/
theorem OwnCs.rd {vs cs bs} (h : OwnCs w vs cs bs) {N : Mem} : (∀ ad u, ad.block ∈ bs → w.cell? ad = some u → N ad = some u) → All2 (RdV N) vs cs := by
  induction h with
  | nil => intro _; exact .nil
  | int _ ih => intro hN; exact .cons rfl (ih hN)
  | bool _ ih => intro hN; exact .cons rfl (ih hN)
  | str _ ih => intro hN; exact .cons rfl (ih hN)
  | @emp ad t tag vs cs bs _ ih => intro hN; exact .cons (show RdC N (.list t) _ _ from ⟨ad, 0, rfl, by simp, by simp, fun i hi => by simp at hi⟩) (ih hN)
  | @lst g o cap arr e t l tag b1 vs cs b2 h1 h2 h3 h4 h5 h6 ih5 ih6 =>
    intro hN
    refine .cons ?_ (ih6 fun ad u hb => hN ad u (by simp [hb]))
    have hc := ih5 fun ad u hb => hN ad u (by simp [hb])
    refine ⟨some ⟨g, o, none⟩, cap, rfl, h2, h3, fun i hi => ?_⟩
    have hci := (hc.drop (i * size t)).take (size t)
    rw [← flatAll_drop] at hci
    have hx : (flatAll t (List.drop i l)).take (size t) = flat t (List.get l ⟨i, hi⟩) := by
      rw [List.drop_eq_getElem_cons hi, flatAll_cons, List.take_append_of_le_length (by rw [flat_length]; exact Nat.le_refl _), List.take_of_length_le (by rw [flat_length]; exact Nat.le_refl _)]
      rfl
    rw [hx] at hci
    refine ⟨_, _, rfl, ?_, ?_, flat_rd t _ _ hci⟩
    · have := hci.length; rw [this, flat_length]
    · intro j u hu
      rw [getElem_drop_take] at hu
      split at hu
      · rw [List.getElem?_take] at hu
        split at hu
        · rw [addLit]
          exact hN _ u (by simp) (cellAtArr h1 hu)
        · cases hu
      · cases hu

theorem OwnCs.rdOn {vs cs bs} (h : OwnCs w vs cs bs) : All2 (RdV (memOn w bs)) vs cs := h.rd fun ad u hb hu => by rw [memOn_in hb]; exact hu

/-! ### One row -/

def OwnL (w : World) (t : Ty) (v : Value) (l : List (El t)) (bs : List Nat) : Prop := OwnCs w [v] [.lst t l none] bs

theorem OwnL.cases {t : Ty} {v : Value} {l : List (El t)} {bs : List Nat} (h : OwnL w t v l bs) :
    (∃ ad, v = .slice ad 0 0 ∧ l = [] ∧ bs = []) ∨ ∃ g o cap arr e b1, v = .slice (some ⟨g, o, none⟩) (List.length l) cap ∧ bs = g :: b1 ∧ w.heap[g]? = some (.cells arr e (0, 0)) ∧ List.length l ≤ cap ∧ cap ≤ maxLen ∧ o + cap * size t ≤ arr.size ∧
      OwnCs w ((arr.toList.drop o).take (List.length l * size t)) (flatAll t l) b1 := by
  unfold OwnL at h
  cases h with
  | emp h => cases h; exact .inl ⟨_, rfl, rfl, rfl⟩
  | lst h1 h2 h3 h4 h5 h6 => cases h6; exact .inr ⟨_, _, _, _, _, _, rfl, by simp, h1, h2, h3, h4, h5⟩

theorem OwnL.emp {t : Ty} (ad : Option Addr) : OwnL w t (.slice ad 0 0) [] [] := OwnCs.emp .nil

theorem OwnL.mk {t : Ty} {g o cap : Nat} {arr : Array Value} {e : TypeId} {l : List (El t)} {b1 : List Nat} (h1 : w.heap[g]? = some (.cells arr e (0, 0))) (h2 : List.length l ≤ cap) (h3 : cap ≤ maxLen) (h4 : o + cap * size t ≤ arr.size)
    (h5 : OwnCs w ((arr.toList.drop o).take (List.length l * size t)) (flatAll t l) b1) : OwnL w t (.slice (some ⟨g, o, none⟩) (List.length l) cap) l (g :: b1) := by
  have := OwnCs.lst (tag := none) h1 h2 h3 h4 h5 .nil
  simpa [OwnL] using this

theorem OwnL.slice {t : Ty} {v : Value} {l : List (El t)} {bs : List Nat} (h : OwnL w t v l bs) : ∃ ad cap, v = .slice ad (List.length l) cap ∧ List.length l ≤ cap ∧ cap ≤ maxLen := by
  rcases h.cases with ⟨ad, rfl, rfl, _⟩ | ⟨g, o, cap, arr, e, b1, rfl, _, _, h2, h3, _⟩
  · exact ⟨ad, 0, rfl, by simp, by simp⟩
  · exact ⟨_, cap, rfl, h2, h3⟩

theorem OwnL.frame {t : Ty} {v : Value} {l : List (El t)} {bs : List Nat} (h : OwnL w t v l bs) {w' : World} (hw : ∀ g ∈ bs, w'.heap[g]? = w.heap[g]?) : OwnL w' t v l bs := OwnCs.frame h hw

theorem OwnL.rd {t : Ty} {v : Value} {l : List (El t)} {bs : List Nat} (h : OwnL w t v l bs) {N : Mem} (hN : ∀ ad u, ad.block ∈ bs → w.cell? ad = some u → N ad = some u) : RdC N (.list t) [v] l := by
  have := OwnCs.rd h hN
  cases this with | cons a b => exact a

theorem setRow_at (w : World) (g : Nat) (arr arr' : Array Value) (e : TypeId) (h : w.heap[g]? = some (.cells arr e (0, 0))) : (w.setRow g arr').heap[g]? = some (.cells arr' e (0, 0)) := setRow_heap w g arr arr' e _ h

theorem three_split {vs cs bs} (h : OwnCs w vs cs bs) {c1 c2 c3 : List CellV} (e : cs = c1 ++ (c2 ++ c3)) : ∃ v1 v2 v3 b1 b2 b3, vs = v1 ++ (v2 ++ v3) ∧ bs = b1 ++ (b2 ++ b3) ∧ OwnCs w v1 c1 b1 ∧ OwnCs w v2 c2 b2 ∧ OwnCs w v3 c3 b3 := by
  obtain ⟨v1, v', b1, b', rfl, rfl, h1, h'⟩ := h.split e
  obtain ⟨v2, v3, b2, b3, rfl, rfl, h2, h3⟩ := h'.split rfl
  exact ⟨v1, v2, v3, b1, b2, b3, rfl, rfl, h1, h2, h3⟩

/-- The cells of a part of a list, after cells in it are written. -/
theorem list_put {α : Type} (L us v1 v2 v3 : List α) (o n : Nat) (h : (L.drop o).take n = v1 ++ (v2 ++ v3)) (hu : us.length = v2.length) (hn : o + n ≤ L.length) :
    ((L.take (o + v1.length) ++ us ++ L.drop (o + v1.length + us.length)).drop o).take n = v1 ++ (us ++ v3) := by
  have hlen : v1.length + (v2.length + v3.length) = n := by
    have := congrArg List.length h
    simp at this; omega
  have e1 : (L.take (o + v1.length)).drop o = v1 := by
    rw [List.drop_take, Nat.add_sub_cancel_left]
    have : ((L.drop o).take n).take v1.length = v1 := by rw [h, List.take_left]
    rw [List.take_take, Nat.min_eq_left (by omega)] at this; exact this
  have e3 : (L.drop (o + v1.length + us.length)).take v3.length = v3 := by
    have : (((L.drop o).take n).drop (v1.length + v2.length)) = v3 := by rw [h, ← List.append_assoc, ← List.length_append, List.drop_left]
    rw [List.drop_take, List.drop_drop] at this
    rw [hu, Nat.add_assoc]
    rw [show n - (v1.length + v2.length) = v3.length by omega] at this
    exact this
  rw [List.append_assoc, List.drop_append_of_le_length (by simp; omega), e1, List.take_append]
  rw [List.take_of_length_le (by omega)]
  congr 1
  rw [List.take_append, List.take_of_length_le (by omega)]
  congr 1
  rw [show n - v1.length - us.length = v3.length by omega, e3]

/-- Cells of a row are written. -/
theorem OwnL.put {t : Ty} {v : Value} {l l' : List (El t)} {bs : List Nat} (h : OwnL w t v l bs) (hnd : bs.Nodup) {c1 c2 c3 ds : List CellV} (hc : flatAll t l = c1 ++ (c2 ++ c3)) {us : List Value} {b' : List Nat} (hu : OwnCs w us ds b')
    (hl : ds.length = c2.length) (hpos : 0 < c2.length) (hl' : flatAll t l' = c1 ++ (ds ++ c3)) (hlen : List.length l' = List.length l) (hdis : ∀ x ∈ b', x ∉ bs) (hnd' : b'.Nodup) :
    ∃ g o cap arr e b1 b2 b3, v = .slice (some ⟨g, o, none⟩) (List.length l) cap ∧ w.heap[g]? = some (.cells arr e (0, 0)) ∧ o + c1.length + us.length ≤ arr.size ∧ bs = g :: (b1 ++ (b2 ++ b3)) ∧ us.length = ds.length ∧
      OwnL (w.setRow g (arr.toList.take (o + c1.length) ++ us ++ arr.toList.drop (o + c1.length + us.length)).toArray) t v l' (g :: (b1 ++ (b' ++ b3))) ∧ (g :: (b1 ++ (b' ++ b3))).Nodup := by
  rcases h.cases with ⟨ad, rfl, rfl, rfl⟩ | ⟨g, o, cap, arr, e, b, rfl, rfl, hg, h2, h3, h4, h5⟩
  · have := congrArg List.length hc
    simp [flatAll] at this; omega
  · obtain ⟨v1, v2, v3, b1, b2, b3, ev, rfl, k1, k2, k3⟩ := three_split h5 hc
    have hlu := hu.length
    have hl1 := k1.length
    have hl2 := k2.length
    have hl3 := k3.length
    have hn : o + List.length l * size t ≤ arr.toList.length := by
      have h7 : List.length l * size t ≤ cap * size t := Nat.mul_le_mul_right (size t) h2
      have h8 : arr.toList.length = arr.size := Array.length_toList
      omega
    have hput := list_put arr.toList us v1 v2 v3 o _ ev (by omega) hn
    have hsz : o + c1.length + us.length ≤ arr.size := by
      have := congrArg List.length ev
      simp at this hn
      have h7 : List.length l * size t = v1.length + (v2.length + v3.length) := by omega
      omega
    have hnd2 : (g :: (b1 ++ (b' ++ b3))).Nodup := by
      simp only [List.nodup_cons, List.nodup_append, List.mem_append, not_or] at hnd ⊢
      simp only [List.mem_cons, List.mem_append, not_or] at hdis
      obtain ⟨⟨n1, n2, n3⟩, m1, ⟨⟨m2, m3, m4⟩, m5⟩⟩ := hnd
      refine ⟨⟨n1, fun hx => (hdis g hx).1 rfl, n3⟩, m1, ⟨hnd', m3, fun x hx y hy e => by subst e; exact (hdis x hx).2.2.2 hy⟩, ?_⟩
      intro x hx y hy e
      subst e
      rcases hy with hy | hy
      · exact (hdis x hy).2.1 hx
      · exact m5 x hx x (.inr hy) rfl
    refine ⟨g, o, cap, arr, e, b1, b2, b3, rfl, hg, hsz, rfl, hlu, ?_, hnd2⟩
    have hfr : ∀ (vs : List Value) (cs : List CellV) (bb : List Nat), OwnCs w vs cs bb → g ∉ bb → OwnCs (w.setRow g (arr.toList.take (o + c1.length) ++ us ++ arr.toList.drop (o + c1.length + us.length)).toArray) vs cs bb := fun vs cs bb hh hgn =>
      hh.frame fun x hx => setRow_other w g x _ (fun e => by subst e; exact hgn hx)
    simp only [List.nodup_cons, List.mem_append, not_or] at hnd2
    rw [← hlen] at h2 h5 ⊢
    refine OwnL.mk (setRow_at w g arr _ e hg) h2 h3 ?_ ?_
    · simp only [List.size_toArray, List.length_append, List.length_take, List.length_drop, Array.length_toList]
      omega
    · rw [hl']
      have e2 : ((arr.toList.take (o + c1.length) ++ us ++ arr.toList.drop (o + c1.length + us.length)).toArray.toList.drop o).take (List.length l' * size t) = v1 ++ (us ++ v3) := by
        rw [hlen, ← hl1]; exact hput
      rw [e2]
      exact (hfr _ _ _ k1 hnd2.1.1).append ((hfr _ _ _ hu hnd2.1.2.1).append (hfr _ _ _ k3 hnd2.1.2.2))

end Go.Proofs.Ytcbehcpmojnnfaa.Bv
