/- Rows of the call's own that may be written: append, a piece, zeros, freezing. Plain memory: no program. -/
import Derived.Test.YtcbehcpmojnnfaaWO
namespace Go.Proofs.Ytcbehcpmojnnfaa.Bv
set_option linter.unusedVariables false
set_option linter.unusedSimpArgs false

variable {P : Program} {w : World}

theorem run_append_roomAt (t ty e e' : TypeId) (i : TypeInfo) (ht : P.underlying t = some (.slice e)) (hi : P.info? e = some i)
    (g o sLen sCap : Nat) (cur : Array Value) (hg : w.heap[g]? = some (.cells cur e' (0, 0)))
    (a : Addr) (m c : Nat) (news : List Value) (hl : news.length = m * i.size) (hnews : ∀ j u, news[j]? = some u → w.cell? (a.add j) = some u) (h1 : ∀ u ∈ news, u.oneCell' = true)
    (hroom : sLen + m ≤ sCap) (hfit : o + sLen * i.size + news.length ≤ cur.size) :
    (Builtin.append_ #[t, t] ty #[.slice (some ⟨g, o, none⟩) sLen sCap, .slice (some a) m c]).run P w =
      .ok (.slice (some ⟨g, o, none⟩) (sLen + m) sCap) (w.setRow g (cur.toList.take (o + sLen * i.size) ++ news ++ cur.toList.drop (o + sLen * i.size + news.length)).toArray) := by
  have hf := run_firstCells_some (P := P) w i.size m a m c news hl hnews
  have hst := run_storeCells_at P g (o + sLen * i.size) e' news 0 cur w hg (by simpa using hfit) h1
  simp only [Nat.add_zero] at hst
  simp [Builtin.append_, run_underlying ht, sizeOf, typeInfo, hi, Builtin.lenOf, hroom, hf, Addr.add_lit, hst]

/-- What an operation on a row leaves of memory. -/
structure RowStep (w w' : World) (bs bs' more : List Nat) : Prop where
  nodup : bs'.Nodup
  sub : ∀ x ∈ bs', x ∈ bs ∨ x ∈ more ∨ w.heap.size ≤ x
  size : w.heap.size ≤ w'.heap.size
  keep : ∀ k, k < w.heap.size → k ∉ bs → w'.heap[k]? = w.heap[k]?
  os : w'.os = w.os
  tape : w'.tape = w.tape
  output : w'.output = w.output

theorem nodup_app {a b c : List Nat} (h : (a ++ b).Nodup) (hc : c.Nodup) (hd : ∀ x ∈ c, x ∉ a ∧ x ∉ b) : (a ++ (b ++ c)).Nodup := by
  rw [← List.append_assoc, List.nodup_append]
  exact ⟨h, hc, fun x hx y hy e => by subst e; exact (List.mem_append.1 hx).elim (hd x hy).1 (hd x hy).2⟩

theorem run_append_hot {t ty e : TypeId} {i : TypeInfo} {z : Value} (ht : P.underlying t = some (.slice e)) (hi : P.info? e = some i) (hz : i.zero = some z) (hzs : z.cells.size = i.size) {τ : Ty} (hs : i.size = size τ) (hpos : 0 < size τ)
    {v : Value} {l : List (El τ)} {bs : List Nat} (h : OwnL w τ v l bs) (hnd : bs.Nodup) {a : Addr} {c : Nat} {l2 : List (El τ)} {us : List Value} {b' : List Nat} (hus : ∀ j u, us[j]? = some u → w.cell? (a.add j) = some u)
    (hu : OwnCs w us (flatAll τ l2) b') (hnd' : b'.Nodup) (hdis : ∀ x ∈ b', x ∉ bs) (h0 : 0 < List.length l2)
    (h63 : List.length l + List.length l2 ≤ maxLen) (hbytes : (List.length l + List.length l2) * i.bytes ≤ 140737488355328) :
    ∃ v' w' bs', (Builtin.append_ #[t, t] ty #[v, .slice (some a) (List.length l2) c]).run P w = .ok v' w' ∧ OwnL w' τ v' (l ++ l2) bs' ∧ RowStep w w' bs bs' b' := by
  have hsmall : List.length l + List.length l2 ≤ 9223372036854775807 := by simp only [maxLen] at h63; omega
  have hul : us.length = List.length l2 * i.size := by rw [hu.length, flatAll_length, hs]
  have hcat : List.length (l ++ l2) = List.length l + List.length l2 := List.length_append
  -- a new block
  have grown : ∀ (old : Nat) (olds : List Value) (b1 : List Nat), olds.length = List.length l * i.size → OwnCs w olds (flatAll τ l) b1 → (∀ x ∈ b1, x ∈ bs) → b1.Nodup →
      ∃ bs', OwnL (w.drew.alloc (.cells (olds.toArray ++ us.toArray ++ Builtin.zeroCells z.cells (grownCap w (List.length l + List.length l2) old e - (List.length l + List.length l2))) e)) τ (.slice (some ⟨w.heap.size, 0, none⟩) (List.length l + List.length l2) (grownCap w (List.length l + List.length l2) old e)) (l ++ l2) bs' ∧
        RowStep w (w.drew.alloc (.cells (olds.toArray ++ us.toArray ++ Builtin.zeroCells z.cells (grownCap w (List.length l + List.length l2) old e - (List.length l + List.length l2))) e)) bs bs' b' := by
    intro old olds b1 hol ho hb1 hb1n
    have hge := grownCap_ge w (List.length l + List.length l2) old e
    have hcm : grownCap w (List.length l + List.length l2) old e ≤ maxLen := grownCap_le_maxLen w (List.length l + List.length l2) old e h63
    have keep : ∀ k, k < w.heap.size → (w.drew.alloc (.cells (olds.toArray ++ us.toArray ++ Builtin.zeroCells z.cells (grownCap w (List.length l + List.length l2) old e - (List.length l + List.length l2))) e)).heap[k]? = w.heap[k]? := fun k hk => heap_alloc_old w.drew _ hk
    have hcs : OwnCs w (olds ++ us) (flatAll τ (l ++ l2)) (b1 ++ b') := by rw [flatAll_append]; exact ho.append hu
    have hlt := hcs.lt
    have hnd2 : (b1 ++ b').Nodup := by
      rw [List.nodup_append]
      exact ⟨hb1n, hnd', fun x hx y hy e => by subst e; exact hdis x hy (hb1 x hx)⟩
    refine ⟨w.heap.size :: (b1 ++ b'), ?_, ⟨?_, ?_, by simp, fun k hk _ => keep k hk, rfl, rfl, rfl⟩⟩
    · rw [← hcat] at hge hcm ⊢
      refine OwnL.mk (arr := olds.toArray ++ us.toArray ++ Builtin.zeroCells z.cells _) (heap_alloc_new w.drew _) hge hcm ?_ ?_
      · simp only [Array.size_append, List.size_toArray, size_zeroCells, hzs, hol, hul, hcat]
        rw [← hs, ← Nat.add_mul, ← Nat.add_mul, Nat.zero_add, hcat] at *
        refine Nat.le_of_eq ?_
        congr 1
        omega
      · have e1 : ((olds.toArray ++ us.toArray ++ Builtin.zeroCells z.cells (grownCap w (List.length (l ++ l2)) old e - List.length (l ++ l2))).toList.drop 0).take (List.length (l ++ l2) * size τ) = olds ++ us := by
          rw [List.drop_zero, Array.toList_append, Array.toList_append, List.take_append_of_le_length]
          · rw [List.take_of_length_le]
            simp [hol, hul, hcat, hs, Nat.add_mul]
          · simp [hol, hul, hcat, hs, Nat.add_mul]
        rw [e1]
        exact hcs.frame fun g hg => by rw [hcat]; exact keep g (hlt g hg)
    · exact List.nodup_cons.2 ⟨fun hx => Nat.lt_irrefl _ (hlt _ hx), hnd2⟩
    · intro x hx
      simp only [List.mem_cons, List.mem_append] at hx
      rcases hx with rfl | hx | hx
      · exact .inr (.inr (Nat.le_refl _))
      · exact .inl (hb1 x hx)
      · exact .inr (.inl hx)
  rcases h.cases with ⟨ad, rfl, rfl, rfl⟩ | ⟨g, o, cap, arr, e', b1, rfl, rfl, hg, h2, h3, h4, h5⟩
  · -- nothing was there
    obtain ⟨bs', g1, g2⟩ := grown 0 [] [] (by simp) .nil (by simp) List.nodup_nil
    simp only [List.length_nil, Nat.zero_add, List.nil_append, Array.empty_append] at g1 g2 ⊢
    simp only [List.length_nil, Nat.zero_add] at hbytes hsmall
    cases ad with
    | none =>
      refine ⟨_, _, bs', run_append_nil (P := P) w t ty e i z ht hi hz a _ c us hul hus h0 (by omega) (by omega), ?_, ?_⟩
      · simpa using g1
      · simpa using g2
    | some b =>
      refine ⟨_, _, bs', run_append_grow (P := P) w t ty e i z ht hi hz b 0 0 [] (by simp) (by simp) a _ c us hul hus (by omega) (by omega) (growslice_fits (by omega) (by simpa using hbytes)), ?_, ?_⟩
      · simpa using g1
      · simpa using g2
  · by_cases hroom : List.length l + List.length l2 ≤ cap
    · have hfit : o + List.length l * i.size + us.length ≤ arr.size := by
        rw [hul, Nat.add_assoc, ← Nat.add_mul, hs]
        have := Nat.mul_le_mul_right (size τ) hroom
        omega
      refine ⟨_, _, g :: (b1 ++ b'), run_append_roomAt t ty e e' i ht hi g o _ cap arr hg a _ c us hul hus hu.one hroom hfit, ?_, ⟨?_, ?_, by simp, fun k _ hk => setRow_other w g k _ (fun e => by subst e; exact hk (by simp)), by simp, by simp, by simp⟩⟩
      · simp only [List.nodup_cons] at hnd
        have hgb : g ∉ b' := fun hx => hdis g hx (by simp)
        rw [← hcat] at hroom ⊢
        refine OwnL.mk (setRow_at w g arr _ e' hg) hroom h3 ?_ ?_
        · simp only [List.size_toArray, List.length_append, List.length_take, List.length_drop, Array.length_toList]
          omega
        · have h8 : arr.toList.length = arr.size := Array.length_toList
          have hn : o + List.length l * size τ ≤ arr.toList.length := by rw [h8, ← hs]; omega
          have e1 : (((arr.toList.take (o + List.length l * i.size) ++ us ++ arr.toList.drop (o + List.length l * i.size + us.length)).toArray.toList).drop o).take (List.length (l ++ l2) * size τ) = (arr.toList.drop o).take (List.length l * size τ) ++ us := by
            rw [hs, hcat, Nat.add_mul, List.append_assoc]
            rw [List.drop_append_of_le_length (by simp; omega), List.drop_take, Nat.add_sub_cancel_left]
            rw [List.take_append]
            have e3 : ((arr.toList.drop o).take (List.length l * size τ)).length = List.length l * size τ := by simp; rw [h8] at hn; omega
            rw [e3, List.take_of_length_le (by omega)]
            congr 1
            rw [Nat.add_sub_cancel_left, List.take_append_of_le_length (by rw [hul, hs]; exact Nat.le_refl _), List.take_of_length_le (by rw [hul, hs]; exact Nat.le_refl _)]
          rw [e1, flatAll_append]
          have fr : ∀ {vs cs bb} , OwnCs w vs cs bb → g ∉ bb → OwnCs (w.setRow g (arr.toList.take (o + List.length l * i.size) ++ us ++ arr.toList.drop (o + List.length l * i.size + us.length)).toArray) vs cs bb := fun hh hn => hh.frame fun x hx => setRow_other w g x _ (fun e => by subst e; exact hn hx)
          exact (fr h5 hnd.1).append (fr hu hgb)
      · simp only [List.nodup_cons, List.mem_append, not_or, List.nodup_append] at hnd ⊢
        exact ⟨⟨hnd.1, fun hx => hdis g hx (by simp)⟩, hnd.2, hnd', fun x hx y hy e => by subst e; exact hdis x hy (by simp [hx])⟩
      · intro x hx
        simp only [List.mem_cons, List.mem_append] at hx ⊢
        rcases hx with rfl | hx | hx
        · exact .inl (.inl rfl)
        · exact .inl (.inr hx)
        · exact .inr (.inl hx)
    · have hol : ((arr.toList.drop o).take (List.length l * size τ)).length = List.length l * i.size := by
        rw [h5.length, flatAll_length, hs]
      obtain ⟨bs', g1, g2⟩ := grown cap _ b1 hol h5 (fun x hx => by simp [hx]) (List.nodup_cons.1 hnd).2
      refine ⟨_, _, bs', run_append_grow (P := P) w t ty e i z ht hi hz ⟨g, o, none⟩ _ cap _ hol ?_ a _ c us hul hus (by omega) (by omega) (growslice_fits (by omega) hbytes), g1, g2⟩
      intro j u hj
      rw [addLit]
      rw [List.getElem?_take] at hj
      split at hj
      · exact cellAtArr hg hj
      · cases hj

/-- A piece of a row: the rest is left behind. -/
theorem OwnL.piece {τ : Ty} {v : Value} {l : List (El τ)} {bs : List Nat} (h : OwnL w τ v l bs) (hnd : bs.Nodup) {ad : Option Addr} {n cap lo hi : Nat} (hv : v = .slice ad n cap) (h1 : lo ≤ hi) (h2 : hi ≤ List.length l) :
    ∃ bs', OwnL w τ (.slice (if cap = lo then ad else ad.map (·.add (lo * size τ))) (hi - lo) (cap - lo)) ((l.take hi).drop lo) bs' ∧ bs'.Nodup ∧ ∀ x ∈ bs', x ∈ bs := by
  have hlen : List.length ((l.take hi).drop lo) = hi - lo := by rw [List.length_drop, List.length_take]; omega
  rcases h.cases with ⟨ad', rfl, rfl, rfl⟩ | ⟨g, o, cap', arr, e', b1, rfl, rfl, hg, k2, k3, k4, k5⟩
  · injection hv with e1 e2 e3
    subst e1; subst e3
    simp at h2
    subst h2
    have : lo = 0 := by omega
    subst this
    exact ⟨[], by simpa using OwnL.emp ad', List.nodup_nil, by simp⟩
  · injection hv with e1 e2 e3
    subst e1; subst e3
    by_cases hc : cap' = lo
    · have e4 : hi = lo := by omega
      refine ⟨[], ?_, List.nodup_nil, by simp⟩
      have : (l.take hi).drop lo = [] := by rw [List.drop_eq_nil_iff]; simp; omega
      rw [this, e4, hc, Nat.sub_self, if_pos rfl]
      exact OwnL.emp _
    · have hfl : flatAll τ l = flatAll τ (l.take lo) ++ (flatAll τ ((l.take hi).drop lo) ++ flatAll τ (l.drop hi)) := by
        rw [← flatAll_append, ← flatAll_append]
        congr 1
        have e5 : (l.take lo) = (l.take hi).take lo := by rw [List.take_take, Nat.min_eq_left h1]
        rw [e5, ← List.append_assoc, List.take_append_drop, List.take_append_drop]
      obtain ⟨v1, v2, v3, c1, c2, c3, ev, rfl, m1, m2, m3⟩ := three_split k5 hfl
      have hl1 : v1.length = lo * size τ := by rw [m1.length, flatAll_length, List.length_take, Nat.min_eq_left (by omega)]
      have hl2 : v2.length = (hi - lo) * size τ := by rw [m2.length, flatAll_length, hlen]
      refine ⟨g :: c2, ?_, ?_, ?_⟩
      · rw [if_neg hc]
        simp only [Option.map_some, addLit]
        rw [← hlen] at hl2 ⊢
        refine OwnL.mk hg (by rw [hlen]; omega) (by simp only [maxLen] at k3 ⊢; omega) ?_ ?_
        · have : lo * size τ + (cap' - lo) * size τ = cap' * size τ := by rw [← Nat.add_mul]; congr 1; omega
          omega
        · have e6 : (arr.toList.drop (o + lo * size τ)).take (List.length ((l.take hi).drop lo) * size τ) = v2 := by
            have e7 : (((arr.toList.drop o).take (List.length l * size τ)).drop v1.length).take v2.length = v2 := by rw [ev, List.drop_left, List.take_left]
            rw [List.drop_take, List.drop_drop, List.take_take, hl1, hl2] at e7
            rw [Nat.min_eq_left] at e7
            · exact e7
            · rw [hlen, ← Nat.sub_mul]; exact Nat.mul_le_mul_right _ (by omega)
          rw [e6]; exact m2
      · simp only [List.nodup_cons, List.mem_append, not_or, List.nodup_append] at hnd ⊢
        exact ⟨hnd.1.2.1, hnd.2.2.1.1⟩
      · intro x hx
        simp only [List.mem_cons, List.mem_append] at hx ⊢
        rcases hx with rfl | hx
        · exact .inl rfl
        · exact .inr (.inr (.inl hx))

/-- Cells without slices are nobody's. -/
def flatTy : Ty → Bool
  | .list _ => false
  | .pair a b => flatTy a && flatTy b
  | _ => true

theorem flat_plain : ∀ {t : Ty}, flatTy t = true → ∀ (x : El t), ∀ c ∈ flat t x, ∀ t' l tag, c ≠ .lst t' l tag
  | .int _, _, x, c, h, t', l, tag => by simp [flat] at h; subst h; simp
  | .bool, _, x, c, h, t', l, tag => by simp [flat] at h; subst h; simp
  | .str, _, x, c, h, t', l, tag => by simp [flat] at h; subst h; simp
  | .unit, _, x, c, h, t', l, tag => by simp [flat] at h
  | .list _, h0, x, c, h, t', l, tag => by simp [flatTy] at h0
  | .pair a b, h0, x, c, h, t', l, tag => by
    simp only [flatTy, Bool.and_eq_true] at h0
    simp only [flat, List.mem_append] at h
    rcases h with h | h
    · exact flat_plain h0.1 x.1 c h t' l tag
    · exact flat_plain h0.2 x.2 c h t' l tag

def plainC : CellV → Bool
  | .int .. => true
  | .bool _ => true
  | .str _ => true
  | _ => false

theorem flat_plainC : ∀ {t : Ty}, flatTy t = true → ∀ (x : El t), ∀ c ∈ flat t x, plainC c = true
  | .int _, _, x, c, h => by simp [flat] at h; subst h; rfl
  | .bool, _, x, c, h => by simp [flat] at h; subst h; rfl
  | .str, _, x, c, h => by simp [flat] at h; subst h; rfl
  | .unit, _, x, c, h => by simp [flat] at h
  | .list _, h0, x, c, h => by simp [flatTy] at h0
  | .pair a b, h0, x, c, h => by
    simp only [flatTy, Bool.and_eq_true] at h0
    simp only [flat, List.mem_append] at h
    rcases h with h | h
    · exact flat_plainC h0.1 x.1 c h
    · exact flat_plainC h0.2 x.2 c h

theorem OwnCs.plain {M : Mem} {vs : List Value} {cs : List CellV} (h : All2 (RdV M) vs cs) : (∀ c ∈ cs, plainC c = true) → OwnCs w vs cs [] := by
  induction h with
  | nil => intro _; exact .nil
  | @cons v c vs cs hx hr ih =>
    intro hp
    have ih' := ih fun c hc => hp c (List.mem_cons_of_mem _ hc)
    have hc := hp c (by simp)
    cases c <;> simp [plainC] at hc
    · cases hx; exact .int ih'
    · cases hx; exact .bool ih'
    · cases hx; exact .str ih'

theorem flatAll_plain {t : Ty} (h : flatTy t = true) (l : List (El t)) : ∀ c ∈ flatAll t l, plainC c = true := fun c hc => by
  obtain ⟨x, _, hx⟩ := flatAll_mem hc
  exact flat_plainC h x c hx

/-- Zeros are nobody's. -/
def zerosV : Ty → List Value
  | .int k => [.int k 0]
  | .bool => [.bool false]
  | .str => [.string ⟨#[]⟩]
  | .list _ => [.slice none 0 0]
  | .unit => []
  | .pair a b => zerosV a ++ zerosV b

def dfl : (t : Ty) → El t
  | .int _ => (0 : Int)
  | .bool => false
  | .str => []
  | .list _ => []
  | .unit => ()
  | .pair a b => (dfl a, dfl b)

theorem OwnCs.zeros : ∀ (t : Ty), OwnCs w (zerosV t) (flat t (dfl t)) []
  | .int _ => .int .nil
  | .bool => .bool .nil
  | .str => .str (s := []) .nil
  | .list _ => .emp .nil
  | .unit => .nil
  | .pair a b => by have := (OwnCs.zeros a).append (OwnCs.zeros b); simpa [zerosV, flat, dfl] using this

theorem OwnCs.zerosN (t : Ty) : ∀ n, OwnCs w (List.replicate n (zerosV t)).flatten (flatAll t (List.replicate n (dfl t))) []
  | 0 => .nil
  | n + 1 => by
    rw [List.replicate_succ, List.flatten_cons, List.replicate_succ, flatAll_cons]
    have := (OwnCs.zeros (w := w) t).append (OwnCs.zerosN t n)
    simpa using this

end Go.Proofs.Ytcbehcpmojnnfaa.Bv
