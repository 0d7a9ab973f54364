/- Operations on rows that may be written (4): cells of a row are written; copy, clear. -/
import Derived.Test.YtcbehcpmojnnfaaWH3
namespace Go.Proofs.Ytcbehcpmojnnfaa.Bv
set_option linter.unusedVariables false
set_option linter.unusedSimpArgs false

variable {P : Program} {base : World} {M0 : Mem} {ios : Ios} {σ : Sg} {M : Mem} {w : World} {a : Act} {st : St} {tab : Tab} {o : Oper} {next : Act → World → Prop} {Q : Exit → Act → World → Prop}

/-- The array behind a write. -/
def arrPut (arr : Array Value) (p : Nat) (us : List Value) : Array Value := (arr.toList.take p ++ us ++ arr.toList.drop (p + us.length)).toArray

theorem arrPut_size {arr : Array Value} {p : Nat} {us : List Value} (h : p + us.length ≤ arr.size) : (arrPut arr p us).size = arr.size := by
  simp only [arrPut, List.size_toArray, List.length_append, List.length_take, List.length_drop, Array.length_toList]
  omega

theorem arrPut_set {arr : Array Value} {p : Nat} {us : List Value} {x : Value} (h : us.length = 1) (hp : p < arr.size) : arrPut (arr.setIfInBounds p x) p us = arrPut arr p us := by
  unfold arrPut
  congr 1
  rw [Array.toList_setIfInBounds, List.take_set_of_le (Nat.le_refl _), List.drop_set_of_lt (by omega)]

theorem Sim.putRow (hS : Sim P base M0 ios σ M w a st) {e0 : TypeId} {τ : Ty} {l l' : List (El τ)} {r ver : Nat} {hole : Option (Nat × Nat)} {z : Bool} (hr : look r st.rows = some (.hot e0 τ l ver hole z)) {us : List Value} {ps c1 c2 c3 : List CellV} {ks : List Nat}
    (hu : OwnCs w us ps (foots σ ks)) (hks : nodupB ks = true) (hrk : r ∉ ks) (hkh : ∀ r ∈ ks, isHot r st.rows)
    (hc : flatAll τ l = c1 ++ (c2 ++ c3)) (hl : ps.length = c2.length) (hpos : 0 < c2.length) (hl' : flatAll τ l' = c1 ++ (ps ++ c3)) (hlen : List.length l' = List.length l)
    (hh : hole = none ∨ ∃ i off, hole = some (i, off) ∧ c1.length = i * size τ + off ∧ c2.length = 1)
    (hv : noVers st [(r, .hot e0 τ l' (ver + 1) none z)] = true) :
    ∃ g oo cap arr e', σ.row r = .slice (some ⟨g, oo, none⟩) (List.length l) cap ∧ w.heap[g]? = some (.cells arr e' (0, 0)) ∧ oo + c1.length + us.length ≤ arr.size ∧
      ∃ σ', Sim P base M0 ios σ' M (w.setRow g (arrPut arr (oo + c1.length) us)) a { st with rows := stepRows [(r, .hot e0 τ l' (ver + 1) none z)] ks st.rows } := by
  have hok := hS.hotAt hr
  have hrh : isHot r st.rows := ⟨e0, τ, l, ver, hole, z, hr⟩
  have hnd' := foots_nodup hS (nodup_of hks) hkh
  have hdis := foots_apart hS hrh hrk hkh
  -- the row behind the write
  have key : ∃ g oo cap arr e' b1 b3, σ.row r = .slice (some ⟨g, oo, none⟩) (List.length l) cap ∧ w.heap[g]? = some (.cells arr e' (0, 0)) ∧ oo + c1.length + us.length ≤ arr.size ∧ g ∈ σ.foot r ∧ (∀ x ∈ b1, x ∈ σ.foot r) ∧ (∀ x ∈ b3, x ∈ σ.foot r) ∧
      OwnL (w.setRow g (arrPut arr (oo + c1.length) us)) τ (σ.row r) l' (g :: (b1 ++ (foots σ ks ++ b3))) ∧ (g :: (b1 ++ (foots σ ks ++ b3))).Nodup := by
    have ho := hok.own
    rcases hh with rfl | ⟨i, off, rfl, hp1, hp2⟩
    · obtain ⟨g, oo, cap, arr, e', b1, b2, b3, k1, k2, k3, k4, k5, k6, k7⟩ := OwnL.put ho hok.nodup hc hu hl hpos hl' hlen hdis hnd'
      exact ⟨g, oo, cap, arr, e', b1, b3, k1, k2, k3, by rw [k4]; simp, fun x hx => by rw [k4]; simp [hx], fun x hx => by rw [k4]; simp [hx], k6, k7⟩
    · obtain ⟨g, oo, cap, arr, e', h1, h2, h3, h4, h5, _, h7⟩ := ho
      have hgf : g ∈ σ.foot r := by
        rcases h7.cases with ⟨ad, k1, k2, _⟩ | ⟨g', o', cap', arr', e'', b1, k1, k2, _⟩
        · subst k2; simp at h3
        · rw [h1] at k1; injection k1 with k3; injection k3 with k4; injection k4 with k5
          subst k5; rw [k2]; simp
      have hu' : OwnCs (w.setRow g (arr.setIfInBounds (oo + i * size τ + off) (.slice none 0 0))) us ps (foots σ ks) := hu.frame fun x hx => setRow_other w g x _ (fun e => by subst e; exact hdis x hx hgf)
      obtain ⟨g2, oo2, cap2, arr2, e2, b1, b2, b3, k1, k2, k3, k4, k5, k6, k7⟩ := OwnL.put h7 hok.nodup hc hu' hl hpos hl' hlen hdis hnd'
      rw [h1] at k1
      injection k1 with m1 _ m3
      injection m1 with m1
      injection m1 with m1 m2 _
      subst m1; subst m2; subst m3
      rw [setRow_heap w g arr _ e' _ h2] at k2
      have m4 : arr.setIfInBounds (oo + i * size τ + off) (.slice none 0 0) = arr2 := by cases k2; rfl
      subst m4
      simp only [Array.size_setIfInBounds] at k3
      refine ⟨g, oo, cap, arr, e', b1, b3, h1, h2, k3, hgf, fun x hx => by rw [k4]; simp [hx], fun x hx => by rw [k4]; simp [hx], ?_, k7⟩
      rw [h1] at k6 ⊢
      refine k6.frame fun x hx => ?_
      by_cases hxg : x = g
      · subst hxg
        have e1 : arrPut (arr.setIfInBounds (oo + i * size τ + off) (.slice none 0 0)) (oo + c1.length) us = arrPut arr (oo + c1.length) us := by
          rw [show oo + i * size τ + off = oo + c1.length by omega]
          exact arrPut_set (by rw [hu.length, hl]; exact hp2) (by omega)
        rw [setRow_heap w x arr _ e' _ h2, ← e1]
        exact (setRow_heap _ x _ _ e' _ (setRow_heap w x arr _ e' _ h2)).symm
      · rw [setRow_other _ _ _ _ hxg, setRow_other _ _ _ _ hxg, setRow_other _ _ _ _ hxg]
  obtain ⟨g, oo, cap, arr, e', b1, b3, k1, k2, k3, k4, k5, k6, k7, k8⟩ := key
  refine ⟨g, oo, cap, arr, e', k1, k2, k3, { σ with foot := fun k => if k = r then g :: (b1 ++ (foots σ ks ++ b3)) else σ.foot k, mem := fun k => if k = r then memTop (w.setRow g (arrPut arr (oo + c1.length) us)) τ (σ.row r) (g :: (b1 ++ (foots σ ks ++ b3))) else σ.mem k }, ?_⟩
  have hlk : ∀ r' rv, look r' [(r, RowV.hot e0 τ l' (ver + 1) none z)] = some rv → r' = r ∧ rv = .hot e0 τ l' (ver + 1) none z := fun r' rv hh => by
    rw [look_cons] at hh
    split at hh
    · rename_i e1; cases hh; exact ⟨e1.symm, rfl⟩
    · cases hh
  have hls : ∀ r', (look r' [(r, RowV.hot e0 τ l' (ver + 1) none z)]).isSome = true → r' = r := fun r' hh => by
    obtain ⟨rv, hrv⟩ := Option.isSome_iff_exists.1 hh
    exact (hlk r' rv hrv).1
  have hself : (look r [(r, RowV.hot e0 τ l' (ver + 1) none z)]).isSome = true := by simp [look]
  refine hS.step (S := [g]) ?_ hv
  exact {
    sbox := rfl
    srow := rfl
    sfoot := fun r' hn => by
      have : r' ≠ r := fun e1 => by subst e1; simp [look] at hn
      simp [this]
    size := by simp
    os := by simp
    tape := by simp
    output := by simp
    keep := fun k hk hn => setRow_other w g k _ (fun e1 => hn (by simp [e1]))
    touched := fun x hx => ⟨r, hrh, by rw [List.mem_singleton.1 hx]; exact k4, .inr hself⟩
    updOk := fun r' rv hh => by
      obtain ⟨rfl, rfl⟩ := hlk r' rv hh
      refine ⟨hrk, hrh, _, _, _, _, _, _, rfl, ?_⟩
      exact {
        info := hok.info
        pos := hok.pos
        own := by simp only [if_pos]; exact k7
        nodup := by simp only [if_pos]; exact k8
        mem := fun ad u hu => by simp only [if_pos] at hu ⊢; exact memTop_some hu
        full := fun _ ad u hb ht hu => by simp only [if_pos] at hb ht ⊢; rw [memTop_in hb ht]; exact hu
        z := fun hz => by
          obtain ⟨⟨n, xs, hw⟩, hb⟩ := hok.z hz
          simp only [if_pos]
          rcases hw.2 with ⟨m1, _⟩ | ⟨g', cap', cur, m1, m2, m3, m4, m5, m6, m7⟩
          · rw [m1] at k1; cases k1
          · rw [k1] at m1
            injection m1 with n1 n2 n3
            injection n1 with n1
            injection n1 with n1 n4 _
            subst n1; subst n3
            rw [k2] at m3
            have n5 : arr = cur := by cases m3; rfl
            have n6 : e' = e0 := by cases m3; rfl
            subst n5; subst n6
            have hsz := arrPut_size (arr := arr) (p := oo + c1.length) (us := us) k3
            refine ⟨⟨n, _, ⟨?_, .inr ⟨g, cap, arrPut arr (oo + c1.length) us, by rw [k1, n2, n4], m2, setRow_heap w g arr _ e' _ k2, m4, m5, by rw [hsz]; exact m6, rfl⟩⟩⟩, fun x hx => by rw [k1, ownBlock_slice] at hx; cases hx; simp⟩
            rw [List.length_take, Array.length_toList, hsz, m6, Nat.min_eq_left (Nat.mul_le_mul_right _ m4)] }
    foot := fun r' hh x hx => by
      have e1 := hls r' hh; subst e1
      simp only [if_pos] at hx
      refine ⟨by rw [show (w.setRow g (arrPut arr (oo + c1.length) us)).heap.size = w.heap.size by simp]; simpa using OwnCs.lt k7 x hx, .inr ?_⟩
      simp only [List.mem_cons, List.mem_append] at hx
      rcases hx with rfl | hx | hx | hx
      · exact ⟨r', hrh, k4, .inr hself⟩
      · exact ⟨r', hrh, k5 x hx, .inr hself⟩
      · obtain ⟨r2, m1, m2⟩ := mem_foots hx
        exact ⟨r2, hkh r2 m1, m2, .inl m1⟩
      · exact ⟨r', hrh, k6 x hx, .inr hself⟩
    apart := fun r1 r2 h1 h2 hne => absurd ((hls r1 h1).trans (hls r2 h2).symm) hne }

theorem flatAll_at {τ : Ty} {l : List (El τ)} {i : Nat} (hi : i < List.length l) : flatAll τ l = flatAll τ (l.take i) ++ (flat τ (l.getD i (dfl τ)) ++ flatAll τ (l.drop (i + 1))) := by
  have e1 : l.getD i (dfl τ) = l[i] := by rw [List.getD_eq_getElem?_getD, List.getElem?_eq_getElem hi]; rfl
  rw [e1, ← flatAll_cons, ← List.drop_eq_getElem_cons hi, ← flatAll_append, List.take_append_drop]

theorem flatAll_set {τ : Ty} {l : List (El τ)} {i : Nat} {y : El τ} (hi : i < List.length l) : flatAll τ (l.set i y) = flatAll τ (l.take i) ++ (flat τ y ++ flatAll τ (l.drop (i + 1))) := by
  rw [flatAll_at (l := l.set i y) (i := i) (by simpa using hi)]
  rw [List.take_set_of_le (Nat.le_refl _), List.drop_set_of_lt (by omega)]
  congr 2
  rw [List.getD_eq_getElem?_getD, List.getElem?_set_self (by simpa using hi)]; rfl

/-- A cell of an element is written. -/
theorem op_store_hp (hT : TabOk P tab) (hS : Sim P base M0 ios σ M w a st) {t e0 : TypeId} {ti : TI} {x y : Operand} {r i off ver : Nat} {τ : Ty} {l l' : List (El τ)} {hole : Option (Nat × Nat)} {z : Bool} {ds ps : List CellV} {ks : List Nat} {rows : List (Nat × RowV)}
    (ho : o.op = .store t x y) (hdn : o.dst = none) (hrows : ∀ r rv, look r rows = some rv → look r st.rows = some rv)
    (ht : look t tab = some ti) (hr : look r st.rows = some (.hot e0 τ l ver hole z)) (hx : RepSv σ st.rows st.boxes M (a.eval x) (.hp τ r i off)) (hy : All2 (RdT σ st.rows M) (a.eval y).cells.toList ds)
    (hown : ownC rows ds = some (ps, ks)) (hrk : notMem r ks = true) (hks : nodupB ks = true) (hl : ds.length = size ti.ty) (hoff : off + ds.length ≤ size τ) (hpos : 0 < ds.length)
    (hset : setEl τ l i off ps = some l') (hh : hole = none ∨ (hole = some (i, off) ∧ ds.length = 1)) (hv : noVers st [(r, .hot e0 τ l' (ver + 1) none z)] = true)
    (hn : Goes P base M0 ios a o st { sv := .und, krow := ks, urow := [(r, .hot e0 τ l' (ver + 1) none z)] } next) : o.wp P a w next Q := by
  have hok := hS.hotAt hr
  obtain ⟨ad, ⟨ad0, n, cap, h1, h2, h3⟩, hx⟩ := hx (by rw [hr]; rfl)
  obtain ⟨ax, cx, hlen⟩ := hok.len
  have hn' : n = List.length l := by rw [hlen] at h1; injection h1 with _ e2; exact e2.symm
  subst hn'
  obtain ⟨hu, hkh⟩ := ownC_rep hS hrows hy hown
  have hps := ownC_unT hown
  have hpl : ps.length = ds.length := by have := hu.length; rw [← this, hy.length]
  -- the list behind it
  unfold setEl at hset
  split at hset
  · rename_i y' hy'
    cases hset
    have hfl := unflat_flat _ _ _ _ hy'
    simp only [List.map_nil, List.append_nil, List.map_append, List.map_take, List.map_drop, flat_unT, hps] at hfl
    have hfx : (flat τ (l.getD i (dfl τ))).length = size τ := flat_length _ _
    have hc : flatAll τ l = (flatAll τ (l.take i) ++ (flat τ (l.getD i (dfl τ))).take off) ++ ((((flat τ (l.getD i (dfl τ))).drop off).take ps.length) ++ ((flat τ (l.getD i (dfl τ))).drop (off + ps.length) ++ flatAll τ (l.drop (i + 1)))) := by
      rw [flatAll_at h2]
      have e1 : flat τ (l.getD i (dfl τ)) = (flat τ (l.getD i (dfl τ))).take off ++ ((((flat τ (l.getD i (dfl τ))).drop off).take ps.length) ++ (flat τ (l.getD i (dfl τ))).drop (off + ps.length)) := by
        rw [← List.drop_drop, List.take_append_drop, List.take_append_drop]
      conv => lhs; rw [e1]
      simp only [List.append_assoc]
    have hl' : flatAll τ (l.set i y') = (flatAll τ (l.take i) ++ (flat τ (l.getD i (dfl τ))).take off) ++ (ps ++ ((flat τ (l.getD i (dfl τ))).drop (off + ps.length) ++ flatAll τ (l.drop (i + 1)))) := by
      rw [flatAll_set h2, ← hfl]
      simp only [List.append_assoc]
    have hc2 : (((flat τ (l.getD i (dfl τ))).drop off).take ps.length).length = ps.length := by rw [List.length_take, List.length_drop, hfx]; omega
    have hc1 : (flatAll τ (l.take i) ++ (flat τ (l.getD i (dfl τ))).take off).length = i * size τ + off := by
      rw [List.length_append, flatAll_length, List.length_take, List.length_take, hfx, Nat.min_eq_left (by omega), Nat.min_eq_left (by omega)]
    obtain ⟨g, oo, cap', arr, e', k1, k2, k3, σ', k4⟩ := hS.putRow hr hu hks (notMem_iff.1 hrk) hkh hc hc2.symm (by omega) hl' (by simp) (by
      rcases hh with h | ⟨h, h'⟩
      · exact .inl h
      · exact .inr ⟨i, off, h, hc1, by omega⟩) hv
    rw [hc1] at k3 k4
    rw [k1] at h1
    have e1 : ad0 = ⟨g, oo, none⟩ := by injection h1 with e1; injection e1 with e1; exact e1.symm
    subst e1
    have hst := run_storeCells_at P g (oo + (i * size τ + off)) e' (a.eval y).cells.toList 0 arr w k2 (by rw [Nat.add_zero]; exact k3) hy.one
    simp only [Nat.add_zero] at hst
    have hsz' : (a.eval y).cells.size = size ti.ty := by rw [← Array.length_toList, hy.length, hl]
    have hrun : (execOp a.eval o).run P w = .ok .skip (w.setRow g (arrPut arr (oo + (i * size τ + off)) (a.eval y).cells.toList)) := by
      have hx' : a.eval x = .pointer (some ⟨g, oo + (i * size τ + off), none⟩) := by rw [hx, h3, add_lit]
      simp [execOp, ho, Instr.storeAt, Instr.sureAddr, hx', storeVar, info_size hT ht, hsz', arrPut]
      simp only [Array.length_toList, List.append_assoc] at hst
      rw [hsz'] at hst
      simp [hst]
    have hgo := hn undef σ' M (w.setRow g (arrPut arr (oo + (i * size τ + off)) (a.eval y).cells.toList))
    rw [hdn] at hgo
    unfold Oper.wp
    rw [hrun]
    show next (a.put o.dst undef) _
    rw [hdn]
    refine hgo ?_
    show Sim P base M0 ios σ' M _ a (Eff.apply _ none st)
    unfold Eff.apply
    simp only [rowsOf_eq, List.nil_append]
    exact k4
  · cases hset

end Go.Proofs.Ytcbehcpmojnnfaa.Bv
