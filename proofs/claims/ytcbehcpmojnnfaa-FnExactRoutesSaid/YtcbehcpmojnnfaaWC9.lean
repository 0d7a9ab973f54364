/- A call by its contract: rows and results that are new. -/
import Derived.Test.YtcbehcpmojnnfaaWC8
namespace Go.Proofs.Ytcbehcpmojnnfaa.Bv
set_option linter.unusedVariables false
set_option linter.unusedSimpArgs false

variable {P : Program} {base : World} {M0 : Mem} {ios : Ios} {σ : Sg} {M : Mem} {w : World} {a : Act} {st : St} {tab : Tab} {o : Oper} {next : Act → World → Prop} {Q : Exit → Act → World → Prop}
variable {k : Option Nat} {ks iks bks : List Nat}

theorem splitR_rep {σ' : Sg} {rows : List (Nat × RowV)} : ∀ {shs : List (Bool × Nat)} {rs cs : List Value} {cvs : List CellV}, ResRep shs rs cs → All2 (RdT σ' rows M) cs cvs → All2 (RepVal σ' rows M) rs (splitR shs cvs)
  | _, _, _, _, .nil, _ => .nil
  | _, _, _, cvs, .cons (ag := ag) (n := n) (v := v) (cs := cs) hn ha hr, h => by
    simp only [splitR]
    have hlen : v.cells.toList.length = n := by rw [Array.length_toList]; exact hn
    have h1 := h.take n
    have h2 := h.drop n
    rw [← hlen] at h1 h2
    rw [List.take_left] at h1
    rw [List.drop_left] at h2
    rw [hlen] at h1 h2
    exact .cons ⟨h1, ha⟩ (splitR_rep hr h2)

theorem resSvL_rep {σ' : Sg} {rows : List (Nat × RowV)} {boxes : List (Nat × List CellV)} {rs : List Value} {l : List (Bool × List CellV)} (h : All2 (RepVal σ' rows M) rs l) : RepSv σ' rows boxes M (retVal rs) (resSvL l) := by
  cases h with
  | nil => exact ⟨#[], rfl, .nil⟩
  | cons hx hr =>
    cases hr with
    | nil => exact hx
    | cons hy hr' => exact ⟨_, rfl, by simpa using .cons hx (.cons hy hr')⟩

/-! ### What leans on memory -/

def lstB : CellV → Bool
  | .lst .. => true
  | _ => false

theorem flat_shape : ∀ (t : Ty) (x y : El t), (flat t x).map lstB = (flat t y).map lstB
  | .int _, _, _ => rfl
  | .bool, _, _ => rfl
  | .str, _, _ => rfl
  | .list _, _, _ => rfl
  | .unit, _, _ => rfl
  | .pair a b, x, y => by simp [flat, flat_shape a x.1 y.1, flat_shape b x.2 y.2]

theorem leansC_shape {fr : List (Nat × TypeId)} : ∀ {cs ds : List CellV} (i : Nat), cs.map lstB = ds.map lstB → leansC fr i cs = leansC fr i ds
  | [], [], i, _ => rfl
  | [], _ :: _, i, h => by simp at h
  | _ :: _, [], i, h => by simp at h
  | c :: cs, d :: ds, i, h => by
    simp only [List.map_cons, List.cons.injEq] at h
    have ih := leansC_shape (fr := fr) (i + 1) h.2
    cases c <;> cases d <;> simp [lstB] at h <;> simp [leansC, ih]

theorem leansC_false {fr : List (Nat × TypeId)} : ∀ {cs : List CellV} (i j : Nat) {c : CellV}, leansC fr i cs = false → cs[j]? = some c → look (i + j) fr = none → lstB c = false
  | [], i, j, c, _, h, _ => by simp at h
  | d :: cs, i, 0, c, hl, h, hn => by
    simp at h; subst h
    rw [Nat.add_zero] at hn
    cases d <;> first | rfl | simp [leansC, hn] at hl
  | d :: cs, i, j + 1, c, hl, h, hn => by
    simp at h
    have : leansC fr (i + 1) cs = false := by
      cases d <;> simp only [leansC, Bool.or_eq_false_iff] at hl <;> first | exact hl.2 | exact hl
    exact leansC_false (i + 1) j this h (by rw [← hn]; congr 1; omega)

theorem RdV.mem {N : Mem} {v : Value} {c : CellV} (h : RdV M v c) (hl : lstB c = false) : RdV N v c := by
  cases c <;> first | exact h | simp [lstB] at hl

/-! ### Rows that are handed over -/

theorem mkD_in {key : Nat → Nat} {fr : List (Nat × TypeId)} {F : Nat → List Nat} {u : Value} {t : Ty} {l : List (El t)} {tag : Option Nat} {e : TypeId} : ∀ {vs : List Value} {cs : List CellV} (i j : Nat), vs[j]? = some u → cs[j]? = some (.lst t l tag) → look (i + j) fr = some e → ∃ x ∈ mkD key fr F i vs cs, x.key = key (i + j) ∧ x.v = u
  | [], _, i, j, h, _, _ => by simp at h
  | _ :: _, [], i, j, _, h, _ => by simp at h
  | u0 :: vs, c :: cs, i, 0, hu, hc, hl => by
    simp at hu hc; subst hu; subst hc
    rw [Nat.add_zero] at hl
    simp only [mkD, hl]
    exact ⟨_, List.mem_cons_self, rfl, rfl⟩
  | u0 :: vs, c :: cs, i, j + 1, hu, hc, hl => by
    simp at hu hc
    obtain ⟨x, h1, h2, h3⟩ := mkD_in (key := key) (fr := fr) (F := F) (i + 1) j hu hc (by rw [← hl]; congr 1; omega)
    have h2' : x.key = key (i + (j + 1)) := by rw [h2]; congr 1; omega
    refine ⟨x, ?_, h2', h3⟩
    cases c <;> simp only [mkD] <;> first | exact h1 | skip
    split
    · exact List.mem_cons_of_mem _ h1
    · exact h1

/-- The rows of some cells are fit to be taken over. -/
theorem mkD_ok {key : Nat → Nat} {fr : List (Nat × TypeId)} {F : Nat → List Nat} {vs : List Value} {cs : List CellV} (h : OwnIn w M fr vs cs F) (he : elemsOk P fr cs) (hn : (blks fr F).Nodup) {x : NewR} (hx : x ∈ mkD key fr F 0 vs cs) :
    OwnL w x.t x.v x.l x.fo ∧ (∃ i, P.info? x.e = some i ∧ i.size = size x.t) ∧ 0 < size x.t ∧ x.fo.Nodup ∧ (∃ j, x.key = key j ∧ (look j fr).isSome = true ∧ x.fo = F j) := by
  obtain ⟨j, tag, h1, h2, h3, h4, h5⟩ := mkD_mem 0 hx
  rw [Nat.zero_add] at h3 h4 h5
  obtain ⟨u, t, l, k1, k2, k3⟩ := h.own j _ h3
  rw [h1] at k1; cases k1
  rw [h2] at k2
  injection k2 with k2
  injection k2 with e1 e2 e3
  have hel := he j _ h3 _ _ _ h2
  refine ⟨?_, hel.1, hel.2, by rw [h5]; exact (blks_spec hn).1 (j, x.e) (look_mem h3), j, h4, by rw [h3]; rfl, h5⟩
  rw [h5]
  have gen : ∀ (t' : Ty) (l' : List (El t')), t' = t → HEq l' l → OwnL w t' x.v l' (F j) := fun t' l' e1 e2 => by
    subst e1; cases e2; exact k3
  exact gen _ _ e1 e2

theorem in_blks {fr : List (Nat × TypeId)} {F : Nat → List Nat} {j g : Nat} (h : (look j fr).isSome = true) (hg : g ∈ F j) : g ∈ blks fr F := by
  obtain ⟨e, he⟩ := Option.isSome_iff_exists.1 h
  exact mem_blks.2 ⟨(j, e), look_mem he, hg⟩

theorem blks_apart {fr : List (Nat × TypeId)} {F : Nat → List Nat} (hn : (blks fr F).Nodup) {i j : Nat} (hi : (look i fr).isSome = true) (hj : (look j fr).isSome = true) (hne : i ≠ j) : ∀ g ∈ F i, g ∉ F j := by
  obtain ⟨e, he⟩ := Option.isSome_iff_exists.1 hi
  obtain ⟨e', he'⟩ := Option.isSome_iff_exists.1 hj
  exact (blks_spec hn).2 (i, e) (look_mem he) (j, e') (look_mem he') hne

/-- They read as they are, under their keys. -/
theorem retagOk {t : Ty} {x : El t} {key : Nat → Nat} {fr : List (Nat × TypeId)} {F : Nat → List Nat} {σ' : Sg} {rows : List (Nat × RowV)} {vs : List Value} {M' : Mem} (h : OwnIn w M' fr vs (flat t x) F) (hM : leansC fr 0 (flat t x) = false ∨ M = M')
    (hk : ∀ y ∈ mkD key fr F 0 vs (flat t x), σ'.row y.key = y.v) : All2 (RdT σ' rows M) vs (retag key fr 0 (flat t x)) := by
  have hrd : ∀ (j : Nat) (u : Value) (c : CellV), look (0 + j) fr = none → vs[j]? = some u → (flat t x)[j]? = some c → RdV M u c := fun j u c hl hu hc => by
    have hl' : look j fr = none := by rw [← hl]; congr 1; omega
    have h0 := h.rd j u c hl' hu hc
    rcases hM with h1 | h1
    · exact h0.mem (leansC_false 0 j h1 hc hl)
    · rw [h1]; exact h0
  refine retag_rep (F := F) 0 h.len (flat_cells t x) hrd (fun j u c hnl hu hc => ?_) (fun j e hl u t' l hu hc => ?_)
  · cases hl : look (0 + j) fr with
    | none => exact hrd j u c hl hu hc
    | some e =>
      rw [Nat.zero_add] at hl
      obtain ⟨u', t', l, _, k2, _⟩ := h.own j e hl
      rw [hc] at k2; cases k2
      exact absurd rfl (hnl _ _ _)
  · obtain ⟨y, h1, h2, h3⟩ := mkD_in (key := key) (F := F) 0 j hu hc hl
    refine ⟨h.one u (List.mem_of_getElem? hu), ?_⟩
    rw [← h2, hk y h1, h3]

end Go.Proofs.Ytcbehcpmojnnfaa.Bv
