/- A call by its contract: how it is entered. -/
import Derived.Test.YtcbehcpmojnnfaaWC6
namespace Go.Proofs.Ytcbehcpmojnnfaa.Bv
set_option linter.unusedVariables false
set_option linter.unusedSimpArgs false

variable {P : Program} {base : World} {M0 : Mem} {ios : Ios} {σ : Sg} {M : Mem} {w : World} {a : Act} {st : St} {tab : Tab} {o : Oper} {next : Act → World → Prop} {Q : Exit → Act → World → Prop}

theorem handC_hot {rows : List (Nat × RowV)} {t : Ty} {r : Nat} {x : Option Nat} (h : handC rows (.own t r) = some x) : ∃ e l ver z, look r rows = some (.hot e t l ver none z) := by
  simp only [handC] at h
  split at h
  · rename_i e t' l ver z hl
    split at h
    · rename_i ht; subst ht; exact ⟨e, l, ver, z, hl⟩
    · cases h
  · cases h

structure HandS (σ : Sg) (st : St) (k : Option Nat) (ks iks bks : List Nat) : Prop where
  hot : ∀ r ∈ ks ++ (iks ++ bks), isHot r st.rows
  nodup : (ks ++ (iks ++ bks)).Nodup
  box : ∀ b, k = some b → (st.box b).isSome = true
  ik : k = none → iks = []

def hBlk (σ : Sg) (k : Option Nat) (ks iks bks : List Nat) : List Nat := (match k with | some b => σ.box b :: foots σ iks | none => []) ++ (foots σ ks ++ foots σ bks)

theorem foots_mem {ks : List Nat} {r g : Nat} (hr : r ∈ ks) (hg : g ∈ σ.foot r) : g ∈ foots σ ks := by
  unfold foots
  exact List.mem_flatten.2 ⟨_, List.mem_map.2 ⟨r, hr, rfl⟩, hg⟩

variable {k : Option Nat} {ks iks bks : List Nat}

theorem HandS.mem (h : HandS σ st k ks iks bks) {g : Nat} : g ∈ hBlk σ k ks iks bks ↔ (∃ b, k = some b ∧ g = σ.box b) ∨ ∃ r ∈ ks ++ (iks ++ bks), g ∈ σ.foot r := by
  unfold hBlk
  constructor
  · intro hg
    rcases List.mem_append.1 hg with h1 | h1
    · cases hk : k with
      | none => rw [hk] at h1; cases h1
      | some b =>
        rw [hk] at h1
        rcases List.mem_cons.1 h1 with h2 | h2
        · exact .inl ⟨b, rfl, h2⟩
        · obtain ⟨r, h3, h4⟩ := mem_foots h2; exact .inr ⟨r, by simp [h3], h4⟩
    · rcases List.mem_append.1 h1 with h2 | h2
      · obtain ⟨r, h3, h4⟩ := mem_foots h2; exact .inr ⟨r, by simp [h3], h4⟩
      · obtain ⟨r, h3, h4⟩ := mem_foots h2; exact .inr ⟨r, by simp [h3], h4⟩
  · rintro (⟨b, hb, hg⟩ | ⟨r, hr, hg⟩)
    · subst hb; exact List.mem_append.2 (.inl (by simp [hg]))
    · rcases List.mem_append.1 hr with h1 | h1
      · exact List.mem_append.2 (.inr (List.mem_append.2 (.inl (foots_mem h1 hg))))
      · rcases List.mem_append.1 h1 with h2 | h2
        · cases hk : k with
          | none => rw [h.ik hk] at h2; cases h2
          | some b => exact List.mem_append.2 (.inl (List.mem_cons_of_mem _ (foots_mem h2 hg)))
        · exact List.mem_append.2 (.inr (List.mem_append.2 (.inr (foots_mem h2 hg))))

theorem HandS.noM (h : HandS σ st k ks iks bks) (hS : Sim P base M0 ios σ M w a st) {g : Nat} (hg : g ∈ hBlk σ k ks iks bks) : ∀ ad, ad.block = g → M ad = none := fun ad had => by
  rcases h.mem.1 hg with ⟨b, hb, e⟩ | ⟨r, hr, hg'⟩
  · exact hS.boxM b (h.box b hb) ad (by rw [had, e])
  · exact hS.hot.noM r (h.hot r hr) g hg' ad had

theorem HandS.foot_not (h : HandS σ st k ks iks bks) (hS : Sim P base M0 ios σ M w a st) {r g : Nat} (hr : isHot r st.rows) (hn : r ∉ ks ++ (iks ++ bks)) (hg : g ∈ σ.foot r) : g ∉ hBlk σ k ks iks bks := fun hm => by
  rcases h.mem.1 hm with ⟨b, hb, e⟩ | ⟨r', hr', hg'⟩
  · exact hS.hot.noBox r hr b (h.box b hb) (e ▸ hg)
  · exact hS.hot.apart r' r (h.hot r' hr') hr (fun e => hn (e ▸ hr')) g hg' hg

theorem HandS.box_not (h : HandS σ st k ks iks bks) (hS : Sim P base M0 ios σ M w a st) {b : Nat} (hb : (st.box b).isSome = true) (hn : k ≠ some b) : σ.box b ∉ hBlk σ k ks iks bks := fun hm => by
  rcases h.mem.1 hm with ⟨b', hb', e⟩ | ⟨r', hr', hg'⟩
  · exact hn (by rw [hb', hS.boxInj b' b (h.box b' hb') hb e.symm])
  · exact hS.hot.noBox r' (h.hot r' hr') b hb hg'

theorem HandS.blkNodup (h : HandS σ st k ks iks bks) (hS : Sim P base M0 ios σ M w a st) : (hBlk σ k ks iks bks).Nodup := by
  have h1 := foots_nodup hS h.nodup h.hot
  rw [foots_append, foots_append] at h1
  unfold hBlk
  cases hk : k with
  | none =>
    rw [h.ik hk] at h1
    simpa [foots] using h1
  | some b =>
    have hp : (foots σ ks ++ (foots σ iks ++ foots σ bks)).Perm (foots σ iks ++ (foots σ ks ++ foots σ bks)) := by
      rw [← List.append_assoc, ← List.append_assoc]
      exact List.Perm.append_right _ List.perm_append_comm
    have h2 := hp.nodup_iff.1 h1
    show (σ.box b :: (foots σ iks ++ (foots σ ks ++ foots σ bks))).Nodup
    refine List.nodup_cons.2 ⟨fun hm => ?_, h2⟩
    have h3 := hp.mem_iff.2 hm
    have h4 : σ.box b ∈ foots σ (ks ++ (iks ++ bks)) := by rw [foots_append, foots_append]; exact h3
    obtain ⟨r, h5, h6⟩ := mem_foots h4
    exact hS.hot.noBox r (h.hot r h5) b (h.box b hk) h6

theorem unflat_eq {t : Ty} {rows : List (Nat × RowV)} {cs vs : List CellV} {x : El t} (hv : valCs rows cs = some vs) (h : unflat t vs = some (x, [])) : vs = flat t x := by
  have h1 := unflat_flat t vs x [] h
  rw [valCs_unT hv] at h1
  simpa using h1

def ptrArg (σ : Sg) : Option Nat → List Value
  | some b => [.pointer (some ⟨σ.box b, 0, none⟩)]
  | none => []

theorem call_enter {con : Con} {rows : List (Nat × RowV)} {p : List CellV × List Nat} {x : Args con} {vs : List Value} {ins : List In} {ts : List TypeId} {bc : List CellV} {n : FuncId} (hS : Sim P base M0 ios σ M w a st)
    (hr : ∀ r rv, look r rows = some rv → look r st.rows = some rv) (hins : All2 (fun v i => RepIn σ st M v i) vs ins) (hp : argCells tab con.shA ts ins = some p) (f : ArgFacts con rows p k iks x) (hio : con.io = k.isSome) (hik : k = none → iks = [])
    (hk : ∀ b, k = some b → st.box b = some bc ∧ ∃ ic, valCs rows bc = some ic ∧ handed rows bc con.ownI = some iks ∧ unflat con.I ic = some (x.i, []) ∧ borrowed (restC con.ownI 0 bc) = []) (hcon : ConOk P n con) (hpre : con.pre x.i x.a) :
    ∃ ks acs N, x.kill = ks ++ iks ∧ HandS σ st k ks iks (backKeys p.1 con.backA) ∧ All2 (RdT σ st.rows M) acs p.1 ∧ M.le N ∧ (con.leans = true → N = M) ∧
      Calls P n (ptrArg σ k ++ vs).toArray w (Ret P con w N (hBlk σ k ks iks (backKeys p.1 con.backA)) (k.map σ.box) acs x.i x.a) := by
  obtain ⟨cv, ks, hcv, hks, hun, hkill, hnd, hnone⟩ := f.vals
  obtain ⟨a1, a2⟩ := handed_spec hks
  obtain ⟨b1, b2⟩ := backOk_spec f.back
  have hotOf : ∀ {cs : List CellV} {own : List (Nat × TypeId)} {ks : List Nat}, (∀ j e, (j, e) ∈ own → ∃ c x, cs[j]? = some c ∧ handC rows c = some x ∧ ∀ r, x = some r → r ∈ ks) → (∀ r ∈ ks, ∃ j e t, (j, e) ∈ own ∧ cs[j]? = some (.own t r)) → ∀ r ∈ ks, isHot r st.rows := fun h1 h2 r hrk => by
    obtain ⟨j, e, t, hm, hc⟩ := h2 r hrk
    obtain ⟨c, y, hc', hh, _⟩ := h1 j e hm
    rw [hc] at hc'; cases hc'
    obtain ⟨e', l, ver, z, hl⟩ := handC_hot hh
    exact ⟨_, _, _, _, _, _, hr r _ hl⟩
  have hH : HandS σ st k ks iks (backKeys p.1 con.backA) := by
    refine ⟨fun r hrm => ?_, nodup_of hnd, fun b hb => by rw [(hk b hb).1]; rfl, hik⟩
    rcases List.mem_append.1 hrm with h1 | h1
    · exact hotOf a1 a2 r h1
    · rcases List.mem_append.1 h1 with h2 | h2
      · cases hk' : k with
        | none => rw [hik hk'] at h2; cases h2
        | some b =>
          obtain ⟨_, ic, _, hi, _, _⟩ := hk b hk'
          obtain ⟨i1, i2⟩ := handed_spec hi
          exact hotOf i1 i2 r h2
      · exact hotOf b1 b2 r h2
  have hblk : handBlk con (k.map σ.box) (footAt σ p.1) (footAt σ bc) = hBlk σ k ks iks (backKeys p.1 con.backA) := by
    unfold handBlk hBlk
    rw [blks_append, handed_blks hks, back_blks con.backA]
    cases hk' : k with
    | none => rfl
    | some b =>
      obtain ⟨_, ic, _, hi, _, _⟩ := hk b hk'
      simp only [Option.map_some]
      rw [handed_blks hi]
  -- the memory that is read
  have hN : ∃ N : Mem, M.le N ∧ (∀ ad v, N ad = some v → w.cell? ad = some v) ∧ (∀ g ∈ hBlk σ k ks iks (backKeys p.1 con.backA), ∀ ad, ad.block = g → N ad = none) ∧ (con.leans = true → N = M) ∧
      (con.leans = false → ∀ ad v, ad.block ∉ hBlk σ k ks iks (backKeys p.1 con.backA) → w.cell? ad = some v → N ad = some v) := by
    cases hl : con.leans with
    | true => exact ⟨M, Mem.le_refl M, hS.mem, fun g hg => hH.noM hS hg, fun _ => rfl, fun h => by cases h⟩
    | false =>
      refine ⟨fun ad => if ad.block ∈ hBlk σ k ks iks (backKeys p.1 con.backA) then none else w.cell? ad, fun ad v hv => ?_, fun ad v hv => ?_, fun g hg ad had => ?_, fun h => (by cases h), fun _ ad v hn hv => ?_⟩
      · by_cases hm : ad.block ∈ hBlk σ k ks iks (backKeys p.1 con.backA)
        · have := hH.noM hS hm ad rfl
          rw [this] at hv; cases hv
        · simp only [if_neg hm]; exact hS.mem ad v hv
      · by_cases hm : ad.block ∈ hBlk σ k ks iks (backKeys p.1 con.backA)
        · simp only [if_pos hm] at hv; cases hv
        · simp only [if_neg hm] at hv; exact hv
      · have hm : ad.block ∈ hBlk σ k ks iks (backKeys p.1 con.backA) := by rw [had]; exact hg
        simp only [if_pos hm]
      · simp only [if_neg hn]; exact hv
  obtain ⟨N, n1, n2, n3, n4, n5⟩ := hN
  obtain ⟨acs, c1, c2⟩ := argCells_rep hS n1 hins hp (fun k' hk' hs' ad u had hu => by
    cases hl : con.leans with
    | true => rw [(f.leans hl).2] at hk'; cases hk'
    | false => exact n5 hl ad u (by rw [had]; exact hH.box_not hS hs' (fun e => f.kp k' e hk')) hu)
  have hcv' := unflat_eq hcv hun
  have hrd : ∀ r, r ∈ borrowed (restC (con.ownA ++ con.backA) 0 p.1) → isHot r st.rows → (σ.mem r).le N := fun r hb hh => by
    cases hl : con.leans with
    | true => rw [(f.leans hl).1] at hb; cases hb
    | false =>
      intro ad u hu
      obtain ⟨e, t, l, ver, hole, z, hlk⟩ := hh
      obtain ⟨m1, m2, _⟩ := (hS.hotAt hlk).mem ad u hu
      exact n5 hl ad u (hH.foot_not hS ⟨e, t, l, ver, hole, z, hlk⟩ (noneIn_spec hnone r hb) m2) m1
  have hown : OwnIn w N (con.ownA ++ con.backA) acs (flat con.A x.a) (footAt σ p.1) := by
    rw [← hcv']
    refine ownIn_of hS n1 hr c2 hcv (fun j e hm => ?_) hrd
    rcases List.mem_append.1 hm with h1 | h1
    · obtain ⟨c, y, k1, k2, _⟩ := a1 j e h1; exact ⟨c, y, k1, k2⟩
    · obtain ⟨c, y, k1, k2, _⟩ := b1 j e h1; exact ⟨c, y, k1, k2⟩
  refine ⟨ks, acs, N, hkill, hH, c2, n1, n4, ?_⟩
  have := hcon w N vs acs x.i x.a (footAt σ p.1) (footAt σ bc) (k.map σ.box) n2 c1 hown (by rw [hio]; cases k <;> rfl) (fun g hg => by
    cases hk' : k with
    | none => rw [hk'] at hg; cases hg
    | some b =>
      rw [hk'] at hg; cases hg
      obtain ⟨hb, ic, h1, h2, h3, h4⟩ := hk b hk'
      obtain ⟨arr, E, h5, h6⟩ := hS.boxes b bc hb
      refine ⟨arr, E, h5, ?_⟩
      rw [← unflat_eq h1 h3]
      obtain ⟨i1, _⟩ := handed_spec h2
      exact ownIn_of hS n1 hr h6 h1 (fun j e hm => by obtain ⟨c, y, k1, k2, _⟩ := i1 j e hm; exact ⟨c, y, k1, k2⟩) (fun r hb => by rw [h4] at hb; cases hb)) (by rw [hblk]; exact hH.blkNodup hS) (by rw [hblk]; exact n3) hpre
  rw [hblk] at this
  cases k with
  | none => exact this
  | some b => exact this

end Go.Proofs.Ytcbehcpmojnnfaa.Bv
