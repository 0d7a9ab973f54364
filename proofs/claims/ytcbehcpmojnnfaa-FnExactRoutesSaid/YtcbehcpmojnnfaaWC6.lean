/- A call by its contract: what it is handed. -/
import Derived.Test.YtcbehcpmojnnfaaWC5
namespace Go.Proofs.Ytcbehcpmojnnfaa.Bv
set_option linter.unusedVariables false
set_option linter.unusedSimpArgs false

variable {P : Program} {base : World} {M0 : Mem} {ios : Ios} {σ : Sg} {M : Mem} {w : World} {a : Act} {st : St} {tab : Tab} {o : Oper} {next : Act → World → Prop} {Q : Exit → Act → World → Prop}

structure ArgFacts (con : Con) (rows : List (Nat × RowV)) (p : List CellV × List Nat) (k : Option Nat) (iks : List Nat) (x : Args con) : Prop where
  vals : ∃ vs ks, valCs rows p.1 = some vs ∧ handed rows p.1 con.ownA = some ks ∧ unflat con.A vs = some (x.a, []) ∧ x.kill = ks ++ iks ∧ nodupB (ks ++ (iks ++ backKeys p.1 con.backA)) = true ∧
    noneIn (borrowed (restC (con.ownA ++ con.backA) 0 p.1)) (ks ++ (iks ++ backKeys p.1 con.backA)) = true
  back : backOk rows p.1 con.backA = true
  leans : con.leans = true → borrowed (restC (con.ownA ++ con.backA) 0 p.1) = [] ∧ p.2 = []
  kp : ∀ b, k = some b → b ∉ p.2
  k : x.k = k
  cs : x.cs = p.1
  rows : x.rows = rows

theorem fin_spec {con : Con} {rows : List (Nat × RowV)} {i : El con.I} {k : Option Nat} {iks : List Nat} {p : List CellV × List Nat} {x : Args con}
    (h : argsFin con rows i k iks p = some x) : ArgFacts con rows p k iks x ∧ x.i = i := by
  unfold argsFin at h
  split at h
  · rename_i vs ks h1 h2
    split at h
    · rename_i a h3
      split at h
      · rename_i hc
        cases h
        simp only [Bool.and_eq_true, Bool.or_eq_true, Bool.not_eq_true', List.isEmpty_iff] at hc
        obtain ⟨⟨⟨⟨c1, c2⟩, c3⟩, c4⟩, c5⟩ := hc
        refine ⟨⟨⟨vs, ks, h1, h2, h3, rfl, c1, c2⟩, c3, fun hl => ?_, fun b hb => ?_, rfl, rfl, rfl⟩, rfl⟩
        · rcases c4 with c4 | c4
          · rw [hl] at c4; cases c4
          · exact c4
        · subst hb; exact notMem_iff.1 c5
      · cases h
    · cases h
  · cases h

theorem callArgs_spec {con : Con} {ts : List TypeId} {args : List In} {x : Args con} (h : callArgs tab con ts args = some x) :
    (con.io = false ∧ ∃ p, argCells tab con.shA ts args = some p ∧ ArgFacts con (args.flatMap (·.rows)) p none [] x) ∨
    (con.io = true ∧ ∃ x0 xs t0 ts' k bc ic iks p, args = x0 :: xs ∧ ts = t0 :: ts' ∧ x0.sv = .box k 0 ∧ x0.box = some bc ∧ valCs (args.flatMap (·.rows)) bc = some ic ∧ handed (args.flatMap (·.rows)) bc con.ownI = some iks ∧ argCells tab con.shA ts' xs = some p ∧
      unflat con.I ic = some (x.i, []) ∧ borrowed (restC con.ownI 0 bc) = [] ∧ ArgFacts con (args.flatMap (·.rows)) p (some k) iks x) := by
  unfold callArgs at h
  split at h
  · rename_i hio
    refine .inr ⟨hio, ?_⟩
    split at h
    · rename_i x0 xs t0 ts'
      split at h
      · rename_i k bc hsv hbx
        split at h
        · rename_i ic iks p h1 h2 h3
          split at h
          · rename_i i h4
            split at h
            · rename_i h5
              obtain ⟨f, e⟩ := fin_spec h
              subst e
              exact ⟨x0, xs, t0, ts', k, bc, ic, iks, p, rfl, rfl, hsv, hbx, h1, h2, h3, h4, by simpa using h5, f⟩
            · cases h
          · cases h
        · cases h
      · cases h
    · cases h
  · rename_i hio
    refine .inl ⟨hio, ?_⟩
    split at h
    · rename_i p h1
      exact ⟨p, h1, (fin_spec h).1⟩
    · cases h

/-- Cells that are handed over, and those that are only read. -/
theorem ownIn_of (hS : Sim P base M0 ios σ M w a st) {N : Mem} (hMN : M.le N) {rows : List (Nat × RowV)} (hr : ∀ r rv, look r rows = some rv → look r st.rows = some rv) {acs : List Value} {cs vs : List CellV} (h : All2 (RdT σ st.rows M) acs cs) (hv : valCs rows cs = some vs)
    {own : List (Nat × TypeId)} (ho : ∀ j e, (j, e) ∈ own → ∃ c x, cs[j]? = some c ∧ handC rows c = some x) (hN : ∀ r ∈ borrowed (restC own 0 cs), isHot r st.rows → (σ.mem r).le N) : OwnIn w N own acs vs (footAt σ cs) := by
  obtain ⟨hl, hg⟩ := valCs_get hv
  refine ⟨by rw [h.length, hl], fun j u c' hj hu hc' => ?_, fun j e hj => ?_⟩
  · obtain ⟨c, hc, hrd⟩ := h.getL hu
    obtain ⟨c2, h2, h3⟩ := hg j c hc
    rw [hc'] at h2; cases h2
    exact valC_repN hS hMN hr hrd h3 fun r hb hh => hN r (borrowed_mem hb (restC_mem 0 j hc (by simpa using hj))) hh
  · obtain ⟨c, x, hc, hx⟩ := ho j e (look_mem hj)
    obtain ⟨u, hu, hrd⟩ := h.get hc
    obtain ⟨c', h2, h3⟩ := hg j c hc
    obtain ⟨t, l, rfl, k1, k2⟩ := handC_rep hS hr hrd h3 hx
    refine ⟨u, t, l, hu, h2, ?_⟩
    cases x with
    | none =>
      have : footAt σ cs j = [] := by
        simp only [footAt, hc]
        cases c <;> first | rfl | skip
        rename_i t0 r0
        simp only [handC] at hx
        split at hx
        · split at hx
          · cases hx
          · cases hx
        · cases hx
      rw [this]; exact k1
    | some r =>
      obtain ⟨_, t0, rfl⟩ := k2 r rfl
      have : footAt σ cs j = σ.foot r := by simp only [footAt, hc]
      rw [this]; exact k1

/-- The memory that a call may read: what is frozen; if nothing comes back that leans on it, all but what is handed over. -/
noncomputable def callMem (con : Con) (M : Mem) (w : World) (blk : List Nat) : Mem := match con.leans with
  | true => M
  | false => fun ad => if ad.block ∈ blk then none else w.cell? ad

theorem noneIn_spec {l r : List Nat} (h : noneIn l r = true) : ∀ k ∈ l, k ∉ r := fun k hk => notMem_iff.1 (List.all_eq_true.1 h k hk)

theorem foots_none (hS : Sim P base M0 ios σ M w a st) {ks : List Nat} (hh : ∀ r ∈ ks, isHot r st.rows) : ∀ g ∈ foots σ ks, ∀ ad, ad.block = g → M ad = none := fun g hg ad had => by
  obtain ⟨r, h1, h2⟩ := mem_foots hg
  exact hS.hot.noM r (hh r h1) g h2 ad had

theorem RepIn.capIn {v : Value} {sv : Sv} {c : Cap} (hm : c ∈ (match sv with | .fn _ a b => a ++ b | _ => [])) (hS : Sim P base M0 ios σ M w a st) (hx : RepCap σ st.rows st.boxes M v c) : RepIn σ st M v (callInfo.capIn (mkIn st sv) c) := by
  have hrows : ∀ r rv, look r (mkIn st sv).rows = some rv → look r st.rows = some rv := fun r rv hl => look_pick_some hl
  have hboxes : ∀ k cs, look k (mkIn st sv).boxes = some cs → st.box k = some cs := fun k cs hl => look_pick_some hl
  cases c with
  | box k off =>
    refine ⟨hx, fun k' off' e => ?_, fun t l r e => (by cases e), hrows, hboxes⟩
    cases e
    show look k (pick st.boxes (boxesSv sv)) = look k st.boxes
    rw [look_pick, if_pos]
    cases sv with
    | fn n x y =>
      simp only [boxesSv, List.mem_append]
      rcases List.mem_append.1 hm with h | h
      · exact .inl (boxesCap_mem h)
      · exact .inr (boxesCap_mem h)
    | _ => cases hm
  | ptr cs => exact ⟨hx, fun k off e => (by cases e), fun t l r e => (by cases e), hrows, fun k cs hl => (by cases hl)⟩

theorem inOf_func (st : St) (f : Nat) : inOf st (.func f) = mkIn st (.fn f [] []) := rfl

end Go.Proofs.Ytcbehcpmojnnfaa.Bv
