/- What a call leaves of a local state: memory that grows, rows that are given up or come back, a variable that is written; rows that are new. -/
import Derived.Test.YtcbehcpmojnnfaaWC1
namespace Go.Proofs.Ytcbehcpmojnnfaa.Bv
set_option linter.unusedVariables false
set_option linter.unusedSimpArgs false

variable {P : Program} {base : World} {M0 : Mem} {ios : Ios} {σ : Sg} {M : Mem} {w : World} {a : Act} {st : St} {tab : Tab} {o : Oper} {next : Act → World → Prop} {Q : Exit → Act → World → Prop}

def undCs (n : Nat) : List CellV := List.replicate n .und

theorem undCs_rep {rows : List (Nat × RowV)} {M : Mem} : ∀ {vs : List Value}, (∀ u ∈ vs, u.oneCell' = true) → All2 (RdT σ rows M) vs (undCs vs.length)
  | [], _ => .nil
  | v :: vs, h => .cons ⟨h v (by simp), trivial⟩ (undCs_rep fun u hu => h u (by simp [hu]))

structure StepC (P : Program) (base : World) (σ σ' : Sg) (M M' : Mem) (w w' : World) (st : St) (upd : List (Nat × RowV)) (ks S : List Nat) (bk : Option Nat) : Prop where
  le : M.le M'
  mem : ∀ ad v, M' ad = some v → w'.cell? ad = some v
  sbox : σ'.box = σ.box
  srow : σ'.row = σ.row
  sfoot : ∀ r, look r upd = none → σ'.foot r = σ.foot r ∧ σ'.mem r = σ.mem r
  size : w.heap.size ≤ w'.heap.size
  os : w'.os = w.os
  tape : w'.tape = w.tape
  output : w'.output = w.output
  keep : ∀ k, k < w.heap.size → k ∉ S → (∀ b, bk = some b → k ≠ σ.box b) → w'.heap[k]? = w.heap[k]?
  hold : ∀ ad, ad.block < w.heap.size → ad.block ∉ S → M ad = none → M' ad = none
  touched : ∀ g ∈ S, ∃ r, isHot r st.rows ∧ g ∈ σ.foot r ∧ (r ∈ ks ∨ (look r upd).isSome = true)
  bx : ∀ b, bk = some b → (st.box b).isSome = true ∧ (∃ arr E, w'.heap[σ.box b]? = some (.cells arr E (0, 0)) ∧ ∀ u ∈ arr.toList, u.oneCell' = true)
  updOk : ∀ r rv, look r upd = some rv → r ∉ ks ∧ isHot r st.rows ∧ ∃ e t l ver hole z, rv = .hot e t l ver hole z ∧ HotOk P base σ' w' r e t l hole z
  foot : ∀ r, (look r upd).isSome = true → ∀ g ∈ σ'.foot r, g < w'.heap.size ∧ (∀ ad, ad.block = g → M' ad = none) ∧ (w.heap.size ≤ g ∨ ∃ r0, isHot r0 st.rows ∧ g ∈ σ.foot r0 ∧ (r0 ∈ ks ∨ (look r0 upd).isSome = true))
  apart : ∀ r r', (look r upd).isSome = true → (look r' upd).isSome = true → r ≠ r' → ∀ g ∈ σ'.foot r, g ∉ σ'.foot r'

/-- The variables, one of them unknown. -/
def unkBoxes (w' : World) (σ : Sg) (bk : Option Nat) (boxes : List (Nat × List CellV)) : List (Nat × List CellV) := match bk with
  | some b => (b, undCs (match w'.heap[σ.box b]? with | some (.cells arr _ _) => arr.toList.length | _ => 0)) :: boxes
  | none => boxes

theorem unk_some {w' : World} {bk : Option Nat} (h : ∀ b, bk = some b → (st.box b).isSome = true) (k : Nat) : (look k (unkBoxes w' σ bk st.boxes)).isSome = (st.box k).isSome := by
  cases bk with
  | none => rfl
  | some b =>
    simp only [unkBoxes, look_cons]
    split
    · rename_i e; subst e; rw [h _ rfl]; rfl
    · rfl

theorem Sim.stepC (h : Sim P base M0 ios σ M w a st) {σ' : Sg} {M' : Mem} {w' : World} {upd : List (Nat × RowV)} {ks S : List Nat} {bk : Option Nat} (hs : StepC P base σ σ' M M' w w' st upd ks S bk) (hv : noVers st upd = true) :
    Sim P base M0 ios σ' M' w' a { st with rows := stepRows upd ks st.rows, boxes := unkBoxes w' σ bk st.boxes } := by
  have hhot : ∀ r rv, look r upd = some rv → ∃ e t l ver hole z, rv = .hot e t l ver hole z := fun r rv hr => by
    obtain ⟨_, _, e, t, l, ver, hole, z, e1, _⟩ := hs.updOk r rv hr; exact ⟨e, t, l, ver, hole, z, e1⟩
  have hlook : ∀ r rv, look r (stepRows upd ks st.rows) = some rv → r ∉ ks ∧ (look r upd = some rv ∨ (look r upd = none ∧ look r st.rows = some rv)) := fun r rv hr => step_nil_mem hr
  have hsome : ∀ r, (look r (stepRows upd ks st.rows)).isSome = true → (look r st.rows).isSome = true := fun r hr => by
    obtain ⟨rv, hrv⟩ := Option.isSome_iff_exists.1 hr
    rcases (hlook r rv hrv).2 with h1 | ⟨_, h1⟩
    · obtain ⟨_, ⟨_, _, _, _, _, _, h2⟩, _⟩ := hs.updOk r rv h1; rw [h2]; rfl
    · rw [h1]; rfl
  have hcold : ∀ r e, coldOf r (stepRows upd ks st.rows) = some e → st.row r = some e := fun r e hr => by
    obtain ⟨rv, h1, h2⟩ := coldOf_of hr
    rcases (hlook r rv h1).2 with h3 | ⟨_, h3⟩
    · obtain ⟨_, _, _, _, _, _, rfl⟩ := hhot r rv h3; cases h2
    · exact coldOf_mk h3 h2
  have hca : Carry σ st.rows M σ' (stepRows upd ks st.rows) M' (fun _ => True) (okUpd upd) := ⟨hs.le, fun r _ hr => ⟨hsome r hr, by rw [hs.srow]⟩, fun r ver rv' _ ho hl hv' => by
    rcases (hlook r rv' hl).2 with h1 | ⟨h0, h1⟩
    · exact absurd hv' (ho rv' h1)
    · exact ⟨rv', h1, hv', by rw [(hs.sfoot r h0).2]; exact Mem.le_refl _, .inl rfl⟩⟩
  have hbs : ∀ k, (look k (unkBoxes w' σ bk st.boxes)).isSome = (st.box k).isSome := unk_some fun b hb => (hs.bx b hb).1
  -- a variable's block lies in no row
  have boxS : ∀ k, (st.box k).isSome = true → σ.box k ∉ S := fun k hk hg => by
    obtain ⟨r, k1, k2, _⟩ := hs.touched _ hg
    exact h.hot.noBox r k1 k hk k2
  have hM'box : ∀ k, (st.box k).isSome = true → ∀ ad, ad.block = σ.box k → M' ad = none := fun k hk ad had => hs.hold ad (by rw [had]; exact h.box_lt hk) (by rw [had]; exact boxS k hk) (h.boxM k hk ad had)
  exact {
    mem := hs.mem
    nt := h.nt
    slots := fun i => (h.slots i).carry hca (okS_upd hhot hv i) (fun k _ => ⟨by rw [hs.sbox], fun hk => by rw [hbs]; exact hk⟩)
    boxes := fun k cs hk => by
      have hk' : look k (unkBoxes w' σ bk st.boxes) = some cs := hk
      rw [hs.sbox]
      cases hbk : bk with
      | none =>
        rw [hbk] at hk'
        obtain ⟨arr, E, h1, h2⟩ := h.boxes k cs hk'
        refine ⟨arr, E, ?_, carryC hca h2 (okBox_upd hhot hv hk')⟩
        rw [hs.keep _ (Array.getElem?_eq_some_iff.1 h1).1 (boxS k (by show (look k st.boxes).isSome = true; have : look k st.boxes = some cs := hk'; rw [this]; rfl)) (fun b hb => by rw [hbk] at hb; cases hb)]
        exact h1
      | some b =>
        rw [hbk] at hk'
        simp only [unkBoxes, look_cons] at hk'
        obtain ⟨hb1, arr, E, hb2, hb3⟩ := hs.bx b hbk
        by_cases e : b = k
        · subst e
          rw [if_pos rfl, hb2] at hk'
          cases hk'
          exact ⟨arr, E, hb2, undCs_rep hb3⟩
        · rw [if_neg e] at hk'
          obtain ⟨arr, E, h1, h2⟩ := h.boxes k cs hk'
          have hks : (st.box k).isSome = true := by show (look k st.boxes).isSome = true; rw [hk']; rfl
          refine ⟨arr, E, ?_, carryC hca h2 (okBox_upd hhot hv hk')⟩
          rw [hs.keep _ (Array.getElem?_eq_some_iff.1 h1).1 (boxS k hks) (fun b' hb' => by rw [hbk] at hb'; cases hb'; exact fun e2 => e (h.boxInj b k hb1 hks e2.symm))]
          exact h1
    boxM := fun k hk ad had => by
      have hk' : (st.box k).isSome = true := by rw [← hbs k]; exact hk
      exact hM'box k hk' ad (by rw [had, hs.sbox])
    boxInj := fun k k' h1 h2 he => h.boxInj k k' (by rw [← hbs k]; exact h1) (by rw [← hbs k']; exact h2) (by rw [hs.sbox] at he; exact he)
    boxBase := fun k hk => by rw [hs.sbox]; exact h.boxBase k (by rw [← hbs k]; exact hk)
    rows := fun r e hr => by
      have hr' := hcold r e hr
      obtain ⟨n, xs, i, hi, ho, hm⟩ := (h.rows r e hr').own
      rw [hs.srow]
      have nS : ∀ g, (σ.row r).ownBlock = some g → g ∉ S := fun g hg hgs => by
        obtain ⟨r0, k1, k2, _⟩ := hs.touched _ hgs
        exact h.hot.noRow r0 k1 r (by rw [hr']; rfl) g hg k2
      refine ⟨⟨n, xs, i, hi, ownsRow_at ho fun g hg => hs.keep g (ho.lt g hg).2 (nS g hg) (fun b hb e => h.rowBox r b (by rw [hr']; rfl) (hs.bx b hb).1 (by rw [hg, e])), fun g hg ad had hoff => hs.hold ad (by rw [had]; exact (ho.lt g hg).2) (by rw [had]; exact nS g hg) (hm g hg ad had hoff)⟩⟩
    rowBox := fun r k hr hk => by
      obtain ⟨e, he⟩ := Option.isSome_iff_exists.1 hr
      rw [hs.srow, hs.sbox]
      exact h.rowBox r k (by rw [hcold r e he]; rfl) (by rw [← hbs k]; exact hk)
    rowInj := fun r r' h1 h2 hne => by
      obtain ⟨e, he⟩ := Option.isSome_iff_exists.1 h1
      obtain ⟨e', he'⟩ := Option.isSome_iff_exists.1 h2
      rw [hs.srow]
      exact h.rowInj r r' (by rw [hcold r e he]; rfl) (by rw [hcold r' e' he']; rfl) hne
    hot := by
      have cases' : ∀ r, isHot r (stepRows upd ks st.rows) → r ∉ ks ∧ ((look r upd).isSome = true ∨ (look r upd = none ∧ isHot r st.rows ∧ σ'.foot r = σ.foot r ∧ σ'.mem r = σ.mem r)) := fun r ⟨e, t, l, ver, hole, z, hl⟩ => by
        obtain ⟨h0, h1⟩ := hlook r _ hl
        refine ⟨h0, ?_⟩
        rcases h1 with h1 | ⟨h1, h2⟩
        · exact .inl (by rw [h1]; rfl)
        · exact .inr ⟨h1, ⟨e, t, l, ver, hole, z, h2⟩, hs.sfoot r h1⟩
      have oldS : ∀ r, isHot r st.rows → r ∉ ks → look r upd = none → ∀ g ∈ σ.foot r, g ∉ S := fun r hr hk hu g hg hgs => by
        obtain ⟨r0, m1, m2, m3⟩ := hs.touched g hgs
        refine h.hot.apart r r0 hr m1 (fun e2 => ?_) g hg m2
        subst e2
        rcases m3 with m3 | m3
        · exact hk m3
        · rw [hu] at m3; cases m3
      have from' : ∀ r, isHot r (stepRows upd ks st.rows) → ∀ g ∈ σ'.foot r, g < w'.heap.size ∧ (w.heap.size ≤ g ∨ ∃ r0, isHot r0 st.rows ∧ g ∈ σ.foot r0 ∧ (r0 = r ∨ r0 ∈ ks ∨ (look r0 upd).isSome = true)) := fun r hr g hg => by
        rcases (cases' r hr).2 with h1 | ⟨_, h1, h2, _⟩
        · obtain ⟨k1, _, k2⟩ := hs.foot r h1 g hg
          refine ⟨k1, k2.imp id fun ⟨r0, m1, m2, m3⟩ => ⟨r0, m1, m2, .inr m3⟩⟩
        · rw [h2] at hg
          exact ⟨Nat.lt_of_lt_of_le (h.hot.lt r h1 g hg) hs.size, .inr ⟨r, h1, hg, .inl rfl⟩⟩
      exact {
        ok := fun r e t l ver hole z hl => by
          obtain ⟨h0, h1⟩ := hlook r _ hl
          rcases h1 with h1 | ⟨h1, h2⟩
          · obtain ⟨_, _, e', t', l', ver', hole', z', he, hok⟩ := hs.updOk r _ h1
            cases he; exact hok
          · obtain ⟨k1, k2⟩ := hs.sfoot r h1
            have hh : isHot r st.rows := ⟨e, t, l, ver, hole, z, h2⟩
            exact (h.hot.ok r e t l ver hole z h2).frame (by rw [hs.srow]) k1 k2 fun g hg => hs.keep g (h.hot.lt r hh g hg) (oldS r hh h0 h1 g hg) (fun b hb e => h.hot.noBox r hh b (hs.bx b hb).1 (e ▸ hg))
        base := fun r hr g hg => by
          obtain ⟨_, h1⟩ := from' r hr g hg
          rcases h1 with h1 | ⟨r0, m1, m2, _⟩
          · exact .inl (Nat.le_trans h.fr.size h1)
          · exact h.hot.base r0 m1 g m2
        noM := fun r hr g hg ad had => by
          obtain ⟨hk, h1⟩ := cases' r hr
          rcases h1 with h1 | ⟨hu, h1, h2, _⟩
          · exact (hs.foot r h1 g hg).2.1 ad had
          · rw [h2] at hg
            exact hs.hold ad (by rw [had]; exact h.hot.lt r h1 g hg) (by rw [had]; exact oldS r h1 hk hu g hg) (h.hot.noM r h1 g hg ad had)
        noBox := fun r hr k hk hg => by
          have hk' : (st.box k).isSome = true := by rw [← hbs k]; exact hk
          rw [hs.sbox] at hg
          obtain ⟨_, h1⟩ := from' r hr _ hg
          rcases h1 with h1 | ⟨r0, m1, m2, _⟩
          · have := h.box_lt hk'; omega
          · exact h.hot.noBox r0 m1 k hk' m2
        noRow := fun r hr r' hr' g hg hgr => by
          obtain ⟨e, he⟩ := Option.isSome_iff_exists.1 hr'
          have hr2 := hcold r' e he
          rw [hs.srow] at hg
          obtain ⟨_, h1⟩ := from' r hr g hgr
          rcases h1 with h1 | ⟨r0, m1, m2, _⟩
          · have := (h.row_lt (by rw [hr2]; rfl) hg).2; omega
          · exact h.hot.noRow r0 m1 r' (by rw [hr2]; rfl) g hg m2
        apart := fun r r' h1 h2 hne g hg hg' => by
          obtain ⟨n1, c1⟩ := cases' r h1
          obtain ⟨n2, c2⟩ := cases' r' h2
          rcases c1 with c1 | ⟨u1, c1, f1, _⟩ <;> rcases c2 with c2 | ⟨u2, c2, f2, _⟩
          · exact hs.apart r r' c1 c2 hne g hg hg'
          · rw [f2] at hg'
            rcases (hs.foot r c1 g hg).2.2 with h3 | ⟨r0, m1, m2, m3⟩
            · have := h.hot.lt r' c2 g hg'; omega
            · refine h.hot.apart r0 r' m1 c2 (fun e => ?_) g m2 hg'
              subst e
              rcases m3 with m3 | m3
              · exact n2 m3
              · rw [u2] at m3; cases m3
          · rw [f1] at hg
            rcases (hs.foot r' c2 g hg').2.2 with h3 | ⟨r0, m1, m2, m3⟩
            · have := h.hot.lt r c1 g hg; omega
            · refine h.hot.apart r0 r m1 c1 (fun e => ?_) g m2 hg
              subst e
              rcases m3 with m3 | m3
              · exact n1 m3
              · rw [u1] at m3; cases m3
          · rw [f1] at hg; rw [f2] at hg'
            exact h.hot.apart r r' c1 c2 hne g hg hg'
        lt := fun r hr g hg => (from' r hr g hg).1
        frz := fun r e t l ver z hl => by
          rcases (hlook r _ hl).2 with h1 | ⟨h0, h1⟩
          · obtain ⟨_, _, _, _, _, _, e1⟩ := hhot r _ h1; cases e1
          · rw [hs.srow, (hs.sfoot r h0).2]
            obtain ⟨k1, k2⟩ := h.hot.frz r e t l ver z h1
            exact ⟨k1.mono hs.le, Mem.le_trans k2 hs.le⟩ }
    fr := by
      refine ⟨hs.os.trans h.fr.os, hs.tape.trans h.fr.tape, hs.output.trans h.fr.output, Nat.le_trans h.fr.size hs.size, fun k hk hn => ?_⟩
      rw [hs.keep k (Nat.lt_of_lt_of_le hk h.fr.size) (fun hg => ?_) (fun b hb e => ?_)]
      · exact h.fr.block k hk hn
      · obtain ⟨r, k1, k2, _⟩ := hs.touched k hg
        rcases h.hot.base r k1 k k2 with h2 | h2
        · omega
        · exact hn h2
      · rcases h.boxBase b (hs.bx b hb).1 with h2 | h2
        · omega
        · rw [e] at hn; exact hn h2
    defers := h.defers
    old := fun ad h1 h2 h3 => hs.hold ad (Nat.lt_of_lt_of_le h1 h.fr.size) (fun hg => by
      obtain ⟨r, k1, k2, _⟩ := hs.touched _ hg
      rcases h.hot.base r k1 _ k2 with h4 | h4
      · omega
      · exact h2 h4) (h.old ad h1 h2 h3)
    le := Mem.le_trans h.le hs.le
    pin := fun b hb => by rw [hs.sbox]; exact h.pin b hb
    pins := fun p hp hsm => by rw [hs.srow]; exact h.pins p hp (hsome _ hsm)
    olds := h.olds }

/-- What a variable holds is told anew. -/
theorem Sim.setBox (h : Sim P base M0 ios σ M w a st) {k : Nat} {ds : List CellV} (hk : (st.box k).isSome = true) (hd : ∀ arr E, w.heap[σ.box k]? = some (.cells arr E (0, 0)) → All2 (RdT σ st.rows M) arr.toList ds) : Sim P base M0 ios σ M w a { st with boxes := (k, ds) :: st.boxes } := by
  have hbs : ∀ k', (look k' ((k, ds) :: st.boxes)).isSome = true → (st.box k').isSome = true := fun k' hk' => by
    rw [look_cons] at hk'
    split at hk'
    · rename_i e; subst e; exact hk
    · exact hk'
  exact { h with
    slots := fun i => RepSv.carry (boxes := st.boxes) (Carry.same σ st.rows (Mem.le_refl M)) (h.slots i) (okS_true _) (fun k' _ => ⟨rfl, fun hs => by rw [look_cons]; split <;> first | rfl | exact hs⟩)
    boxes := fun k' cs hk' => by
      have hk2 : look k' ((k, ds) :: st.boxes) = some cs := hk'
      rw [look_cons] at hk2
      split at hk2
      · rename_i e; subst e; cases hk2
        obtain ⟨cs0, hcs0⟩ := Option.isSome_iff_exists.1 hk
        obtain ⟨arr, E, h1, _⟩ := h.boxes k cs0 hcs0
        exact ⟨arr, E, h1, hd arr E h1⟩
      · exact h.boxes k' cs hk2
    boxM := fun k' hk' => h.boxM k' (hbs k' hk')
    boxInj := fun k1 k2 h1 h2 => h.boxInj k1 k2 (hbs k1 h1) (hbs k2 h2)
    boxBase := fun k' hk' => h.boxBase k' (hbs k' hk')
    rowBox := fun r k' hr hk' => h.rowBox r k' hr (hbs k' hk')
    hot := h.hot.still rfl fun k' hk' => hbs k' hk' }

/-- A variable that somebody else made. -/
theorem Sim.adoptBox (h : Sim P base M0 ios σ M w a st) {d g : Nat} (hd0 : d ≠ 0) (hnb : noBox d st = true) {arr : Array Value} {E : TypeId} {cs : List CellV} (hg : w.heap[g]? = some (.cells arr E (0, 0))) (hf : Free base ios σ M w st g)
    (hcs : All2 (RdT σ st.rows M) arr.toList cs) : Sim P base M0 ios { σ with box := fun k => if k = d then g else σ.box k } M w a { st with boxes := (d, cs) :: st.boxes } := by
  have hca : Carry σ st.rows M { σ with box := fun k => if k = d then g else σ.box k } st.rows M (fun _ => True) (fun _ _ => True) := ⟨Mem.le_refl M, fun r _ hr => ⟨hr, rfl⟩, fun r ver rv' _ _ hl hv => ⟨rv', hl, hv, Mem.le_refl _, .inl rfl⟩⟩
  exact { h with
    slots := fun i => by
      refine RepSv.carry (boxes := st.boxes) hca (h.slots i) (okS_true _) ?_
      intro k hk
      have hne := box_slot hnb hk
      refine ⟨by simp [hne], fun hk => ?_⟩
      rw [look_cons, if_neg (Ne.symm hne)]; exact hk
    boxes := fun k cs' hk => by
      simp only [St.box, look_cons] at hk
      by_cases he : d = k
      · subst he
        rw [if_pos rfl] at hk; cases hk
        exact ⟨arr, E, by simp only [if_pos]; exact hg, carryC hca hcs (fun c _ => okC_true c)⟩
      · rw [if_neg he] at hk
        obtain ⟨arr', E', h1, h2⟩ := h.boxes k cs' hk
        exact ⟨arr', E', by simp only [if_neg (Ne.symm he)]; exact h1, carryC hca h2 (fun c _ => okC_true c)⟩
    boxM := fun k hk ad had => by
      simp only [St.box, look_cons] at hk
      by_cases he : d = k
      · subst he; simp only [if_pos] at had; exact hf.noM ad had
      · rw [if_neg he] at hk; simp only [if_neg (Ne.symm he)] at had; exact h.boxM k hk ad had
    boxInj := fun k k' hk hk' he => by
      simp only [St.box, look_cons] at hk hk'
      by_cases e1 : d = k <;> by_cases e2 : d = k'
      · omega
      · subst e1; rw [if_neg e2] at hk'
        simp only [if_pos, if_neg (Ne.symm e2)] at he
        exact absurd he.symm (hf.noBox k' hk')
      · subst e2; rw [if_neg e1] at hk
        simp only [if_pos, if_neg (Ne.symm e1)] at he
        exact absurd he (hf.noBox k hk)
      · rw [if_neg e1] at hk; rw [if_neg e2] at hk'
        simp only [if_neg (Ne.symm e1), if_neg (Ne.symm e2)] at he
        exact h.boxInj k k' hk hk' he
    boxBase := fun k hk => by
      simp only [St.box, look_cons] at hk
      by_cases he : d = k
      · subst he; simp only [if_pos]; exact hf.base
      · rw [if_neg he] at hk; simp only [if_neg (Ne.symm he)]; exact h.boxBase k hk
    rowBox := fun r k hr hk => by
      simp only [St.box, look_cons] at hk
      by_cases he : d = k
      · subst he; simp only [if_pos]; exact hf.noRow r hr
      · rw [if_neg he] at hk; simp only [if_neg (Ne.symm he)]; exact h.rowBox r k hr hk
    hot := by
      refine h.hot.keep (Nat.le_refl _) (Mem.le_refl M) (fun r rv v hl _ => ⟨hl, rfl, rfl, rfl⟩) (fun _ _ _ _ => rfl) h.hot.noM (fun r hr k hk => ?_) h.hot.noRow
      simp only [St.box, look_cons] at hk
      by_cases he : d = k
      · subst he; simp only [if_pos]; exact hf.noHot r hr
      · rw [if_neg he] at hk; simp only [if_neg (Ne.symm he)]; exact h.hot.noBox r hr k hk
    pin := fun b hb => by show (if 0 = d then _ else σ.box 0) = b; rw [if_neg (Ne.symm hd0)]; exact h.pin b hb }

end Go.Proofs.Ytcbehcpmojnnfaa.Bv
