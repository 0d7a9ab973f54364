/- Rows that grow, rows that are written, variables that are written: how a local state by value is kept. -/
import Derived.Test.YtcbehcpmojnnfaaW4
namespace Go.Proofs.Ytcbehcpmojnnfaa.Bv
set_option linter.unusedVariables false
set_option linter.unusedSimpArgs false

variable {P : Program} {base : World} {M0 : Mem} {ios : Ios} {σ : Sg} {M : Mem} {w : World} {a : Act} {st : St}

theorem add_lit (g o n : Nat) : (⟨g, o, none⟩ : Addr).add n = ⟨g, o + n, none⟩ := by unfold Addr.add; split <;> simp_all

theorem add_block (a : Addr) (n : Nat) : (a.add n).block = a.block := by unfold Addr.add; split <;> rfl

/-! ### Nobody has borrowed -/

def okUpd (upd : List (Nat × RowV)) (r ver : Nat) : Prop := ∀ rv, look r upd = some rv → rv.ver? ≠ some ver

theorem noVerC_mem {r ver : Nat} {cs : List CellV} (h : noVerC r ver cs = true) {t : Ty} {l : List (El t)} {ver' : Nat} {p : Option (Nat × Nat)} (hm : CellV.bor t l r ver' p ∈ cs) : ver' ≠ ver := by
  induction cs with
  | nil => cases hm
  | cons c cs ih =>
    rcases List.mem_cons.1 hm with e | hm2
    · subst e
      simp only [noVerC, Bool.and_eq_true] at h
      intro e; subst e; simp at h
    · refine ih ?_ hm2
      cases c <;> simp only [noVerC, Bool.and_eq_true] at h <;> first | exact h | exact h.2

theorem noVerL_mem {r ver : Nat} {l : List (Bool × List CellV)} (h : noVerL r ver l = true) {p : Bool × List CellV} (hp : p ∈ l) : noVerC r ver p.2 = true := by
  induction l with
  | nil => cases hp
  | cons q l ih =>
    simp only [noVerL, Bool.and_eq_true] at h
    rcases List.mem_cons.1 hp with rfl | hp
    · exact h.1
    · exact ih h.2 hp

theorem noVerCap_mem {r ver : Nat} {l : List Cap} (h : noVerCap r ver l = true) {cs : List CellV} (hp : Cap.ptr cs ∈ l) : noVerC r ver cs = true := by
  induction l with
  | nil => cases hp
  | cons q l ih =>
    rcases List.mem_cons.1 hp with e | hp2
    · subst e; simp only [noVerCap, Bool.and_eq_true] at h; exact h.1
    · cases q <;> simp only [noVerCap, Bool.and_eq_true] at h <;> first | exact ih h.2 hp2 | exact ih h hp2

theorem noVerSlots_mem {r ver : Nat} {l : List (Nat × Sv)} (h : noVerSlots r ver l = true) {p : Nat × Sv} (hp : p ∈ l) : noVerS r ver p.2 = true := by
  induction l with
  | nil => cases hp
  | cons q l ih =>
    simp only [noVerSlots, Bool.and_eq_true] at h
    rcases List.mem_cons.1 hp with rfl | hp
    · exact h.1
    · exact ih h.2 hp

theorem noVerBoxes_mem {r ver : Nat} {l : List (Nat × List CellV)} (h : noVerBoxes r ver l = true) {p : Nat × List CellV} (hp : p ∈ l) : noVerC r ver p.2 = true := by
  induction l with
  | nil => cases hp
  | cons q l ih =>
    simp only [noVerBoxes, Bool.and_eq_true] at h
    rcases List.mem_cons.1 hp with rfl | hp
    · exact h.1
    · exact ih h.2 hp

theorem noVers_mem {upd : List (Nat × RowV)} (h : noVers st upd = true) {r : Nat} {rv : RowV} {ver : Nat} (hm : (r, rv) ∈ upd) (hv : ∃ e t l hole z, rv = .hot e t l ver hole z) : noVerSlots r ver st.slots = true ∧ noVerBoxes r ver st.boxes = true := by
  obtain ⟨e, t, l, hole, z, rfl⟩ := hv
  induction upd with
  | nil => cases hm
  | cons q upd ih =>
    obtain ⟨r0, rv0⟩ := q
    rcases List.mem_cons.1 hm with e1 | hm2
    · cases e1
      simp only [noVers, Bool.and_eq_true] at h
      exact h.1
    · cases rv0 <;> simp only [noVers, Bool.and_eq_true] at h <;> first | exact ih h.2 hm2 | exact ih h hm2

theorem okC_upd {upd : List (Nat × RowV)} {cs : List CellV} (hot : ∀ r rv, look r upd = some rv → ∃ e t l ver hole z, rv = .hot e t l ver hole z) (h : ∀ r rv ver, look r upd = some rv → rv.ver? = some ver → noVerC r ver cs = true) {c : CellV} (hc : c ∈ cs) : okC (fun _ => True) (okUpd upd) c := by
  refine ⟨fun _ _ => trivial, fun t l r ver p e rv hr hv => ?_⟩
  subst e
  exact noVerC_mem (h r rv ver hr hv) hc rfl

theorem okS_upd {upd : List (Nat × RowV)} (hot : ∀ r rv, look r upd = some rv → ∃ e t l ver hole z, rv = .hot e t l ver hole z) (h : noVers st upd = true) (i : Nat) : okS (fun _ => True) (okUpd upd) (st.get i) := by
  rcases get_mem (st := st) (i := i) with h0 | h0
  · rw [h0]; trivial
  · have key : ∀ r rv ver, look r upd = some rv → rv.ver? = some ver → noVerS r ver (st.get i) = true := fun r rv ver hr hv => by
      obtain ⟨e, t, l, ver', hole, z, rfl⟩ := hot r rv hr
      cases hv
      exact noVerSlots_mem (noVers_mem h (look_mem hr) ⟨e, t, l, hole, z, rfl⟩).1 h0
    cases hsv : st.get i <;> rw [hsv] at key
    case val ag cs => exact fun c hc => okC_upd hot (fun r rv ver hr hv => key r rv ver hr hv) hc
    case ptr cs => exact fun c hc => okC_upd hot (fun r rv ver hr hv => key r rv ver hr hv) hc
    case tup l => exact fun p hp c hc => okC_upd hot (fun r rv ver hr hv => noVerL_mem (key r rv ver hr hv) hp) hc
    case fn f x y =>
      have cap : ∀ {l : List Cap}, (∀ r rv ver, look r upd = some rv → rv.ver? = some ver → noVerCap r ver l = true) → ∀ c ∈ l, okCap (fun _ => True) (okUpd upd) c := fun {l} hl c hc => by
        cases c with
        | ptr cs => exact fun d hd => okC_upd hot (fun r rv ver hr hv => noVerCap_mem (hl r rv ver hr hv) hc) hd
        | box k off => trivial
      refine ⟨cap fun r rv ver hr hv => ?_, cap fun r rv ver hr hv => ?_⟩
      · have := key r rv ver hr hv; simp only [noVerS, Bool.and_eq_true] at this; exact this.1
      · have := key r rv ver hr hv; simp only [noVerS, Bool.and_eq_true] at this; exact this.2
    case bptr cs r ver =>
      refine ⟨trivial, fun rv hr hv => ?_, fun c hc => okC_upd hot (fun r' rv ver' hr hv => ?_) hc⟩
      · have := key r rv ver hr hv
        simp [noVerS] at this
      · have := key r' rv ver' hr hv
        simp only [noVerS, Bool.and_eq_true] at this
        exact this.2
    all_goals trivial

theorem okBox_upd {upd : List (Nat × RowV)} (hot : ∀ r rv, look r upd = some rv → ∃ e t l ver hole z, rv = .hot e t l ver hole z) (h : noVers st upd = true) {k : Nat} {cs : List CellV} (hk : st.box k = some cs) : ∀ c ∈ cs, okC (fun _ => True) (okUpd upd) c := fun c hc =>
  okC_upd hot (fun r rv ver hr hv => by
    obtain ⟨e, t, l, ver', hole, z, rfl⟩ := hot r rv hr
    cases hv
    exact noVerBoxes_mem (noVers_mem h (look_mem hr) ⟨e, t, l, hole, z, rfl⟩).2 (look_mem hk)) hc

/-! ### Rows are given up, rows are written -/

theorem stepRows_nil (rows : List (Nat × RowV)) : stepRows [] [] rows = rows := by
  unfold stepRows
  rw [List.nil_append, List.filter_eq_self]
  intro p _; rfl

theorem rowsOf_eq (e : Eff) (rows : List (Nat × RowV)) : e.rowsOf rows = e.nrow ++ stepRows e.urow e.krow rows := by
  unfold Eff.rowsOf
  split
  · rename_i h1 h2 h3; rw [h1, h2, h3, stepRows_nil]; rfl
  · rfl

theorem look_step (upd : List (Nat × RowV)) (ks : List Nat) (rows : List (Nat × RowV)) (r : Nat) : look r (stepRows upd ks rows) = if notMem r ks = true then (match look r upd with | some x => some x | none => look r rows) else none := by
  unfold stepRows; rw [look_filt, look_app]; cases look r upd <;> rfl

structure Step (P : Program) (base : World) (σ σ' : Sg) (w w' : World) (st : St) (upd : List (Nat × RowV)) (ks S : List Nat) : Prop where
  sbox : σ'.box = σ.box
  srow : σ'.row = σ.row
  sfoot : ∀ r, look r upd = none → σ'.foot r = σ.foot r ∧ σ'.mem r = σ.mem r
  size : w.heap.size ≤ w'.heap.size
  os : w'.os = w.os
  tape : w'.tape = w.tape
  output : w'.output = w.output
  keep : ∀ k, k < w.heap.size → k ∉ S → w'.heap[k]? = w.heap[k]?
  touched : ∀ g ∈ S, ∃ r, isHot r st.rows ∧ g ∈ σ.foot r ∧ (r ∈ ks ∨ (look r upd).isSome = true)
  updOk : ∀ r rv, look r upd = some rv → r ∉ ks ∧ isHot r st.rows ∧ ∃ e t l ver hole z, rv = .hot e t l ver hole z ∧ HotOk P base σ' w' r e t l hole z
  foot : ∀ r, (look r upd).isSome = true → ∀ g ∈ σ'.foot r, g < w'.heap.size ∧ (w.heap.size ≤ g ∨ ∃ r0, isHot r0 st.rows ∧ g ∈ σ.foot r0 ∧ (r0 ∈ ks ∨ (look r0 upd).isSome = true))
  apart : ∀ r r', (look r upd).isSome = true → (look r' upd).isSome = true → r ≠ r' → ∀ g ∈ σ'.foot r, g ∉ σ'.foot r'

theorem Sim.step (h : Sim P base M0 ios σ M w a st) {σ' : Sg} {w' : World} {upd : List (Nat × RowV)} {ks S : List Nat} (hs : Step P base σ σ' w w' st upd ks S) (hv : noVers st upd = true) :
    Sim P base M0 ios σ' M w' a { st with rows := stepRows upd ks st.rows } := by
  have hhot : ∀ r rv, look r upd = some rv → ∃ e t l ver hole z, rv = .hot e t l ver hole z := fun r rv hr => by
    obtain ⟨_, _, e, t, l, ver, hole, z, e1, _⟩ := hs.updOk r rv hr; exact ⟨e, t, l, ver, hole, z, e1⟩
  have hlook : ∀ r rv, look r (stepRows upd ks st.rows) = some rv → r ∉ ks ∧ (look r upd = some rv ∨ (look r upd = none ∧ look r st.rows = some rv)) := fun r rv hr => by
    rw [look_step] at hr
    split at hr
    · rename_i hk
      refine ⟨notMem_iff.1 hk, ?_⟩
      cases hu : look r upd with
      | none => rw [hu] at hr; exact .inr ⟨rfl, hr⟩
      | some x => rw [hu] at hr; exact .inl hr
    · cases hr
  have hsome : ∀ r, (look r (stepRows upd ks st.rows)).isSome = true → (look r st.rows).isSome = true := fun r hr => by
    obtain ⟨rv, hrv⟩ := Option.isSome_iff_exists.1 hr
    rcases (hlook r rv hrv).2 with h1 | ⟨_, h1⟩
    · obtain ⟨_, ⟨_, _, _, _, _, _, h2⟩, _⟩ := hs.updOk r rv h1; rw [h2]; rfl
    · rw [h1]; rfl
  have hcold : ∀ r e, coldOf r (stepRows upd ks st.rows) = some e → st.row r = some e := fun r e hr => by
    obtain ⟨rv, h1, h2⟩ := coldOf_of hr
    rcases (hlook r rv h1).2 with h3 | ⟨_, h3⟩
    · obtain ⟨_, _, _, _, _, _, rfl⟩ := hhot r rv h3; cases h2
    · exact coldOf_mk h3 h2
  have hca : Carry σ st.rows M σ' (stepRows upd ks st.rows) M (fun _ => True) (okUpd upd) := ⟨Mem.le_refl M, fun r _ hr => ⟨hsome r hr, by rw [hs.srow]⟩, fun r ver rv' _ ho hl hv' => by
    rcases (hlook r rv' hl).2 with h1 | ⟨h0, h1⟩
    · exact absurd hv' (ho rv' h1)
    · exact ⟨rv', h1, hv', by rw [(hs.sfoot r h0).2]; exact Mem.le_refl _, .inl rfl⟩⟩
  have hM : ∀ ad v, M ad = some v → w'.heap[ad.block]? = w.heap[ad.block]? := fun ad v hm => by
    refine hs.keep _ (h.mem_lt hm) fun hg => ?_
    obtain ⟨r, h1, h2, _⟩ := hs.touched _ hg
    have := h.hot.noM r h1 _ h2 ad rfl
    rw [this] at hm; cases hm
  exact {
    mem := fun ad v hm => by rw [heap_cell (hM ad v hm)]; exact h.mem ad v hm
    nt := h.nt
    slots := fun i => (h.slots i).carry hca (okS_upd hhot hv i) (fun k _ => ⟨by rw [hs.sbox], id⟩)
    boxes := fun k cs hk => by
      obtain ⟨arr, E, h1, h2⟩ := h.boxes k cs hk
      refine ⟨arr, E, ?_, carryC hca h2 (okBox_upd hhot hv hk)⟩
      rw [hs.sbox, hs.keep _ (Array.getElem?_eq_some_iff.1 h1).1 fun hg => ?_]
      · exact h1
      · obtain ⟨r, k1, k2, _⟩ := hs.touched _ hg
        exact h.hot.noBox r k1 k (by have hk' : st.box k = some cs := hk; rw [hk']; rfl) k2
    boxM := fun k hk ad had => h.boxM k hk ad (by rw [had, hs.sbox])
    boxInj := fun k k' h1 h2 he => h.boxInj k k' h1 h2 (by rw [hs.sbox] at he; exact he)
    boxBase := fun k hk => by rw [hs.sbox]; exact h.boxBase k hk
    rows := fun r e hr => by
      have hr' := hcold r e hr
      obtain ⟨n, xs, i, hi, ho, hm⟩ := (h.rows r e hr').own
      rw [hs.srow]
      refine ⟨⟨n, xs, i, hi, ownsRow_at ho fun g hg => ?_, hm⟩⟩
      refine hs.keep g (ho.lt g hg).2 fun hgs => ?_
      obtain ⟨r0, k1, k2, _⟩ := hs.touched _ hgs
      exact h.hot.noRow r0 k1 r (by rw [hr']; rfl) g hg k2
    rowBox := fun r k hr hk => by
      obtain ⟨e, he⟩ := Option.isSome_iff_exists.1 hr
      rw [hs.srow, hs.sbox]
      exact h.rowBox r k (by rw [hcold r e he]; rfl) hk
    rowInj := fun r r' h1 h2 hne => by
      obtain ⟨e, he⟩ := Option.isSome_iff_exists.1 h1
      obtain ⟨e', he'⟩ := Option.isSome_iff_exists.1 h2
      rw [hs.srow]
      exact h.rowInj r r' (by rw [hcold r e he]; rfl) (by rw [hcold r' e' he']; rfl) hne
    hot := by
      have cases' : ∀ r, isHot r (stepRows upd ks st.rows) → r ∉ ks ∧ ((look r upd).isSome = true ∨ (look r upd = none ∧ isHot r st.rows ∧ σ'.foot r = σ.foot r ∧ σ'.mem r = σ.mem r)) := fun r ⟨e, t, l, ver, hole, z, hl⟩ => by
        obtain ⟨h0, h1⟩ := hlook r _ hl
        refine ⟨h0, ?_⟩
        rcases h1 with h1 | ⟨h1, h2⟩
        · exact .inl (by rw [h1]; rfl)
        · exact .inr ⟨h1, ⟨e, t, l, ver, hole, z, h2⟩, hs.sfoot r h1⟩
      -- where the blocks of a row come from
      have from' : ∀ r, isHot r (stepRows upd ks st.rows) → ∀ g ∈ σ'.foot r, g < w'.heap.size ∧ (w.heap.size ≤ g ∨ ∃ r0, isHot r0 st.rows ∧ g ∈ σ.foot r0 ∧ (r0 = r ∨ r0 ∈ ks ∨ (look r0 upd).isSome = true)) := fun r hr g hg => by
        rcases (cases' r hr).2 with h1 | ⟨_, h1, h2, _⟩
        · obtain ⟨k1, k2⟩ := hs.foot r h1 g hg
          refine ⟨k1, k2.imp id fun ⟨r0, m1, m2, m3⟩ => ⟨r0, m1, m2, .inr m3⟩⟩
        · rw [h2] at hg
          exact ⟨Nat.lt_of_lt_of_le (h.hot.lt r h1 g hg) hs.size, .inr ⟨r, h1, hg, .inl rfl⟩⟩
      exact {
        ok := fun r e t l ver hole z hl => by
          obtain ⟨h0, h1⟩ := hlook r _ hl
          rcases h1 with h1 | ⟨h1, h2⟩
          · obtain ⟨_, _, e', t', l', ver', hole', z', he, hok⟩ := hs.updOk r _ h1
            cases he; exact hok
          · obtain ⟨k1, k2⟩ := hs.sfoot r h1
            refine (h.hot.ok r e t l ver hole z h2).frame (by rw [hs.srow]) k1 k2 fun g hg => ?_
            refine hs.keep g (h.hot.lt r ⟨e, t, l, ver, hole, z, h2⟩ g hg) fun hgs => ?_
            obtain ⟨r0, m1, m2, m3⟩ := hs.touched g hgs
            refine h.hot.apart r r0 ⟨e, t, l, ver, hole, z, h2⟩ m1 (fun e2 => ?_) g hg m2
            subst e2
            rcases m3 with m3 | m3
            · exact h0 m3
            · rw [h1] at m3; cases m3
        base := fun r hr g hg => by
          obtain ⟨_, h1⟩ := from' r hr g hg
          rcases h1 with h1 | ⟨r0, m1, m2, _⟩
          · exact .inl (Nat.le_trans h.fr.size h1)
          · exact h.hot.base r0 m1 g m2
        noM := fun r hr g hg ad had => by
          obtain ⟨_, h1⟩ := from' r hr g hg
          rcases h1 with h1 | ⟨r0, m1, m2, _⟩
          · cases hm : M ad with
            | none => rfl
            | some v => have := h.mem_lt hm; omega
          · exact h.hot.noM r0 m1 g m2 ad had
        noBox := fun r hr k hk hg => by
          rw [hs.sbox] at hg
          obtain ⟨_, h1⟩ := from' r hr _ hg
          rcases h1 with h1 | ⟨r0, m1, m2, _⟩
          · have := h.box_lt hk; omega
          · exact h.hot.noBox r0 m1 k hk m2
        noRow := fun r hr r' hr' g hg hgr => by
          obtain ⟨e, he⟩ := Option.isSome_iff_exists.1 hr'
          have hr2 := hcold r' e he
          rw [hs.srow] at hg
          obtain ⟨_, h1⟩ := from' r hr g hgr
          rcases h1 with h1 | ⟨r0, m1, m2, _⟩
          · have := (h.row_lt (by rw [hr2]; rfl) hg).2; omega
          · exact h.hot.noRow r0 m1 r' (by rw [hr2]; rfl) g hg m2
        apart := fun r r' h1 h2 hne g hg hg' => by
          obtain ⟨n1, c1⟩ := cases' r h1
          obtain ⟨n2, c2⟩ := cases' r' h2
          rcases c1 with c1 | ⟨u1, c1, f1, _⟩ <;> rcases c2 with c2 | ⟨u2, c2, f2, _⟩
          · exact hs.apart r r' c1 c2 hne g hg hg'
          · rw [f2] at hg'
            rcases (hs.foot r c1 g hg).2 with h3 | ⟨r0, m1, m2, m3⟩
            · have := h.hot.lt r' c2 g hg'; omega
            · refine h.hot.apart r0 r' m1 c2 (fun e => ?_) g m2 hg'
              subst e
              rcases m3 with m3 | m3
              · exact n2 m3
              · rw [u2] at m3; cases m3
          · rw [f1] at hg
            rcases (hs.foot r' c2 g hg').2 with h3 | ⟨r0, m1, m2, m3⟩
            · have := h.hot.lt r c1 g hg; omega
            · refine h.hot.apart r0 r m1 c1 (fun e => ?_) g m2 hg
              subst e
              rcases m3 with m3 | m3
              · exact n1 m3
              · rw [u1] at m3; cases m3
          · rw [f1] at hg; rw [f2] at hg'
            exact h.hot.apart r r' c1 c2 hne g hg hg'
        lt := fun r hr g hg => (from' r hr g hg).1
        frz := fun r e t l ver z hl => by
          rcases (hlook r _ hl).2 with h1 | ⟨h0, h1⟩
          · obtain ⟨_, _, _, _, _, _, e1⟩ := hhot r _ h1; cases e1
          · rw [hs.srow, (hs.sfoot r h0).2]
            exact h.hot.frz r e t l ver z h1 }
    fr := by
      refine ⟨hs.os.trans h.fr.os, hs.tape.trans h.fr.tape, hs.output.trans h.fr.output, Nat.le_trans h.fr.size hs.size, fun k hk hn => ?_⟩
      rw [hs.keep k (Nat.lt_of_lt_of_le hk h.fr.size) fun hg => ?_]
      · exact h.fr.block k hk hn
      · obtain ⟨r, k1, k2, _⟩ := hs.touched k hg
        rcases h.hot.base r k1 k k2 with h2 | h2
        · omega
        · exact hn h2
    defers := h.defers
    old := h.old
    le := h.le
    pin := fun b hb => by rw [hs.sbox]; exact h.pin b hb
    pins := fun p hp hsm => by rw [hs.srow]; exact h.pins p hp (hsome _ hsm)
    olds := h.olds }

/-- Rows are given up. -/
theorem Sim.kill (h : Sim P base M0 ios σ M w a st) (ks : List Nat) : Sim P base M0 ios σ M w a { st with rows := stepRows [] ks st.rows } :=
  h.step (upd := []) (S := []) { sbox := rfl, srow := rfl, sfoot := fun _ _ => ⟨rfl, rfl⟩, size := Nat.le_refl _, os := rfl, tape := rfl, output := rfl, keep := fun _ _ _ => rfl, touched := fun g hg => (by cases hg), updOk := fun r rv hr => (by cases hr), foot := fun r hr => (by cases hr), apart := fun r r' hr => (by cases hr) } rfl

/-- A block that nobody bears. -/
structure Free (base : World) (ios : Ios) (σ : Sg) (M : Mem) (w : World) (st : St) (g : Nat) : Prop where
  base : base.heap.size ≤ g ∨ g ∈ ios.blk
  noM : ∀ ad, ad.block = g → M ad = none
  noBox : ∀ k, (st.box k).isSome = true → σ.box k ≠ g
  noRow : ∀ r, (st.row r).isSome = true → (σ.row r).ownBlock ≠ some g
  noHot : ∀ r, isHot r st.rows → g ∉ σ.foot r
  lt : g < w.heap.size

/-- A new row that may be written. -/
theorem Sim.newHotP (h : Sim P base M0 ios σ M w a st) {r : Nat} {e : TypeId} {t : Ty} {l : List (El t)} {hole : Option (Nat × Nat)} {z : Bool} {v : Value} {fo : List Nat} {m : Mem} (hn : noTag r st = true) (hp : ∀ q ∈ ios.rows, q.1 = r → v = q.2)
    (hf : ∀ g ∈ fo, Free base ios σ M w st g)
    (hok : HotOk P base { σ with row := fun k => if k = r then v else σ.row k, foot := fun k => if k = r then fo else σ.foot k, mem := fun k => if k = r then m else σ.mem k } w r e t l hole z) :
    Sim P base M0 ios { σ with row := fun k => if k = r then v else σ.row k, foot := fun k => if k = r then fo else σ.foot k, mem := fun k => if k = r then m else σ.mem k } M w a { st with rows := (r, .hot e t l 0 hole z) :: st.rows } := by
  have hc : Carry σ st.rows M { σ with row := fun k => if k = r then v else σ.row k, foot := fun k => if k = r then fo else σ.foot k, mem := fun k => if k = r then m else σ.mem k } ((r, .hot e t l 0 hole z) :: st.rows) M (fun r' => r' ≠ r) (fun _ _ => True) :=
    ⟨Mem.le_refl M, fun r' hne hs => by
      rw [look_cons, if_neg (Ne.symm hne)] at hs
      exact ⟨hs, by simp [hne]⟩, fun r' ver rv' hne _ hl hv => by
      rw [look_cons, if_neg (Ne.symm hne)] at hl
      exact ⟨rv', hl, hv, by simp only [if_neg hne]; exact Mem.le_refl _, .inl rfl⟩⟩
  have hrow : ∀ r', ({ st with rows := (r, .hot e t l 0 hole z) :: st.rows } : St).row r' = if r = r' then none else st.row r' := fun r' => by
    simp only [St.row, coldOf, look_cons]
    by_cases he : r = r'
    · simp [he, RowV.cold?]
    · simp only [if_neg he]
  have hcold : ∀ r', (({ st with rows := (r, .hot e t l 0 hole z) :: st.rows } : St).row r').isSome = true → r' ≠ r ∧ (st.row r').isSome = true := fun r' hr' => by
    rw [hrow] at hr'
    by_cases he : r = r'
    · simp [he] at hr'
    · rw [if_neg he] at hr'; exact ⟨Ne.symm he, hr'⟩
  exact {
    mem := h.mem
    nt := h.nt
    slots := fun i => (h.slots i).carry hc (slot_noTag hn i) (fun k _ => ⟨rfl, id⟩)
    boxes := fun k cs hk => by
      obtain ⟨arr, E, h1, h2⟩ := h.boxes k cs hk
      exact ⟨arr, E, h1, carryC hc h2 (box_noTag hn hk)⟩
    boxM := h.boxM
    boxInj := h.boxInj
    boxBase := h.boxBase
    rows := fun r' e' hr' => by
      obtain ⟨h1, h2⟩ := hcold r' (by rw [hr']; rfl)
      rw [hrow, if_neg (Ne.symm h1)] at hr'
      simp only [if_neg h1]; exact h.rows r' e' hr'
    rowBox := fun r' k hr' hk => by
      obtain ⟨h1, h2⟩ := hcold r' hr'
      simp only [if_neg h1]; exact h.rowBox r' k h2 hk
    rowInj := fun r1 r2 h1 h2 hne => by
      obtain ⟨k1, k2⟩ := hcold r1 h1
      obtain ⟨m1, m2⟩ := hcold r2 h2
      simp only [if_neg k1, if_neg m1]; exact h.rowInj r1 r2 k2 m2 hne
    hot := by
      exact {
        ok := fun r' e' t' l' ver' hole' z' hl => by
          rw [look_cons] at hl
          split at hl
          · rename_i he; subst he; cases hl; exact hok
          · rename_i he
            refine (h.hot.ok r' _ _ _ _ _ _ hl).frame ?_ ?_ ?_ (fun _ _ => rfl) <;> simp [Ne.symm he]
        base := fun r' hr' g hg => by
          rcases isHot_cons hr' with ⟨rfl, _⟩ | ⟨h1, h2⟩
          · simp only [if_pos] at hg; exact (hf g hg).base
          · simp only [if_neg h1] at hg; exact h.hot.base r' h2 g hg
        noM := fun r' hr' g hg => by
          rcases isHot_cons hr' with ⟨rfl, _⟩ | ⟨h1, h2⟩
          · simp only [if_pos] at hg; exact (hf g hg).noM
          · simp only [if_neg h1] at hg; exact h.hot.noM r' h2 g hg
        noBox := fun r' hr' k hk hg => by
          rcases isHot_cons hr' with ⟨rfl, _⟩ | ⟨h1, h2⟩
          · simp only [if_pos] at hg; exact (hf _ hg).noBox k hk rfl
          · simp only [if_neg h1] at hg; exact h.hot.noBox r' h2 k hk hg
        noRow := fun r' hr' r2 hr2 g hg hgf => by
          obtain ⟨k1, k2⟩ := hcold r2 hr2
          simp only [if_neg k1] at hg
          rcases isHot_cons hr' with ⟨rfl, _⟩ | ⟨h1, h2⟩
          · simp only [if_pos] at hgf; exact (hf g hgf).noRow r2 k2 hg
          · simp only [if_neg h1] at hgf; exact h.hot.noRow r' h2 r2 k2 g hg hgf
        apart := fun r1 r2 h1 h2 hne g hg hg' => by
          rcases isHot_cons h1 with ⟨rfl, _⟩ | ⟨k1, k2⟩ <;> rcases isHot_cons h2 with ⟨rfl, _⟩ | ⟨m1, m2⟩
          · exact hne rfl
          · simp only [if_pos] at hg; simp only [if_neg m1] at hg'; exact (hf g hg).noHot r2 m2 hg'
          · simp only [if_pos] at hg'; simp only [if_neg k1] at hg; exact (hf g hg').noHot r1 k2 hg
          · simp only [if_neg k1] at hg; simp only [if_neg m1] at hg'; exact h.hot.apart r1 r2 k2 m2 hne g hg hg'
        lt := fun r' hr' g hg => by
          rcases isHot_cons hr' with ⟨rfl, _⟩ | ⟨h1, h2⟩
          · simp only [if_pos] at hg; exact (hf g hg).lt
          · simp only [if_neg h1] at hg; exact h.hot.lt r' h2 g hg
        frz := fun r' e' t' l' ver' z' hl => by
          rw [look_cons] at hl
          split at hl
          · cases hl
          · rename_i he
            simp only [if_neg (Ne.symm he)]
            exact h.hot.frz r' _ _ _ _ _ hl }
    fr := h.fr
    defers := h.defers
    old := h.old
    le := h.le
    pin := h.pin
    pins := fun p hp' hs => by
      by_cases this : p.1 = r
      · simp only [if_pos this]; exact hp p hp' this
      · rw [look_cons, if_neg (Ne.symm this)] at hs
        simp only [if_neg this]
        exact h.pins p hp' hs
    olds := h.olds }

theorem Sim.newHot (h : Sim P base M0 ios σ M w a st) {r : Nat} {e : TypeId} {t : Ty} {l : List (El t)} {hole : Option (Nat × Nat)} {z : Bool} {v : Value} {fo : List Nat} {m : Mem} (hn : noTag r st = true) (hp : r % 2 = 1)
    (hf : ∀ g ∈ fo, Free base ios σ M w st g)
    (hok : HotOk P base { σ with row := fun k => if k = r then v else σ.row k, foot := fun k => if k = r then fo else σ.foot k, mem := fun k => if k = r then m else σ.mem k } w r e t l hole z) :
    Sim P base M0 ios { σ with row := fun k => if k = r then v else σ.row k, foot := fun k => if k = r then fo else σ.foot k, mem := fun k => if k = r then m else σ.mem k } M w a { st with rows := (r, .hot e t l 0 hole z) :: st.rows } := h.newHotP hn (fun q hq e => absurd (ios.even q hq) (by rw [e]; omega)) hf hok

end Go.Proofs.Ytcbehcpmojnnfaa.Bv
