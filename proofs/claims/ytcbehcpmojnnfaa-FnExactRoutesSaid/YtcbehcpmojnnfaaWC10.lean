/- A call by its contract. -/
import Derived.Test.YtcbehcpmojnnfaaWC9
namespace Go.Proofs.Ytcbehcpmojnnfaa.Bv
set_option linter.unusedVariables false
set_option linter.unusedSimpArgs false

variable {P : Program} {base : World} {M0 : Mem} {ios : Ios} {σ : Sg} {M : Mem} {w : World} {a : Act} {st : St} {tab : Tab} {o : Oper} {next : Act → World → Prop} {Q : Exit → Act → World → Prop}
variable {k : Option Nat} {ks iks : List Nat}

def ioD (d : Nat) (con : Con) (k : Option Nat) (FI : Nat → List Nat) (ivs : List Value) (i : El con.I) : List NewR := match k with
  | some _ => mkD (keyNI d) con.ownI FI 0 ivs (flat con.I i)
  | none => []

theorem ioD_rows {d : Nat} {con : Con} {FI : Nat → List Nat} {ivs : List Value} {i : El con.I} (h : ∀ b, k = some b → ivs.length = (flat con.I i).length) : (ioD d con k FI ivs i).map NewR.row = (match k with | some _ => newRows (keyNI d) con.ownI 0 (flat con.I i) | none => []) := by
  cases k with
  | none => rfl
  | some b => exact mkD_rows 0 (h b rfl)


theorem call_after {con : Con} {rows : List (Nat × RowV)} {p : List CellV × List Nat} {x : Args con} {acs : List Value} {N : Mem} {d : Nat} {e : Ending} {w' : World} (hS : Sim P base M0 ios σ M w a st)
    (hr : ∀ r rv, look r rows = some rv → look r st.rows = some rv) (hH : HandS σ st k ks iks (backKeys p.1 con.backA)) (hkill : x.kill = ks ++ iks) (hxk : x.k = k) (hxr : x.rows = rows) (hxc : x.cs = p.1) (hacs : All2 (RdT σ st.rows M) acs p.1) (hMN : M.le N) (hNl : con.leans = true → N = M)
    (hd : o.dst = some d) (hdn : d < st.nt) (hio : con.io = k.isSome) (hnew : (con.newR && con.io) = false) (hret : Ret P con w N (hBlk σ k ks iks (backKeys p.1 con.backA)) (k.map σ.box) acs x.i x.a e w')
    (hgo : ∀ y, con.Post x.i x.a y → ∃ br, backRows x.rows x.cs con.backA (flat con.B y.2.2) = some br ∧ freshEff (callRes con d x y br) (some d) st = true ∧ Goes P base M0 ios a o st (callRes con d x y br) next) :
    ∃ v, e = .returned v ∧ next (a.put o.dst v) w' := by
  obtain ⟨rs, y, cs', M', FR, FI, FB, nb, he, hpost, hle, hm, hf, hhold, hnr, hfresh, hbox, hback, hel1, hel2, hnd, hall⟩ := hret.ex
  obtain ⟨br, hbr, hfe, hgoes⟩ := hgo y hpost
  rw [hxr, hxc] at hbr
  refine ⟨retVal rs, he, ?_⟩
  have hMM' := Mem.le_trans hMN hle
  -- the memory that is left
  obtain ⟨M2, hle2, hle2', hhold2, hlean⟩ : ∃ M2 : Mem, M.le M2 ∧ M2.le M' ∧ (∀ ad, ad.block < w.heap.size → ad.block ∉ hBlk σ k ks iks (backKeys p.1 con.backA) → M ad = none → M2 ad = none) ∧ (con.leans = false ∨ M2 = M') := by
    cases hl : con.leans with
    | true =>
      have := hNl hl
      exact ⟨M', hMM', Mem.le_refl _, fun ad h1 h2 h3 => hhold ad h1 h2 (by rw [this]; exact h3), .inr rfl⟩
    | false => exact ⟨M, Mem.le_refl _, hMM', fun ad h1 h2 h3 => h3, .inl rfl⟩
  -- the variable
  obtain ⟨ivs, hiv⟩ : ∃ ivs : List Value, ∀ b, k = some b → ∃ arr E, w'.heap[σ.box b]? = some (.cells arr E (0, 0)) ∧ arr.toList = ivs ∧ OwnIn w' M' con.ownI ivs (flat con.I y.2.1) FI ∧ ∀ ad, ad.block = σ.box b → M' ad = none := by
    cases k with
    | none => exact ⟨[], fun b hb => by cases hb⟩
    | some b =>
      obtain ⟨arr, E, h1, h2, h3⟩ := hbox (σ.box b) rfl
      exact ⟨arr.toList, fun b' hb' => by cases hb'; exact ⟨arr, E, h1, rfl, h2, h3⟩⟩
  -- parts of what is new
  obtain ⟨bi, hbiS, hnd, hall⟩ : ∃ bi, (∀ b, k = some b → bi = blks con.ownI FI) ∧ (nb ++ (blks con.fresh FR ++ (bi ++ blks con.backA FB))).Nodup ∧ ∀ g ∈ nb ++ (blks con.fresh FR ++ (bi ++ blks con.backA FB)), (w.heap.size ≤ g ∨ (g ∈ hBlk σ k ks iks (backKeys p.1 con.backA) ∧ k.map σ.box ≠ some g)) ∧ g < w'.heap.size ∧ ∀ ad, ad.block = g → M' ad = none := by
    cases k with
    | none => exact ⟨[], fun b hb => (by cases hb), hnd, hall⟩
    | some b => exact ⟨_, fun b hb => rfl, hnd, hall⟩
  obtain ⟨nd1, nd2, nd3⟩ := List.nodup_append.1 hnd
  obtain ⟨nd4, nd5, nd6⟩ := List.nodup_append.1 nd2
  obtain ⟨nd7, nd8, nd9⟩ := List.nodup_append.1 nd5
  obtain ⟨σ2, hst, hσ2⟩ := after_step hS hr hH hacs hle2 hle2' hm hhold2 hf (fun b hb => by
    obtain ⟨arr, E, h1, h2, h3, h4⟩ := hiv b hb
    exact ⟨⟨arr, E, h1, by rw [h2]; exact h3.one⟩, h4⟩) hback hbr nd8 (fun g hg => hall g (by simp [hg]))
  unfold freshEff at hfe
  simp only [Bool.and_eq_true] at hfe
  obtain ⟨⟨⟨hfb, hft⟩, hfv⟩, hfn⟩ := hfe
  have hS2 := hS.stepC hst hfv
  have hbrs : ∀ r, (look r br).isSome = true → (look r st.rows).isSome = true := fun r hrs => by
    obtain ⟨rv, hrv⟩ := Option.isSome_iff_exists.1 hrs
    obtain ⟨_, ⟨_, _, _, _, _, _, h⟩, _⟩ := hst.updOk r rv hrv
    rw [h]; rfl
  -- blocks that are free
  have hfree : ∀ g ∈ nb ++ (blks con.fresh FR ++ (bi ++ blks con.backA FB)), g ∉ blks con.backA FB → Free base ios σ2 M2 w' { st with rows := stepRows br (ks ++ iks) st.rows, boxes := unkBoxes w' σ k st.boxes } g := fun g hg hnb => by
    obtain ⟨q1, q2, q3⟩ := hall g hg
    have hq : w.heap.size ≤ g ∨ ∃ r ∈ ks ++ (iks ++ backKeys p.1 con.backA), g ∈ σ.foot r := by
      rcases q1 with q1 | ⟨q1, q4⟩
      · exact .inl q1
      · rcases hH.mem.1 q1 with ⟨b, hb, e1⟩ | h
        · rw [hb, e1] at q4; exact absurd rfl q4
        · exact .inr h
    have hbs : ∀ k', (look k' (unkBoxes w' σ k st.boxes)).isSome = (st.box k').isSome := unk_some hH.box
    exact {
      base := by
        rcases hq with h | ⟨r, h1, h2⟩
        · exact .inl (Nat.le_trans hS.fr.size h)
        · exact hS.hot.base r (hH.hot r h1) g h2
      noM := fun ad had => mem_none hle2' (q3 ad had)
      noBox := fun k' hk' e1 => by
        have hk2 : (st.box k').isSome = true := by rw [← hbs k']; exact hk'
        rw [hst.sbox] at e1
        rcases hq with h | ⟨r, h1, h2⟩
        · have := hS.box_lt hk2; omega
        · exact hS.hot.noBox r (hH.hot r h1) k' hk2 (e1 ▸ h2)
      noRow := fun r' hr' e1 => by
        obtain ⟨e', he'⟩ := Option.isSome_iff_exists.1 hr'
        obtain ⟨rv, h3, h4⟩ := coldOf_of he'
        have hr2 : (st.row r').isSome = true := by
          rcases (step_nil_mem h3).2 with h5 | ⟨_, h5⟩
          · obtain ⟨_, _, e2, t2, l2, v2, ho2, z2, e3, _⟩ := hst.updOk r' rv h5
            rw [e3] at h4; cases h4
          · rw [show st.row r' = some e' from coldOf_mk h5 h4]; rfl
        rw [hst.srow] at e1
        rcases hq with h | ⟨r, h1, h2⟩
        · have := (hS.row_lt hr2 e1).2; omega
        · exact hS.hot.noRow r (hH.hot r h1) r' hr2 g e1 h2
      noHot := fun r hrh hgr => by
        obtain ⟨e2, t2, l2, v2, ho2, z2, hl⟩ := hrh
        obtain ⟨hn, h3⟩ := step_nil_mem hl
        rcases h3 with h3 | ⟨h3, h4⟩
        · obtain ⟨j, e3, m1, m2⟩ := hσ2 r (by rw [h3]; rfl)
          rw [m2] at hgr
          exact hnb (mem_blks.2 ⟨(j, e3), m1, hgr⟩)
        · rw [(hst.sfoot r h3).1] at hgr
          have hrh : isHot r st.rows := ⟨_, _, _, _, _, _, h4⟩
          rcases hq with h | ⟨r0, h1, h2⟩
          · have := hS.hot.lt r hrh g hgr; omega
          · refine hS.hot.apart r0 r (hH.hot r0 h1) hrh (fun e1 => ?_) g h2 hgr
            subst e1
            rw [← List.append_assoc] at h1
            rcases List.mem_append.1 h1 with h5 | h5
            · exact hn h5
            · obtain ⟨_, _, s3⟩ := backRows_spec (FB := FB) hbr
              have := s3 r0 h5
              rw [h3] at this; cases this
      lt := q2 }
  -- rows that are new
  have hD1 := fun x hx => mkD_ok (key := keyRow d) (x := x) hfresh hel1 nd4 hx
  have hD2 : ∀ x ∈ ioD d con k FI ivs y.2.1, OwnL w' x.t x.v x.l x.fo ∧ (∃ i, P.info? x.e = some i ∧ i.size = size x.t) ∧ 0 < size x.t ∧ x.fo.Nodup ∧ (∃ j, x.key = keyNI d j ∧ (look j con.ownI).isSome = true ∧ x.fo = FI j) ∧ ∃ b, k = some b := fun x hx => by
    cases hk : k with
    | none => rw [hk] at hx; cases hx
    | some b =>
      rw [hk] at hx
      obtain ⟨_, _, _, _, h3, _⟩ := hiv b hk
      obtain ⟨k1, k2, k3, k4, k5⟩ := mkD_ok (key := keyNI d) h3 hel2 (by rw [← hbiS b hk]; exact nd7) hx
      exact ⟨k1, k2, k3, k4, k5, b, rfl⟩
  have hiv' : ∀ b, k = some b → ivs.length = (flat con.I y.2.1).length := fun b hb => by obtain ⟨_, _, _, _, h3, _⟩ := hiv b hb; exact h3.len
  have hrows : (mkD (keyRow d) con.fresh FR 0 cs' (flat con.R y.1) ++ ioD d con k FI ivs y.2.1).map NewR.row = (callRes con d x y br).nrow := by
    rw [List.map_append, mkD_rows 0 hfresh.len, ioD_rows hiv']
    show _ = newRows (keyRow d) con.fresh 0 (flat con.R y.1) ++ (match x.k with | some _ => newRows (keyNI d) con.ownI 0 (flat con.I y.2.1) | none => [])
    rw [hxk]; cases k <;> rfl
  have hkeys : (mkD (keyRow d) con.fresh FR 0 cs' (flat con.R y.1) ++ ioD d con k FI ivs y.2.1).map (·.key) = (callRes con d x y br).nrow.map (·.1) := by
    rw [← hrows, List.map_map]; rfl
  have hin : ∀ x ∈ mkD (keyRow d) con.fresh FR 0 cs' (flat con.R y.1) ++ ioD d con k FI ivs y.2.1, ∀ g ∈ x.fo, g ∈ blks con.fresh FR ∨ ((∃ b, k = some b) ∧ g ∈ bi) := fun x hx g hg => by
    rcases List.mem_append.1 hx with h | h
    · obtain ⟨_, _, _, _, j, _, h1, h2⟩ := hD1 x h
      exact .inl (in_blks h1 (h2 ▸ hg))
    · obtain ⟨_, _, _, _, ⟨j, _, h1, h2⟩, b, hb⟩ := hD2 x h
      exact .inr ⟨⟨b, hb⟩, by rw [hbiS b hb]; exact in_blks h1 (h2 ▸ hg)⟩
  obtain ⟨σ3, hS3, r1, r2, r3⟩ := Sim.addHots (mkD (keyRow d) con.fresh FR 0 cs' (flat con.R y.1) ++ ioD d con k FI ivs y.2.1) hS2 (fun q hq0 => by
    have htag : noTag q.key st = true := by
      have : NewR.row q ∈ (callRes con d x y br).nrow := by rw [← hrows]; exact List.mem_map.2 ⟨q, hq0, rfl⟩
      exact noTags_mem hft this
    have hodd : q.key % 2 = 1 := by
      rcases List.mem_append.1 hq0 with h | h
      · obtain ⟨_, _, _, _, j, h1, _⟩ := hD1 q h; rw [h1]; exact keyRow_odd d j
      · obtain ⟨_, _, _, _, ⟨j, h1, _⟩, _⟩ := hD2 q h; rw [h1]; exact keyNI_odd d j
    have hmore : OwnL w' q.t q.v q.l q.fo ∧ (∃ i, P.info? q.e = some i ∧ i.size = size q.t) ∧ 0 < size q.t ∧ q.fo.Nodup := by
      rcases List.mem_append.1 hq0 with h | h
      · obtain ⟨k1, k2, k3, k4, _⟩ := hD1 q h; exact ⟨k1, k2, k3, k4⟩
      · obtain ⟨k1, k2, k3, k4, _⟩ := hD2 q h; exact ⟨k1, k2, k3, k4⟩
    refine ⟨noTag_after htag hbrs, hodd, hmore.1, hmore.2.1, hmore.2.2.1, hmore.2.2.2, fun g hg => ?_⟩
    rcases hin q hq0 g hg with h | ⟨_, h⟩
    · exact hfree g (by simp [h]) (fun h2 => nd6 g h g (by simp [h2]) rfl)
    · exact hfree g (by simp [h]) (fun h2 => nd9 g h g h2 rfl)) (by rw [hkeys]; exact nodup_of hfn) (fun x hx z hz hne g hg hg' => by
      rcases List.mem_append.1 hx with h | h <;> rcases List.mem_append.1 hz with h' | h'
      · obtain ⟨_, _, _, _, j, q1, q2, q3⟩ := hD1 x h
        obtain ⟨_, _, _, _, j', q1', q2', q3'⟩ := hD1 z h'
        exact blks_apart nd4 q2 q2' (fun e1 => hne (by rw [q1, q1', e1])) g (q3 ▸ hg) (q3' ▸ hg')
      · obtain ⟨_, _, _, _, j, q1, q2, q3⟩ := hD1 x h
        obtain ⟨_, _, _, _, ⟨j', q1', q2', q3'⟩, b, hb⟩ := hD2 z h'
        exact nd6 g (in_blks q2 (q3 ▸ hg)) g (List.mem_append.2 (.inl (by rw [hbiS b hb]; exact in_blks q2' (q3' ▸ hg')))) rfl
      · obtain ⟨_, _, _, _, ⟨j, q1, q2, q3⟩, b, hb⟩ := hD2 x h
        obtain ⟨_, _, _, _, j', q1', q2', q3'⟩ := hD1 z h'
        exact nd6 g (in_blks q2' (q3' ▸ hg')) g (List.mem_append.2 (.inl (by rw [hbiS b hb]; exact in_blks q2 (q3 ▸ hg)))) rfl
      · obtain ⟨_, _, _, _, ⟨j, q1, q2, q3⟩, b, hb⟩ := hD2 x h
        obtain ⟨_, _, _, _, ⟨j', q1', q2', q3'⟩, _⟩ := hD2 z h'
        exact blks_apart (by rw [← hbiS b hb]; exact nd7) q2 q2' (fun e1 => hne (by rw [q1, q1', e1])) g (q3 ▸ hg) (q3' ▸ hg'))
  rw [hrows] at hS3
  -- what is read
  have hlR : leansC con.fresh 0 (flat con.R y.1) = false ∨ M2 = M' := hlean.imp (fun h => by
    unfold Con.leans at h
    rw [Bool.or_eq_false_iff] at h
    rw [leansC_shape 0 (flat_shape con.R y.1 (dfl con.R))]; exact h.1) id
  have hlI : leansC con.ownI 0 (flat con.I y.2.1) = false ∨ M2 = M' := hlean.imp (fun h => by
    unfold Con.leans at h
    rw [Bool.or_eq_false_iff] at h
    rw [leansC_shape 0 (flat_shape con.I y.2.1 (dfl con.I))]; exact h.2) id
  have hrR : ∀ rows', All2 (RdT σ3 rows' M2) cs' (retag (keyRow d) con.fresh 0 (flat con.R y.1)) := fun rows' => retagOk hfresh hlR fun z hz => (r1 z (List.mem_append.2 (.inl hz))).1
  unfold Goes at hgoes
  -- the result
  cases hnewR : con.newR with
  | false =>
    rw [hnewR] at hnr
    obtain ⟨hnb, hres⟩ := hnr
    have hsv : RepSv σ3 ((callRes con d x y br).nrow ++ stepRows br (ks ++ iks) st.rows) (unkBoxes w' σ k st.boxes) M2 (retVal rs) (callRes con d x y br).sv := by
      simp only [callRes, hnewR]
      exact resSvL_rep (splitR_rep hres (hrR _))
    have hS4 := hS3.put (d := d) hdn hsv
    cases hk : k with
    | none =>
      subst hk
      refine hgoes _ σ3 M2 w' ?_
      rw [hd] at *
      refine Sim.ext ?_ hS4
      refine ⟨rfl, fun i => rfl, fun k' => ?_, fun r => ?_, fun i => Iff.rfl⟩
      · simp only [St.box, St.put, Eff.apply, callRes, hnewR, hxk, unkBoxes]
      · simp only [St.rowv, St.put, Eff.apply, rowsOf_eq]
        rw [show (callRes con d x y br).urow = br from rfl, show (callRes con d x y br).krow = x.kill from rfl, hkill]
    | some b =>
      subst hk
      obtain ⟨arr, E, i1, i2, i3, i4⟩ := hiv b rfl
      have hsb : σ3.box b = σ.box b := by rw [r3, hst.sbox]
      have hS5 := hS4.setBox (k := b) (ds := retag (keyNI d) con.ownI 0 (flat con.I y.2.1)) (by simp [St.box, St.put, unkBoxes, look_cons]) (fun arr' E' ha => by
        rw [hsb, i1] at ha; cases ha
        rw [i2]
        exact retagOk i3 hlI fun z hz => (r1 z (List.mem_append.2 (.inr hz))).1)
      refine hgoes _ σ3 M2 w' ?_
      rw [hd] at *
      refine Sim.ext ?_ hS5
      refine ⟨rfl, fun i => rfl, fun k' => ?_, fun r => ?_, fun i => Iff.rfl⟩
      · simp only [St.box, St.put, Eff.apply, callRes, hnewR, hxk, unkBoxes, look_cons]
        split
        · rfl
        · rfl
      · simp only [St.rowv, St.put, Eff.apply, rowsOf_eq]
        rw [show (callRes con d x y br).urow = br from rfl, show (callRes con d x y br).krow = x.kill from rfl, hkill]
  | true =>
    rw [hnewR] at hnr hnew
    have hk : k = none := by
      cases k with
      | none => rfl
      | some b => rw [hio] at hnew; cases hnew
    subst hk
    obtain ⟨g, arr, E, hnb, hrs, hg, harr, hgs⟩ := hnr
    subst hnb
    have hgn : g ∉ blks con.fresh FR ++ (bi ++ blks con.backA FB) := fun h => nd3 g (by simp) g h rfl
    have hf2 := hfree g (by simp) (fun h => hgn (by simp [h]))
    have hf3 : Free base ios σ3 M2 w' { st with rows := (callRes con d x y br).nrow ++ stepRows br (ks ++ iks) st.rows, boxes := unkBoxes w' σ none st.boxes } g := {
      base := hf2.base
      noM := hf2.noM
      noBox := fun k' hk' => by rw [r3]; exact hf2.noBox k' hk'
      noRow := fun r hrs' e1 => by
        have hS3r := hS3.row_lt hrs' e1
        obtain ⟨e', he'⟩ := Option.isSome_iff_exists.1 hrs'
        obtain ⟨rv, h3, h4⟩ := coldOf_of he'
        have h3' : look r ((callRes con d x y br).nrow ++ stepRows br (ks ++ iks) st.rows) = some rv := h3
        rw [look_app] at h3'
        cases hl : look r (callRes con d x y br).nrow with
        | some rv' =>
          rw [hl] at h3'; cases h3'
          have := look_mem hl
          rw [← hrows] at this
          obtain ⟨z, _, e3⟩ := List.mem_map.1 this
          simp only [NewR.row, Prod.mk.injEq] at e3
          rw [← e3.2] at h4; cases h4
        | none =>
          rw [hl] at h3'
          have hrn : r ∉ (mkD (keyRow d) con.fresh FR 0 cs' (flat con.R y.1) ++ ioD d con none FI ivs y.2.1).map (·.key) := fun hm => by
            rw [hkeys] at hm
            obtain ⟨q, hq, e3⟩ := List.mem_map.1 hm
            have : (look r (callRes con d x y br).nrow).isSome = true := look_in.2 ⟨q.2, by rw [← e3]; exact hq⟩
            rw [hl] at this; cases this
          rw [(r2 r hrn).1] at e1
          exact hf2.noRow r (by show (coldOf r (stepRows br (ks ++ iks) st.rows)).isSome = true; rw [show coldOf r (stepRows br (ks ++ iks) st.rows) = some e' from coldOf_mk h3' h4]; rfl) e1
      noHot := fun r hrh hgr => by
        by_cases hm : r ∈ (mkD (keyRow d) con.fresh FR 0 cs' (flat con.R y.1) ++ ioD d con none FI ivs y.2.1).map (·.key)
        · obtain ⟨z, hz, e3⟩ := List.mem_map.1 hm
          rw [← e3, (r1 z hz).2] at hgr
          rcases hin z hz g hgr with h | ⟨⟨b, hb⟩, _⟩
          · exact hgn (by simp [h])
          · cases hb
        · rw [(r2 r hm).2] at hgr
          obtain ⟨e2, t2, l2, v2, ho2, z2, hl⟩ := hrh
          have hl' : look r ((callRes con d x y br).nrow ++ stepRows br (ks ++ iks) st.rows) = some (.hot e2 t2 l2 v2 ho2 z2) := hl
          rw [look_app] at hl'
          cases hq : look r (callRes con d x y br).nrow with
          | some rv' =>
            refine hm ?_
            rw [hkeys]
            exact List.mem_map.2 ⟨_, look_mem hq, rfl⟩
          | none =>
            rw [hq] at hl'
            exact hf2.noHot r ⟨_, _, _, _, _, _, hl'⟩ hgr
      lt := hf2.lt }
    have hfb' : noBox (d + 1) st = true := by
      simp only [callRes, hnewR] at hfb; exact hfb
    have hS4 := hS3.adoptBox (d := d + 1) (by omega) hfb' hg hf3 (by rw [harr]; exact hrR _)
    have hS5 := hS4.put (d := d) (v := retVal rs) (sv := .box (d + 1) 0) hdn ⟨by rw [hrs]; simp [retVal, Addr.add], by rw [look_cons, if_pos rfl]; rfl⟩
    refine hgoes _ { σ3 with box := fun k => if k = d + 1 then g else σ3.box k } M2 w' ?_
    rw [hd] at *
    refine Sim.ext ?_ hS5
    refine ⟨rfl, fun i => ?_, fun k' => ?_, fun r => ?_, fun i => Iff.rfl⟩
    · simp only [St.get, St.put, Eff.apply, callRes, hnewR]
    · simp only [St.box, St.put, Eff.apply, callRes, hnewR, hxk, unkBoxes]
    · simp only [St.rowv, St.put, Eff.apply, rowsOf_eq]
      rw [show (callRes con d x y br).urow = br from rfl, show (callRes con d x y br).krow = x.kill from rfl, hkill]

end Go.Proofs.Ytcbehcpmojnnfaa.Bv
