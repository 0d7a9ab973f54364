/- All operations together. -/
import Derived.Test.YtcbehcpmojnnfaaWE3
namespace Go.Proofs.Ytcbehcpmojnnfaa.Bv
set_option linter.unusedVariables false
set_option linter.unusedSimpArgs false

variable {P : Program} {base : World} {M0 : Mem} {ios : Ios} {σ : Sg} {M : Mem} {w : World} {a : Act} {st : St} {tab : Tab} {Γ : Gam} {o : Oper} {next : Act → World → Prop} {Q : Exit → Act → World → Prop}

def capOf (x : In) : Option Cap := match x.sv with
  | .box k off => some (.box k off)
  | .ptr cs => some (.ptr cs)
  | _ => none

theorem caps_rep (hS : Sim P base M0 ios σ M w a st) : ∀ {xs : List Operand} {cs : List Cap}, (xs.map (inOf st)).mapM capOf = some cs → All2 (RepCap σ st.rows st.boxes M) (xs.map a.eval) cs
  | [], cs, h => by simp at h; subst h; exact .nil
  | x :: xs, cs, h => by
    simp only [List.map_cons, List.mapM_cons, Option.bind_eq_bind, Option.pure_def, Option.bind_eq_some_iff] at h
    obtain ⟨c, hc, cs', hcs, e⟩ := h
    cases e
    refine .cons ?_ (caps_rep hS hcs)
    have hr := (inOf_rep (M := M) hS x).rep
    unfold capOf at hc
    split at hc
    · rename_i k off hsv; cases hc; rw [hsv] at hr; exact hr
    · rename_i cs0 hsv; cases hc; rw [hsv] at hr; exact hr
    · cases hc

theorem op_slice_zero (hT : TabOk P tab) (hS : Sim P base M0 ios σ M w a st) {t e : TypeId} {te : TI} {τ : Ty} {fs : List (Nat × TypeId)} {b len cap : Nat} {ad : Option Addr} {x hi m : Operand} {k k' : IntKind}
    (ho : o.op = .slice t x none (some hi) (some m)) (hd : ∀ d, o.dst = some d → d < st.nt) (h : look t tab = some ⟨.list τ, false, fs, e, b⟩) (he : look e tab = some te) (hv : a.eval x = .slice ad len cap) (h1 : a.eval hi = .int k 0) (h2 : a.eval m = .int k' 0)
    (hn : Goes P base M0 ios a o st { sv := .val false [.emp τ] } next) : o.wp P a w next Q := by
  have hu := und_list hT h
  have hsz := info_size hT he w
  refine wp_val (v := .slice ad 0 0) (w' := w) ?_ (hn _ σ M w (hS.putO hd (RepVal.mk1 ⟨rfl, ad, rfl⟩ rfl)))
  have hb : (Instr.sliceBounds true len cap none (some (.int k 0)) (some (.int k' 0))).run P w = .ok (0, 0, 0) w := by simp [Instr.sliceBounds, Instr.sliceBound, asIntOf]
  simp [execOp, ho, hv, h1, h2, Instr.sliceAt, run_underlying hu, Instr.slice, hsz, hb]

set_option maxHeartbeats 4000000 in
theorem opEff_sound {ps : List Prop} {e : Eff} (hT : TabOk P tab) (hS : Sim P base M0 ios σ M w a st) (hd : ∀ d, o.dst = some d → d < st.nt)
    (h : opEff tab Γ o (o.op.operands.toList.map (inOf st)) = some (ps, e)) (hps : ∀ p ∈ ps, p) (hf : freshEff e o.dst st = true) (hn : Goes P base M0 ios a o st e next) : o.wp P a w next Q := by
  have hrep := fun x => inOf_rep (M := M) hS x
  unfold freshEff at hf
  simp only [Bool.and_eq_true] at hf
  obtain ⟨⟨⟨hf1, hf2⟩, hf3⟩, hf4⟩ := hf
  unfold opEff at h
  cases hop : o.op with
  | move x =>
    rw [hop] at h
    simp only [Op.operands, List.map_cons, List.map_nil, Option.some.injEq, Prod.mk.injEq] at h
    obtain ⟨rfl, rfl⟩ := h
    exact wp_val (v := a.eval x) (w' := w) (by simp [execOp, hop]) (hn _ σ M w (hS.putO hd (typed_rep o.type (hrep x).rep)))
  | assign x =>
    rw [hop] at h
    simp only [Op.operands, List.map_cons, List.map_nil, Option.some.injEq, Prod.mk.injEq] at h
    obtain ⟨rfl, rfl⟩ := h
    exact wp_val (v := a.eval x) (w' := w) (by simp [execOp, hop]) (hn _ σ M w (hS.putO hd (typed_rep o.type (hrep x).rep)))
  | pick c x y =>
    rw [hop] at h
    simp only [Op.operands, List.map_cons, List.map_nil] at h
    split at h
    · rename_i c' hc
      have hv := (RepVal.one (show RepVal σ st.rows M (a.eval c) (false, [.bool c']) by have := (hrep c).rep; rw [hc] at this; exact this)).bool
      split at h <;> (simp only [Option.some.injEq, Prod.mk.injEq] at h; obtain ⟨rfl, rfl⟩ := h)
      · exact wp_val (v := a.eval x) (w' := w) (by simp [execOp, hop, hv, asBool]) (hn _ σ M w (hS.putO hd (hrep x).rep))
      · exact wp_val (v := a.eval y) (w' := w) (by simp [execOp, hop, hv, asBool]) (hn _ σ M w (hS.putO hd (hrep y).rep))
    · cases h
  | alloc t =>
    rw [hop] at h
    simp only [Op.operands, List.map_nil] at h
    split at h
    · rename_i d ti hdst ht
      simp only [Option.some.injEq, Prod.mk.injEq] at h
      obtain ⟨rfl, rfl⟩ := h
      rw [hdst] at hf1
      exact op_alloc hT hS hop hdst (hd d hdst) ht hf1 hn
    · cases h
  | box t x =>
    rw [hop] at h
    simp only [Op.operands, List.map_cons, List.map_nil] at h
    split at h
    · rename_i d cs hdst hc
      simp only [Option.some.injEq, Prod.mk.injEq] at h
      obtain ⟨rfl, rfl⟩ := h
      rw [hdst] at hf1
      exact op_box hS hop hdst (hd d hdst) (cellsOfSv_rep (hrep x).rep hc) hf1 hn
    · cases h
  | build t parts =>
    rw [hop] at h
    simp only [Op.operands, operands_parts] at h
    split at h
    · rename_i ti ht
      split at h
      · rename_i hg
        split at h
        · rename_i ps' hps'
          split at h
          · rename_i cs hcs
            simp only [Option.some.injEq, Prod.mk.injEq] at h
            obtain ⟨rfl, rfl⟩ := h
            refine op_build hT hS hop hd ht hg (zip_mapM (tab := tab) hS (f := fun i => (ti.fields[i]?).map (·.2)) (ps := ps') ?_) hcs hn
            rw [← hps']
            congr 1
            funext p
            cases ti.fields[p.1]? <;> rfl
          · cases h
        · cases h
      · cases h
    · cases h
  | buildSlice t n parts =>
    rw [hop] at h
    simp only [Op.operands, operands_parts] at h
    split at h
    · rename_i d τ fs e' b hdst ht
      split at h
      · rename_i te he
        split at h
        · rename_i hc
          split at h
          · rename_i ps' hps'
            have hz := zip_mapM (tab := tab) hS (parts := parts.toList) (f := fun _ => some e') (ps := ps') (by rw [← hps']; rfl)
            split at h
            · rename_i cs hcs
              split at h
              · rename_i vs ks hown
                split at h
                · rename_i l hks hl
                  simp only [Option.some.injEq, Prod.mk.injEq] at h
                  obtain ⟨rfl, rfl⟩ := h
                  simp only [noTags, Bool.and_true] at hf2
                  exact op_buildSlice_hot hT hS hop hdst (hd d hdst) ht he hc.1 hc.2.1 hc.2.2 (look_rows_of (ins_rep hS _)) hz hcs hown hks hl hf2 hn
                · cases h
              · split at h
                · rename_i l hl
                  simp only [Option.some.injEq, Prod.mk.injEq] at h
                  obtain ⟨rfl, rfl⟩ := h
                  simp only [noTags, Bool.and_true] at hf2
                  exact op_buildSlice hT hS hop hdst (hd d hdst) ht he hc.1 hc.2.1 hc.2.2 hz hcs hl hf2 hn
                · cases h
            · cases h
          · cases h
        · cases h
      · cases h
    · cases h
  | makeSlice t x y =>
    rw [hop] at h
    simp only [Op.operands, List.map_cons, List.map_nil] at h
    split at h
    · rename_i d τ fs e' b n m hdst ht hx hy
      split at h
      · rename_i te he
        split at h
        · rename_i hc
          simp only [Option.some.injEq, Prod.mk.injEq] at h
          obtain ⟨rfl, rfl⟩ := h
          simp only [noTags, Bool.and_true] at hf2
          obtain ⟨kn, hkn⟩ := intOf_rep hS hx
          obtain ⟨km, hkm⟩ := intOf_rep hS hy
          exact op_makeSlice hT hS hop hdst (hd d hdst) ht he hc.1 hc.2 hkn hkm (hps _ (by simp)) (hps _ (by simp)) (hps _ (by simp)) (hps _ (by simp)) hf2 hn
        · cases h
      · cases h
    · cases h
  | makeFunc fn first caught =>
    rw [hop] at h
    cases fn with
    | func f =>
      have he : (Op.makeFunc (.func f) first caught).operands.toList = first.toList ++ caught.toList := by simp [Op.operands]
      rw [he] at h
      have hv : (execOp a.eval o).run P w = .ok (.value (.func (.func f) (first.map a.eval) (caught.map a.eval))) w := by simp [execOp, hop, Instr.makeFunc]
      cases hl : (first.toList ++ caught.toList).map (inOf st) with
      | nil =>
        rw [hl] at h
        simp only [Option.some.injEq, Prod.mk.injEq] at h
        obtain ⟨rfl, rfl⟩ := h
        have h1 := List.map_eq_nil_iff.1 hl
        obtain ⟨h2, h3⟩ := List.append_eq_nil_iff.1 h1
        refine wp_val (w' := w) hv (hn _ σ M w (hS.putO hd ⟨_, _, rfl, ?_, ?_⟩))
        · rw [Array.toList_map, h2]; exact .nil
        · rw [Array.toList_map, h3]; exact .nil
      | cons y ys =>
        rw [hl] at h
        simp only at h
        rw [← hl] at h
        have e1 : ((first.toList ++ caught.toList).map (inOf st)).take first.size = first.toList.map (inOf st) := by
          have : first.size = (first.toList.map (inOf st)).length := by simp
          rw [List.map_append, this, List.take_left]
        have e2 : ((first.toList ++ caught.toList).map (inOf st)).drop first.size = caught.toList.map (inOf st) := by
          have : first.size = (first.toList.map (inOf st)).length := by simp
          rw [List.map_append, this, List.drop_left]
        rw [e1, e2] at h
        split at h
        · rename_i ca cb ha hb
          simp only [Option.some.injEq, Prod.mk.injEq] at h
          obtain ⟨rfl, rfl⟩ := h
          refine wp_val (w' := w) hv (hn _ σ M w (hS.putO hd ⟨_, _, rfl, ?_, ?_⟩))
          · rw [Array.toList_map]; exact caps_rep hS ha
          · rw [Array.toList_map]; exact caps_rep hS hb
        · cases h
    | _ => simp at h
  | load t x =>
    rw [hop] at h
    simp only [Op.operands, List.map_cons, List.map_nil] at h
    have hx := hrep x
    cases ht : look t tab with
    | none => simp [ht] at h
    | some ti =>
      simp only [ht] at h
      cases hsv : (inOf st x).sv <;> simp only [hsv] at h <;> try (cases h; done)
      · rename_i k off
        have hr := hx.rep
        rw [hsv] at hr
        have hb := hx.box k off hsv
        rw [hb] at h
        cases hk : st.box k with
        | none => simp [hk] at h
        | some cs =>
          simp only [hk] at h
          split at h
          · rename_i hc
            simp only [Option.some.injEq, Prod.mk.injEq] at h
            obtain ⟨rfl, rfl⟩ := h
            exact op_load_box hT hS hop hd ht hr.1 hk hc.1 hc.2 hn
          · cases h
      · rename_i cs
        have hr := hx.rep
        rw [hsv] at hr
        split at h
        · rename_i hc
          simp only [Option.some.injEq, Prod.mk.injEq] at h
          obtain ⟨rfl, rfl⟩ := h
          exact op_load_ptr hT hS hop hd ht hr hc.1 hc.2 hn
        · cases h
      · rename_i τ r i off
        have hr := hx.rep
        rw [hsv] at hr
        split at h
        · rename_i e0 τ' l ver z hl
          split at h
          · rename_i hτ
            subst hτ
            split at h
            · rename_i hc
              simp only [castL_rfl, Option.some.injEq, Prod.mk.injEq] at h
              obtain ⟨rfl, rfl⟩ := h
              exact op_load_hp hT hS hop hd ht (hx.rows r _ hl) hr hc.1 hc.2 hn
            · cases h
          · cases h
        · cases h
      · rename_i cs r ver
        have hr := hx.rep
        rw [hsv] at hr
        split at h
        · rename_i e0 τ' l ver' ho z hl
          split at h
          · rename_i hc
            obtain ⟨c1, c2, c3⟩ := hc
            subst c1
            simp only [Option.some.injEq, Prod.mk.injEq] at h
            obtain ⟨rfl, rfl⟩ := h
            exact op_load_bptr hT hS hop hd ht (hx.rows r _ hl) hr c2 c3 hn
          · cases h
        · cases h
  | store t x y =>
    rw [hop] at h
    simp only [Op.operands, List.map_cons, List.map_nil] at h
    have hx := hrep x
    split at h
    · rename_i ti ds ht hds hdn
      have hy := cellsOfSv_rep (hrep y).rep hds
      split at h
      · rename_i k off cs hsv hbx
        split at h
        · rename_i hc
          simp only [Option.some.injEq, Prod.mk.injEq] at h
          obtain ⟨rfl, rfl⟩ := h
          have hr := hx.rep
          rw [hsv] at hr
          have hb := hx.box k off hsv
          rw [hb] at hbx
          exact op_store hT hS hop hdn ht hr.1 hbx hy hc.1 hc.2 hn
        · cases h
      · rename_i τ r i off hsv
        exact storeHp_sound hT hS hop hdn ht hsv hy h hps hf3 hn
      · cases h
    · cases h
  | nilCheck x =>
    rw [hop] at h
    simp only [Op.operands, List.map_cons, List.map_nil] at h
    have hx := hrep x
    have hr := hx.rep
    split at h
    · rename_i k off hsv
      simp only [Option.some.injEq, Prod.mk.injEq] at h; obtain ⟨rfl, rfl⟩ := h
      rw [hsv] at hr
      exact wp_val (v := a.eval x) (w' := w) (by simp [execOp, hop, hr.1]) (hn _ σ M w (hS.putO hd hr))
    · rename_i cs hsv
      simp only [Option.some.injEq, Prod.mk.injEq] at h; obtain ⟨rfl, rfl⟩ := h
      rw [hsv] at hr
      obtain ⟨ad, he, hc⟩ := hr
      exact wp_val (v := a.eval x) (w' := w) (by simp [execOp, hop, he]) (hn _ σ M w (hS.putO hd ⟨ad, he, hc⟩))
    · rename_i τ r i off hsv
      split at h
      · rename_i e0 τ' l ver ho z hl
        simp only [Option.some.injEq, Prod.mk.injEq] at h; obtain ⟨rfl, rfl⟩ := h
        rw [hsv] at hr
        obtain ⟨ad, h1, he⟩ := hr (by rw [hx.rows r _ hl]; rfl)
        exact wp_val (v := a.eval x) (w' := w) (by simp [execOp, hop, he]) (hn _ σ M w (hS.putO hd hr))
      · cases h
    · rename_i cs r ver hsv
      split at h
      · rename_i e0 τ' l ver' ho z hl
        split at h
        · rename_i hv
          subst hv
          simp only [Option.some.injEq, Prod.mk.injEq] at h; obtain ⟨rfl, rfl⟩ := h
          rw [hsv] at hr
          obtain ⟨ad, he, _⟩ := hr _ (hx.rows r _ hl) rfl
          exact wp_val (v := a.eval x) (w' := w) (by simp [execOp, hop, he]) (hn _ σ M w (hS.putO hd hr))
        · cases h
      · cases h
    · cases h
  | binOp op t x y ty =>
    rw [hop] at h
    simp only [Op.operands, List.map_cons, List.map_nil] at h
    split at h
    · rename_i c1 c2 h1 h2
      split at h
      · rename_i ps' c hg hb
        simp only [Option.some.injEq, Prod.mk.injEq] at h
        obtain ⟨rfl, rfl⟩ := h
        have hr1 := (hrep x).rep
        have hr2 := (hrep y).rep
        rw [h1] at hr1
        rw [h2] at hr2
        obtain ⟨r, hrun, hrr⟩ := binV_sound (boxes := st.boxes) (w := w) (P := P) (t := t) (RepVal.one hr1) (RepVal.one hr2) (fun hm => by
          cases c1 <;> simp at hm
          simp only at hg
          split at hg
          · rename_i hty; exact und_bool hT hty
          · cases hg) hb hps
        refine wp_val (v := r) (w' := w) ?_ (hn _ σ M w (hS.putO hd hrr))
        have hagg : isAgg' (a.eval x) = false := hr1.2
        have hnil : a.eval x ≠ .nilIface := by
          intro e
          have h0 := (RepVal.one hr1).1
          rw [e] at h0
          cases c1 <;> first | (cases h0; done) | (obtain ⟨_, _, e2, _⟩ := h0; cases e2; done) | (simp [binV] at hb; done)
        simp [execOp, hop, run_eqGuard_plain op t x y _ (a.eval y) hagg hnil, hrun]
      · cases h
    · cases h
  | unOp op t x =>
    rw [hop] at h
    simp only [Op.operands, List.map_cons, List.map_nil] at h
    split at h
    · rename_i c1 h1
      have hr1 := (hrep x).rep
      rw [h1] at hr1
      split at h
      · rename_i c hu
        simp only [Option.some.injEq, Prod.mk.injEq] at h
        obtain ⟨rfl, rfl⟩ := h
        cases c1 with
        | int k n =>
          have hv := (RepVal.one hr1).int
          cases op <;> simp only [unV] at hu <;> (try (cases hu; done)) <;> cases hu
          · exact wp_val (w' := w) (by simp [execOp, hop, hv, Op.unary, Op.intArith]) (hn _ σ M w (hS.putO hd (rep_int _ _)))
          · exact wp_val (w' := w) (by simp [execOp, hop, hv, Op.unary, Op.intBits]) (hn _ σ M w (hS.putO hd (rep_int _ _)))
        | bool b =>
          have hv := (RepVal.one hr1).bool
          cases op <;> simp only [unV] at hu <;> (try (cases hu; done)) <;> cases hu
          exact wp_val (w' := w) (by simp [execOp, hop, hv, Op.unary]) (hn _ σ M w (hS.putO hd (rep_bool _)))
        | _ => simp [unV] at hu
      · cases h
    · cases h
  | convert s t x =>
    rw [hop] at h
    simp only [Op.operands, List.map_cons, List.map_nil] at h
    have hr1 := (hrep x).rep
    split at h
    · rename_i k fs e' b k' n ht h1
      rw [h1] at hr1
      split at h
      · rename_i hs
        simp only [Option.some.injEq, Prod.mk.injEq] at h
        obtain ⟨rfl, rfl⟩ := h
        obtain ⟨ts, hts⟩ := Option.isSome_iff_exists.1 hs
        exact op_convert_int hT hS hop hd ht hts hr1 hn
      · cases h
    · rename_i fs e' b ht
      split at h
      · rename_i fs2 e2 b2 hs
        split at h
        · rename_i fs3 e3 b3 τ l he hl
          split at h
          · rename_i hτ
            subst hτ
            simp only [Option.some.injEq, Prod.mk.injEq] at h
            obtain ⟨rfl, rfl⟩ := h
            exact op_convert_any hT hS hop hd ht hs he rfl rfl (listOf_rep hS (hrep x) hl).1 hn
          · cases h
        · cases h
      · cases h
    · cases h
  | fieldAddr t x f =>
    rw [hop] at h
    simp only [Op.operands, List.map_cons, List.map_nil] at h
    have hx := hrep x
    have hr1 := hx.rep
    split at h
    · rename_i ti ht
      split at h
      · rename_i hg
        split at h
        · rename_i off tf hf'
          split at h
          · rename_i τf ag fs e' b htf
            split at h
            · rename_i hs
              split at h
              · rename_i k oo h1
                rw [h1] at hr1
                simp only [Option.some.injEq, Prod.mk.injEq] at h
                obtain ⟨rfl, rfl⟩ := h
                exact op_fieldAddr_box hT hS hop hd ht hg hf' htf hs hr1 hn
              · rename_i cs h1
                rw [h1] at hr1
                split at h
                · simp only [Option.some.injEq, Prod.mk.injEq] at h
                  obtain ⟨rfl, rfl⟩ := h
                  exact op_fieldAddr_ptr hT hS hop hd ht hg hf' htf hs hr1 hn
                · cases h
              · rename_i τ r i oo h1
                rw [h1] at hr1
                split at h
                · rename_i hl
                  simp only [Option.some.injEq, Prod.mk.injEq] at h
                  obtain ⟨rfl, rfl⟩ := h
                  exact op_fieldAddr_hp hT hS hop hd ht hg hf' htf hs (by rw [hx.rows r _ hl]; rfl) hr1 hn
                · cases h
              · rename_i cs r ver h1
                rw [h1] at hr1
                split at h
                · rename_i e0 τ' l ver' ho z hl
                  split at h
                  · rename_i hc
                    obtain ⟨c1, c2⟩ := hc
                    subst c1
                    simp only [Option.some.injEq, Prod.mk.injEq] at h
                    obtain ⟨rfl, rfl⟩ := h
                    exact op_fieldAddr_bptr hT hS hop hd ht hg hf' htf hs (hx.rows r _ hl) rfl hr1 hn
                  · cases h
                · cases h
              · cases h
            · cases h
          · cases h
        · cases h
      · cases h
    · cases h
  | field t x f =>
    rw [hop] at h
    simp only [Op.operands, List.map_cons, List.map_nil] at h
    have hr1 := (hrep x).rep
    split at h
    · rename_i ti ht
      split at h
      · rename_i hg
        split at h
        · rename_i off tf hf'
          split at h
          · rename_i tif htf
            split at h
            · rename_i cs h1
              rw [h1] at hr1
              split at h
              · rename_i hc
                simp only [Option.some.injEq, Prod.mk.injEq] at h
                obtain ⟨rfl, rfl⟩ := h
                exact op_field hT hS hop hd ht hg hf' htf hr1 hc.1 hc.2 hn
              · cases h
            · cases h
          · cases h
        · cases h
      · cases h
    · cases h
  | indexAddr t x y =>
    rw [hop] at h
    simp only [Op.operands, List.map_cons, List.map_nil] at h
    have hx := hrep x
    have hr1 := hx.rep
    split at h
    · rename_i τ0 fs e' b c i ht h1 h2
      rw [h1] at hr1
      obtain ⟨k, hk⟩ := intOf_rep hS h2
      split at h
      · rename_i te he
        cases c with
        | lst τ l tag =>
          simp only at h
          split at h
          · rename_i hs
            simp only [Option.some.injEq, Prod.mk.injEq] at h
            obtain ⟨rfl, rfl⟩ := h
            exact op_indexAddr (k := k) hT hS hop hd ht he hs hr1 (by rw [hk]; exact rep_int _ _) (hps _ (by simp)) (hps _ (by simp)) hn
          · cases h
        | own τ r =>
          simp only at h
          split at h
          · rename_i e0 τ' l ver ho z hl
            obtain ⟨h3, h4⟩ := ownAt hS h1 hl
            split at h
            · rename_i hτ
              subst hτ
              split at h
              · rename_i hs
                simp only [castL_rfl, Option.some.injEq, Prod.mk.injEq] at h
                obtain ⟨rfl, rfl⟩ := h
                exact op_indexAddr_own hT hS hop hd ht he hs h3 h4 hk (hps _ (by simp)) (hps _ (by simp)) hn
              · cases h
            · cases h
          · cases h
        | sub τ r lo hi =>
          simp only at h
          split at h
          · rename_i e0 τ' l ver z hl
            obtain ⟨h3, h4⟩ := subAt hS h1 hl
            split at h
            · rename_i hτ
              subst hτ
              split at h
              · rename_i hs
                simp only [castL_rfl, Option.some.injEq, Prod.mk.injEq] at h
                obtain ⟨rfl, rfl⟩ := h
                exact op_indexAddr_sub hT hS hop hd ht he hs h3 h4 hk (hps _ (by simp)) (hps _ (by simp)) hn
              · cases h
            · cases h
          · cases h
        | bor τ l r ver p =>
          simp only at h
          split at h
          · rename_i e0 τ' l' ver' ho z hl
            split at h
            · rename_i hv
              subst hv
              split at h
              · rename_i hs
                simp only [Option.some.injEq, Prod.mk.injEq] at h
                obtain ⟨rfl, rfl⟩ := h
                exact op_indexAddr_bor hT hS hop hd ht he hs ((RepVal.one hr1).2 _ (hx.rows r _ hl) rfl).1 hk (hps _ (by simp)) (hps _ (by simp)) hn
              · cases h
            · cases h
          · cases h
        | emp τ =>
          simp only [Option.some.injEq, Prod.mk.injEq] at h
          obtain ⟨rfl, rfl⟩ := h
          exact (hps False (by simp)).elim
        | _ => cases h
      · cases h
    · cases h
  | index t x y =>
    rw [hop] at h
    simp only [Op.operands, List.map_cons, List.map_nil] at h
    have hr1 := (hrep x).rep
    have hr2 := (hrep y).rep
    split at h
    · rename_i fs e' b s k i ht h1 h2
      rw [h1] at hr1
      rw [h2] at hr2
      simp only [Option.some.injEq, Prod.mk.injEq] at h
      obtain ⟨rfl, rfl⟩ := h
      exact op_index_str hT hS hop hd ht hr1 hr2 (hps _ (by simp)) (hps _ (by simp)) hn
    · cases h
  | extract x i =>
    rw [hop] at h
    simp only [Op.operands, List.map_cons, List.map_nil] at h
    have hr1 := (hrep x).rep
    split at h
    · rename_i l h1
      rw [h1] at hr1
      split at h
      · rename_i ag cs hl
        simp only [Option.some.injEq, Prod.mk.injEq] at h
        obtain ⟨rfl, rfl⟩ := h
        exact op_extract hS hop hd hr1 hl hn
      · cases h
    · cases h
  | slice t x lo hi mx =>
    rw [hop] at h
    cases mx with
    | some m =>
      cases lo with
      | some lo => simp at h
      | none =>
        cases hi with
        | none => simp at h
        | some hi =>
          have he : (Op.slice t x none (some hi) (some m)).operands.toList = [x, hi, m] := rfl
          rw [he] at h
          simp only [List.map_cons, List.map_nil] at h
          split at h
          · rename_i τ fs e' b τ' l k k' ht hl h1 h2
            split at h
            · rename_i te hte
              simp only [Option.some.injEq, Prod.mk.injEq] at h
              obtain ⟨rfl, rfl⟩ := h
              have hr1 := (hrep hi).rep
              have hr2 := (hrep m).rep
              rw [h1] at hr1
              rw [h2] at hr2
              have hv1 := (RepVal.one hr1).int
              have hv2 := (RepVal.one hr2).int
              obtain ⟨ad, cap, ev, hlc, hcm, _⟩ := (listOf_rep hS (hrep x) hl).1
              have hv : a.eval x = .slice ad (List.length l) cap := List.head_eq_of_cons_eq ev
              exact op_slice_zero hT hS hop hd ht hte hv hv1 hv2 hn
            · cases h
          · cases h
    | none =>
      have he : (Op.slice t x lo hi none).operands.toList = x :: (lo.toList ++ hi.toList) := by
        cases lo <;> cases hi <;> rfl
      rw [he] at h
      simp only [List.map_cons] at h
      exact slice_sound hT hS hop hd h hps hf2 hn
  | call c =>
    rw [hop] at h
    obtain ⟨callee, xs, ts⟩ := c
    cases callee with
    | builtin b =>
      have he : (Op.call { callee := .builtin b, args := xs, argTypes := ts }).operands.toList = xs.toList := by simp [Op.operands, Call.operands]
      rw [he] at h
      exact callOp_sound hT hS hop hd h hps hf2 hf3 hn
    | invoke r m => simp [callOp] at h
    | value f => simp [callOp] at h
  | _ => rw [hop] at h; simp at h

end Go.Proofs.Ytcbehcpmojnnfaa.Bv
