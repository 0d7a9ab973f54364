/- A call by its contract: all together. -/
import Derived.Test.YtcbehcpmojnnfaaWC10
namespace Go.Proofs.Ytcbehcpmojnnfaa.Bv
set_option linter.unusedVariables false
set_option linter.unusedSimpArgs false

variable {P : Program} {base : World} {M0 : Mem} {ios : Ios} {σ : Sg} {M : Mem} {w : World} {a : Act} {st : St} {tab : Tab} {Γ : Gam} {o : Oper} {next : Act → World → Prop} {Q : Exit → Act → World → Prop}

/-- A function that has a body, and is none of the runtime's own. -/
def FnOk (P : Program) (n : FuncId) : Prop := ∃ fn, P.funcs[n]? = some fn ∧ (fn.name == "runtime.NumGoroutine") = false ∧ fn.body.isNone = false

def GamOk (P : Program) (Γ : Gam) : Prop := ∀ n con, Γ.con n = some con → FnOk P n ∧ ConOk P n con

theorem exec_call {n : FuncId} (hf : FnOk P n) {f : Operand} {xs : Array Operand} {ts : Array TypeId} {va vb : Array Value} (ho : o.op = .call { callee := .value f, args := xs, argTypes := ts }) (hv : a.eval f = .func (.func n) va vb) :
    (execOp a.eval o).run P w = .ok (.enter n ((va ++ xs.map a.eval) ++ vb)) w := by
  obtain ⟨fn, h1, h2, h3⟩ := hf
  have h2' : fn.name ≠ "runtime.NumGoroutine" := by simpa using h2
  have h3' : fn.body ≠ none := by intro e; rw [e] at h3; simp at h3
  simp [execOp, ho, resolve, hv, Deferred.ofValue, invoke, callFunc, h1, h2', h3', program, Sem.run]

theorem ins_rep (hS : Sim P base M0 ios σ M w a st) : ∀ (l : List Operand), All2 (fun v i => RepIn σ st M v i) (l.map a.eval) (l.map (inOf st))
  | [] => .nil
  | y :: l => .cons (inOf_rep hS y) (ins_rep hS l)

theorem inOf_caps (hS : Sim P base M0 ios σ M w a st) {f : Operand} {n : Nat} {first caps : List Cap} (h : (inOf st f).sv = .fn n first caps) : ∃ va vb, a.eval f = .func (.func n) va vb ∧ All2 (fun v i => RepIn σ st M v i) va.toList (first.map (callInfo.capIn (inOf st f))) ∧ All2 (fun v i => RepIn σ st M v i) vb.toList (caps.map (callInfo.capIn (inOf st f))) := by
  have hr := (inOf_rep hS f).rep
  rw [h] at hr
  obtain ⟨va, vb, hv, h1, h2⟩ := hr
  refine ⟨va, vb, hv, ?_⟩
  have one : ∀ (l : List Cap) (vs : List Value), (∀ c ∈ l, c ∈ first ++ caps) → All2 (RepCap σ st.rows st.boxes M) vs l → All2 (fun v i => RepIn σ st M v i) vs (l.map (callInfo.capIn (inOf st f))) := fun l vs hm hl => by
    induction hl with
    | nil => exact .nil
    | @cons v c vs l hx hr ih =>
      refine .cons ?_ (ih fun c hc => hm c (List.mem_cons_of_mem _ hc))
      have hc := hm c (by simp)
      cases f with
      | tmp t =>
        have h' : resSv _ (st.get t) = .fn n first caps := h
        have hg : st.get t = .fn n first caps := by
          cases hgt : st.get t <;> rw [hgt] at h' <;> simp only [resSv] at h' <;> first | (cases h'; done) | (cases h'; rfl) | skip
          split at h'
          · rw [Bool.cond_eq_ite] at h'
            split at h' <;> cases h'
          · cases h'
        exact RepIn.capIn (sv := st.get t) (by rw [hg]; exact hc) hS hx
      | const v => exfalso; have h' : constSv v = .fn n first caps := h; unfold constSv at h'; split at h' <;> cases h'
      | func g => have h' : Sv.fn g [] [] = .fn n first caps := h; cases h'; cases hc
      | global g => have h' : Sv.und = .fn n first caps := h; cases h'
  exact ⟨one first _ (fun c hc => by simp [hc]) h1, one caps _ (fun c hc => by simp [hc]) h2⟩

theorem All2.append' {α β : Type} {R : α → β → Prop} {as as' : List α} {bs bs' : List β} (h : All2 R as bs) (h' : All2 R as' bs') : All2 R (as ++ as') (bs ++ bs') := by
  induction h with
  | nil => exact h'
  | cons x _ ih => exact .cons x ih

theorem call_sound (hΓ : GamOk P Γ) (hS : Sim P base M0 ios σ M w a st) (hd : ∀ d, o.dst = some d → d < st.nt) {con : Con} {ts : List TypeId} {xs : List In} (hc : callInfo Γ o (o.op.operands.toList.map (inOf st)) = some (con, ts, xs)) {K : Eff → Prop} (h : vcCall tab con o ts xs st K)
    (hn : ∀ e, K e → freshEff e o.dst st = true → Goes P base M0 ios a o st e next) : o.wp P a w next Q := by
  unfold vcCall at h
  split at h
  · rename_i d x hdst hx hnew
    obtain ⟨hpre, hpost⟩ := h
    unfold callInfo at hc
    split at hc
    · rename_i c f xs' hop hins
      obtain ⟨callee, cargs, cts⟩ := c
      cases callee with
      | value fo =>
        have he : o.op.operands.toList = fo :: cargs.toList := by rw [hop]; simp [Op.operands, Call.operands]
        rw [he, List.map_cons] at hins
        simp only [List.cons.injEq] at hins
        obtain ⟨hf, hxs⟩ := hins
        subst hf; subst hxs
        simp only at hc
        split at hc
        · rename_i n first caps hsv
          split at hc
          · rename_i con' hg
            cases hc
            obtain ⟨hfn, hcon⟩ := hΓ n con hg
            obtain ⟨va, vb, hv, h1, h2⟩ := inOf_caps hS hsv
            have hins := h1.append' ((ins_rep hS cargs.toList).append' h2)
            have hrows := look_rows_of hins
            have hgo : ∀ (y : El con.R × (El con.I × El con.B)), con.Post x.i x.a y → ∃ br, backRows x.rows x.cs con.backA (flat con.B y.2.2) = some br ∧ freshEff (callRes con d x y br) (some d) st = true ∧ Goes P base M0 ios a o st (callRes con d x y br) next := fun y hy => by
              have h3 := hpost y hy
              split at h3
              · rename_i br hbr
                split at h3
                · rename_i hfr
                  exact ⟨br, hbr, hfr, hn _ h3 (by rw [hdst]; exact hfr)⟩
                · exact h3.elim
              · exact h3.elim
            unfold Oper.wp
            rw [exec_call hfn hop hv, Oper.upon_enter]
            have hargs : ((va ++ cargs.map a.eval) ++ vb) = (va.toList ++ (cargs.toList.map a.eval ++ vb.toList)).toArray := by apply Array.ext'; simp
            rw [hargs]
            rcases callArgs_spec hx with ⟨hio, p, hp, hf⟩ | ⟨hio, x0, xs1, t0, ts', k, bc, ic, iks, p, hx1, ht1, hsv0, hbx0, hic, hik, hp, hui, hbor, hf⟩
            · obtain ⟨ks, acs, N, e1, hH, hacs, hMN, hNl, hcall⟩ := call_enter (k := none) (iks := []) (bc := []) hS hrows hins hp hf (by rw [hio]; rfl) (fun _ => rfl) (fun b hb => by cases hb) hcon hpre
              refine Calls.mono hcall ?_
              intro e w' hret
              obtain ⟨v, hev, hnx⟩ := call_after hS hrows hH e1 hf.k hf.rows hf.cs hacs hMN hNl hdst (hd d hdst) (by rw [hio]; rfl) hnew hret hgo
              subst hev
              exact hnx
            · rw [hx1] at hins
              rw [ht1] at hx
              generalize hvl : va.toList ++ (cargs.toList.map a.eval ++ vb.toList) = vals at hins ⊢
              cases hins with
              | @cons v0 _ vs _ hy hrest =>
                have hrep0 := hy.rep
                rw [hsv0] at hrep0
                have hb0 : st.box k = some bc := by rw [← hy.box k 0 hsv0]; exact hbx0
                have hv0 : v0 = .pointer (some ⟨σ.box k, 0, none⟩) := by rw [hrep0.1]; simp [Addr.add]
                rw [hx1] at hf hrows hic hik
                obtain ⟨ks, acs, N, e1, hH, hacs, hMN, hNl, hcall⟩ := call_enter (k := some k) (iks := iks) (bc := bc) hS hrows hrest hp hf (by rw [hio]; rfl) (fun h => by cases h) (fun b hb => by cases hb; exact ⟨hb0, ic, hic, hik, hui, hbor⟩) hcon hpre
                rw [hv0]
                refine Calls.mono hcall ?_
                intro e w' hret
                obtain ⟨v, hev, hnx⟩ := call_after hS hrows hH e1 hf.k hf.rows hf.cs hacs hMN hNl hdst (hd d hdst) (by rw [hio]; rfl) hnew hret hgo
                subst hev
                exact hnx
          · cases hc
        · cases hc
      | _ => cases hc
    · cases hc
  · exact h.elim

end Go.Proofs.Ytcbehcpmojnnfaa.Bv
