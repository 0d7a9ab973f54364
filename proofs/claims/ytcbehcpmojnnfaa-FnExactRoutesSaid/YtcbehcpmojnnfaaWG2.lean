/- What is handed to a law, by value; what a law's contract says of its row. -/
import Derived.Test.YtcbehcpmojnnfaaWG1
import Derived.Carry
import Derived.WalkKit
import Derived.ProofKit
import Derived.OpenShut
import Derived.SizedLaws
namespace Go.Proofs.Ytcbehcpmojnnfaa.Bv
set_option linter.unusedVariables false
set_option linter.unusedSimpArgs false
open Go.WideShapes Go.RowKit

/-- In range, through and through. -/
def WfD : (t : Ty) → El t → Prop
  | .int k, n => k.min ≤ n ∧ n ≤ k.max
  | .str, s => List.length s ≤ maxLen
  | .list t, l => List.length l ≤ maxLen ∧ ∀ x, x ∈ (show List (El t) from l) → WfD t x
  | .pair a b, x => WfD a x.1 ∧ WfD b x.2
  | _, _ => True

def pairsT : List Ty → Ty
  | [] => .unit
  | [a] => a
  | a :: b :: r => .pair a (pairsT (b :: r))

/-- The fields' types, one behind the other. -/
def fieldsT (tab : Tab) : Nat → List (Nat × TypeId) → Option (List Ty)
  | _, [] => some []
  | off, (o, t) :: r => match look t tab with
    | some ti => match decide (o = off), fieldsT tab (off + size ti.ty) r with
      | true, some l => some (ti.ty :: l)
      | _, _ => none
    | none => none

def consistB (tab : Tab) : List (TypeId × TI) → Bool
  | [] => true
  | (_, ti) :: l => (match ti.agg, ti.ty with
    | true, ty => (match fieldsT tab 0 ti.fields with | some tys => decide (ty = pairsT tys) | none => false)
    | false, .list τ => (match look ti.elem tab with | some te => decide (te.ty = τ) | none => false)
    | _, _ => true) && consistB tab l

variable {P : Program} {tab : Tab} {M : Mem} {w : World} {H : Type} {enc : TypeId × Value → H}

theorem All2.at2 {α β : Type} {R : α → β → Prop} {as : List α} {bs : List β} (h : All2 R as bs) {j : Nat} {a : α} {b : β} (ha : as[j]? = some a) (hb : bs[j]? = some b) : R a b := by
  obtain ⟨a', h1, h2⟩ := h.get hb
  rw [ha] at h1; cases h1; exact h2

theorem consist_agg : ∀ {l : List (TypeId × TI)}, consistB tab l = true → ∀ {t ti}, (t, ti) ∈ l → ti.agg = true → ∃ tys, fieldsT tab 0 ti.fields = some tys ∧ ti.ty = pairsT tys
  | [], _, _, _, hm, _ => by cases hm
  | (t', ti') :: l, h, t, ti, hm, ha => by
    simp only [consistB, Bool.and_eq_true] at h
    rcases List.mem_cons.1 hm with e | hm
    · cases e
      have h1 := h.1
      rw [ha] at h1
      simp only at h1
      split at h1
      · rename_i tys htys; exact ⟨tys, htys, by simpa using h1⟩
      · cases h1
    · exact consist_agg h.2 hm ha

theorem consist_list : ∀ {l : List (TypeId × TI)}, consistB tab l = true → ∀ {t ti τ}, (t, ti) ∈ l → ti.agg = false → ti.ty = .list τ → ∃ te, look ti.elem tab = some te ∧ te.ty = τ
  | [], _, _, _, _, hm, _, _ => by cases hm
  | (t', ti') :: l, h, t, ti, τ, hm, ha, ht => by
    simp only [consistB, Bool.and_eq_true] at h
    rcases List.mem_cons.1 hm with e | hm
    · cases e
      have h1 := h.1
      rw [ha, ht] at h1
      simp only at h1
      split at h1
      · rename_i te hte; exact ⟨te, hte, by simpa using h1⟩
      · cases h1
    · exact consist_list h.2 hm ha ht

theorem exists_list {α : Type} {R : Nat → α → Prop} : ∀ {n : Nat}, (∀ i, i < n → ∃ x, R i x) → ∃ l : List α, l.length = n ∧ ∀ i x, l[i]? = some x → R i x
  | 0, _ => ⟨[], rfl, fun i x h => by simp at h⟩
  | n + 1, h => by
    obtain ⟨l, hl, hr⟩ := exists_list (n := n) fun i hi => h i (by omega)
    obtain ⟨x, hx⟩ := h n (by omega)
    refine ⟨l ++ [x], by simp [hl], fun i y hy => ?_⟩
    rw [List.getElem?_append] at hy
    split at hy
    · exact hr i y hy
    · rename_i hi
      have : i = l.length := by
        have := (List.getElem?_eq_some_iff.1 hy).1
        simp at this; omega
      subst this
      simp at hy
      subst hy
      rw [hl]; exact hx

theorem cellsOf_tab (hT : TabOk P tab) {t : TypeId} {ti : TI} (h : look t tab = some ti) : P.cellsOf t = size ti.ty := by
  obtain ⟨i, _, hi, hs, _⟩ := (hT t ti h).info
  simp [Program.cellsOf, hi, hs]

def RdW (w : World) (τ : Ty) (cs : List Value) : Prop := ∃ x : El τ, RdC (fun ad => w.cell? ad) τ cs x ∧ WfD τ x

theorem fields_rd {rec_ : TypeId → List Value → Option (DataW H × List MemPlace)} (hT : TabOk P tab) (hrec : ∀ t ti cs y, look t tab = some ti → rec_ t cs = some y → RdW w ti.ty cs) {cs : List Value} :
    ∀ {fs : List Field} {off : Nat} {tys : List Ty} {ys : List (DataW H × List MemPlace)}, fieldsT tab off (fs.map fun f => (f.offset, f.type)) = some tys →
    fs.mapM (fun f => rec_ f.type ((cs.drop f.offset).take (P.cellsOf f.type))) = some ys → cs.length = off + size (pairsT tys) → RdW w (pairsT tys) (cs.drop off)
  | [], off, tys, ys, h, _, hl => by
    simp only [List.map_nil, fieldsT, Option.some.injEq] at h
    subst h
    refine ⟨(), ?_, trivial⟩
    show cs.drop off = []
    simp only [pairsT, size] at hl
    exact List.drop_eq_nil_of_le (by omega)
  | f :: fs, off, tys, ys, h, hm, hl => by
    simp only [List.map_cons, fieldsT] at h
    split at h
    · rename_i ti hti
      split at h
      · rename_i l ho hr
        cases h
        have hoff : f.offset = off := by simpa using ho
        rw [List.mapM_cons] at hm
        cases hf : rec_ f.type ((cs.drop f.offset).take (P.cellsOf f.type)) with
        | none => simp [hf] at hm
        | some y =>
          cases hms : fs.mapM (fun f => rec_ f.type ((cs.drop f.offset).take (P.cellsOf f.type))) with
          | none => simp [hf, hms] at hm
          | some ys' =>
            have h1 := hrec _ _ _ _ hti hf
            rw [hoff, cellsOf_tab hT hti] at h1
            cases l with
            | nil =>
              simp only [pairsT] at hl ⊢
              rw [List.take_of_length_le (by rw [List.length_drop]; omega)] at h1
              exact h1
            | cons b r =>
              simp only [pairsT, size] at hl ⊢
              have h2 := fields_rd hT hrec hr hms (by omega)
              obtain ⟨x1, hx1, hw1⟩ := h1
              obtain ⟨x2, hx2, hw2⟩ := h2
              refine ⟨(x1, x2), ⟨_, _, ?_, hx1, hx2⟩, hw1, hw2⟩
              rw [← List.drop_drop, List.take_append_drop]
      · cases h
    · cases h

theorem trod_rd (hT : TabOk P tab) (hc : consistB tab tab = true) : ∀ (fuel : Nat) (t : TypeId) (ti : TI) (cs : List Value) (y : DataW H × List MemPlace), look t tab = some ti →
    DataW.trod enc P w 0 (fun _ => true) true fuel t cs = some y → RdW w ti.ty cs
  | 0, t, ti, cs, y, _, h => by simp [DataW.trod] at h
  | fuel + 1, t, ti, cs, y, hl, h => by
    have hu := (hT t ti hl).und
    have hmem := look_mem hl
    have hsz := cellsOf_tab hT hl
    have hor := h
    unfold DataW.trod at h
    cases ha : ti.agg with
    | true =>
      rw [if_pos ha] at hu
      obtain ⟨fs, hfs, hff, _⟩ := hu
      obtain ⟨tys, htys, hty⟩ := consist_agg hc hmem ha
      rw [hfs] at h
      simp only at h
      split at h
      · rename_i hlen
        rw [Option.map_eq_some_iff] at h
        obtain ⟨ys, hys, _⟩ := h
        rw [← hff] at htys
        rw [hty] at hsz ⊢
        have := fields_rd (w := w) (rec_ := fun t cs => DataW.trod enc P w 0 (fun _ => true) true fuel t cs) hT (fun t ti cs y h1 h2 => trod_rd hT hc fuel t ti cs y h1 h2) (cs := cs) htys hys (by rw [hlen, hsz, Nat.zero_add])
        rw [List.drop_zero] at this
        exact this
      · cases h
    | false =>
      rw [if_neg (by rw [ha]; simp)] at hu
      cases hty : ti.ty with
      | int k =>
        rw [hty] at hu
        simp only at hu
        rw [hu] at h
        split at h <;> simp_all
        rename_i k' n _
        obtain ⟨⟨rfl, hwf⟩, _⟩ := h
        refine ⟨n, rfl, ?_⟩
        simp only [Lit.wf, Bool.and_eq_true, decide_eq_true_eq] at hwf
        exact hwf
      | bool =>
        rw [hty] at hu
        simp only at hu
        rw [hu] at h
        split at h <;> simp_all
        exact ⟨_, rfl, trivial⟩
      | str =>
        rw [hty] at hu
        simp only at hu
        rw [hu] at h
        split at h <;> simp_all
        rename_i s
        refine ⟨s.data.toList, ?_, ?_⟩
        · simp [RdC]
        · obtain ⟨d⟩ := s
          have := h.1
          simpa [WfD, ByteArray.size] using this
      | list τ =>
        rw [hty] at hu
        simp only at hu
        obtain ⟨te, hte, rfl⟩ := consist_list hc hmem ha hty
        have hes := cellsOf_tab hT hte
        rcases DataW.trod_slice hu hor with ⟨rfl, _⟩ | ⟨a, len, cap, elems, rest, n, hn, rfl, _, _, hle, hm, hlen, hel, _⟩
        · exact ⟨[], RdC.nilSlice _ _, by simp [WfD]⟩
        · obtain rfl : n = fuel := by omega
          obtain ⟨l, hll, hR⟩ := exists_list (n := len) (R := fun i x => ∃ vs, w.cells? 0 (a.add (i * size te.ty)) (size te.ty) = some vs ∧ RdC (fun ad => w.cell? ad) te.ty vs x ∧ WfD te.ty x) fun i hi => by
            have h1 := hel i hi
            obtain ⟨y', hy'⟩ : ∃ y', elems[i]? = some y' := ⟨elems[i], by simp [hlen, hi]⟩
            rw [hy', hes] at h1
            obtain ⟨vs, hv1, hv2⟩ := Option.bind_eq_some_iff.1 h1
            obtain ⟨x, hx, hwx⟩ := trod_rd hT hc n _ te vs y' hte hv2
            exact ⟨x, vs, hv1, hx, hwx⟩
          refine ⟨l, ⟨some a, cap, by rw [hll], by omega, hm, fun i hi => ?_⟩, by simp [hll]; omega, fun x hx => ?_⟩
          · obtain ⟨vs, h1, h2, _⟩ := hR i _ (List.getElem?_eq_getElem hi)
            obtain ⟨_, hvl, hvc⟩ := World.cells?_some h1
            refine ⟨a, vs, rfl, hvl, fun j u hu => ?_, h2⟩
            have hj := (List.getElem?_eq_some_iff.1 hu).1
            have := hvc j (by omega)
            rw [hu] at this
            rw [← this]
            show w.cell? (a.add (i * size te.ty + j)) = w.cell? ((a.add (i * size te.ty)).add j)
            rw [Addr.add_add]
          · obtain ⟨i, hi, e⟩ := List.getElem_of_mem hx
            obtain ⟨_, _, _, h3⟩ := hR i x (by rw [← e]; exact List.getElem?_eq_getElem hi)
            exact h3
      | unit => rw [hty] at hu; exact hu.elim
      | pair a b => rw [hty] at hu; exact hu.elim

/-! ### An argument -/

def shOf (ti : TI) : Sh := if ti.agg then .agg (size ti.ty) else .one

theorem arg_rep (hT : TabOk P tab) (hc : consistB tab tab = true) {r : Reach} {b0 : Nat} {t : TypeId} {ti : TI} {v : Value} {d : DataW H} {ps : List MemPlace} (hl : look t tab = some ti)
    (hval : Value.okWide P w r b0 t v) (h : DataW.Trod enc P w 0 (fun _ => true) true t v d ps) :
    ∃ x : El ti.ty, RdC (fun ad => w.cell? ad) ti.ty v.cells.toList x ∧ WfD ti.ty x ∧ ArgRep (fun ad => w.cell? ad) (shOf ti) v v.cells.toList := by
  obtain ⟨fuel, hf⟩ := h
  obtain ⟨x, hx, hw⟩ := trod_rd hT hc fuel t ti _ _ hl hf
  refine ⟨x, hx, hw, ?_⟩
  have hu := (hT t ti hl).und
  unfold shOf
  cases ha : ti.agg with
  | true =>
    rw [if_pos ha] at hu
    obtain ⟨fs, hfs, _⟩ := hu
    obtain ⟨cs, rfl, _⟩ := okWide_struct hfs hval
    rw [if_pos rfl]
    exact ⟨hx.length, cs, rfl, rfl⟩
  | false =>
    rw [if_neg (by rw [ha]; simp)] at hu
    rw [if_neg (by simp)]
    have : isAgg' v = false ∧ v.cells.toList = [v] := by
      cases hty : ti.ty with
      | int k => rw [hty] at hu; obtain ⟨n, rfl⟩ := okWide_int hu hval; exact ⟨rfl, rfl⟩
      | bool => rw [hty] at hu; obtain ⟨n, rfl⟩ := okWide_bool hu hval; exact ⟨rfl, rfl⟩
      | str => rw [hty] at hu; obtain ⟨n, rfl⟩ := okWide_string hu hval; exact ⟨rfl, rfl⟩
      | list τ => rw [hty] at hu; obtain ⟨a, l, c, rfl⟩ := okWide_slice hu hval; exact ⟨rfl, rfl⟩
      | unit => rw [hty] at hu; exact hu.elim
      | pair a b => rw [hty] at hu; exact hu.elim
    exact ⟨this.2, this.1⟩

/-- A law's contract: true, whatever it is handed. -/
def lawCon (A : Ty) (shA : List Sh) : Con := { A := A, shA := shA, R := .bool, shR := [(false, 1)], pre := fun _ x => WfD A x, f := some fun _ _ => (true, ((), ())) }

theorem law_run {A : Ty} {shA : List Sh} {n : FuncId} (h : ConOk P n (lawCon A shA)) {vs cs : List Value} {x : El A} (ha : ArgsRep (fun ad => w.cell? ad) shA vs cs) (hx : RdC (fun ad => w.cell? ad) A cs x) (hw : WfD A x) :
    Calls P n vs.toArray w fun e w' => e = .returned (.bool true) ∧ Below w.heap.size w w' := by
  have hrd := rd_flat _ _ _ hx
  have := h w (fun ad => w.cell? ad) vs cs () x (fun _ => []) (fun _ => []) none (fun _ _ h => h) ha ⟨hrd.length, fun j u c _ hu hc => hrd.at2 hu hc, fun j e hj => by cases hj⟩ rfl (fun g hg => by cases hg) List.nodup_nil (fun g hg => by cases hg) hw
  refine Calls.mono this ?_
  intro e w' hret
  obtain ⟨rs, y, cs', M', FR, FI, FB, nb, he, hpost, _, _, hf, _, hnr, hown, _⟩ := hret.ex
  subst he
  obtain ⟨_, hres⟩ := hnr
  have hy : y.1 = true := by have : y = (true, ((), ())) := hpost; rw [this]
  have hcs : cs' = [.bool true] := by
    have hl := hown.len
    have h0 : (flat Ty.bool y.1) = [CellV.bool true] := by rw [hy]; rfl
    have hl' : cs'.length = 1 := by rw [hl]; rfl
    match cs', hl' with
    | [u], _ =>
      have := hown.rd 0 u (.bool true) rfl rfl (by show (flat Ty.bool y.1)[0]? = _; rw [h0]; rfl)
      rw [show u = Value.bool true from this]
  subst hcs
  refine ⟨?_, hf.os, hf.tape, hf.output, hf.size, fun k hk => hf.block k hk (fun hm => by cases hm)⟩
  have hres' : ResRep [(false, 1)] rs [Value.bool true] := hres
  generalize hs : [(false, 1)] = shs at hres'
  generalize hc : [Value.bool true] = cs0 at hres'
  cases hres' with
  | nil => cases hs
  | @cons ag m v shs' vs' cs2 h1 h2 h3 =>
    cases hs
    cases h3
    have hv : v.cells.toList = [.bool true] := by simpa using hc.symm
    have : v = .bool true := by
      cases v <;> simp [Value.cells, isAgg'] at hv h2 <;> simp [hv]
    rw [this]; rfl

end Go.Proofs.Ytcbehcpmojnnfaa.Bv
