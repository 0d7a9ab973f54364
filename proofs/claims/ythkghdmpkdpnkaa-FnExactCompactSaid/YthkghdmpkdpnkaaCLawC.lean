/- What the laws of cores say of sizes. -/
import Derived.Test.YthkghdmpkdpnkaaCLaw
import Derived.Test.YthkghdmpkdpnkaaCTCore
import Derived.Test.YthkghdmpkdpnkaaCTWal
import Derived.Test.YthkghdmpkdpnkaaCCoreC
namespace Go.Proofs.Ythkghdmpkdpnkaa.B
set_option linter.unusedVariables false
set_option linter.unusedSimpArgs false
open Go Go.Proofs.Ythkghdmpkdpnkaa.Bv

theorem cEntry (x : Int × List UInt8) : 0 ≤ c_mEntry x ∧ c_mEntry x ≤ 64 := by simp [c_mEntry]
theorem cOne (x : Int) : 0 ≤ c_1 x ∧ c_1 x ≤ 64 := by simp [c_1]
def lenC (x : Core) : Prop := x.2.2.2.2.2.2.2.2.1.length ≤ 1048576 ∧ x.2.2.2.2.2.2.2.2.2.2.1.length ≤ 1048576 ∧ x.2.2.2.2.2.2.2.2.2.2.2.1.length ≤ 1048576 ∧ x.2.2.2.2.2.2.2.2.2.2.2.2.length ≤ 1048576
theorem lenC_n {x : Core} (h : n_Core x ≤ 1048576) : lenC x := by
  unfold n_Core nL at h; unfold lenC; omega
theorem lenC_p {x : Core} (h : lenC x) : pCore x := by obtain ⟨h1, h2, h3, h4⟩ := h; unfold pCore; omega
theorem mk_Core {x : Core} (h : lenC x) : pMk_Core x 1 ∧ ¬ (1 + c_sCore x < 0) := by
  obtain ⟨h1, h2, h3, h4⟩ := h
  have a1 := cL_le cEntry x.2.2.2.2.2.2.2.2.1
  have a2 := cL_le cOne x.2.2.2.2.2.2.2.2.2.2.1
  have a3 := cL_le cOne x.2.2.2.2.2.2.2.2.2.2.2.1
  have a4 := cL_le cOne x.2.2.2.2.2.2.2.2.2.2.2.2
  have := pos_sCore x
  unfold pMk_Core c_sCore at *; omega
theorem hd_Core {x : Core} (h : lenC x) : fHd_Core (w_sCore x 1) 1 = 1 + c_sCore x ∧ pMk_Core (w_sCore x 1) 1 := by
  have := (mk_Core h).1
  unfold fHd_Core pMk_Core at *
  rw [fHd_yes (ok_sCore x 1).1, (ok_sCore x 1).2]
  exact ⟨rfl, this⟩
def lenW (x : Wal) : Prop := x.2.2.2.2.length ≤ 1048576
theorem lenW_n {x : Wal} (h : n_Wal x ≤ 1048576) : lenW x := by
  unfold n_Wal nL at h; unfold lenW; omega
theorem mk_Wal {x : Wal} (h : lenW x) : pMk_Wal x 1 ∧ ¬ (1 + c_sWal x < 0) := by
  unfold lenW at h
  have a1 := cL_le cEntry x.2.2.2.2
  have := pos_sWal x
  unfold pMk_Wal c_sWal at *; omega
theorem hd_Wal {x : Wal} (h : lenW x) : fHd_Wal (w_sWal x 1) 1 = 1 + c_sWal x ∧ pMk_Wal (w_sWal x 1) 1 := by
  have := (mk_Wal h).1
  unfold fHd_Wal pMk_Wal at *
  rw [fHd_yes (ok_sWal x 1).1, (ok_sWal x 1).2]
  exact ⟨rfl, this⟩
theorem len_fWalOf {x : Core} (h : lenC x) : lenW (fWalOf x) := h.1
theorem len_fCoreWal {x : Core} (h : lenC x) : lenW (fCoreWal x) := by 
  unfold fCoreWal; split
  · exact h.1
  · simp [lenW, wal0]
theorem len_core0 : lenC core0 := by simp [lenC, core0]
theorem len_fCoreOf {i p : Int} {w : Wal} (h : lenW w) : lenC (fCoreOf i p w).1 := by
  unfold fCoreOf; split
  · exact ⟨h, by simp [coreOf], by simp [coreOf], by simp [coreOf]⟩
  · exact len_core0
theorem len_fCompact {x : Core} {n : Int} (h : lenC x) : lenC (fCompact x n).1 := by
  unfold fCompact; split
  · split
    · obtain ⟨h1, h2, h3, h4⟩ := h
      exact ⟨by simp only [cutC, List.length_drop]; omega, h2, h3, h4⟩
    · exact h
  · exact len_core0
end Go.Proofs.Ythkghdmpkdpnkaa.B
