/-
  No cell of these rows narrows 'for every input' (looked for: loops, veiled, ifaces, maps, wideKeys, modest, calm, conditions, laid).
  DERIVED. THE GIVEN ROWS OF THIS SEAT. 7 by the template 'for every input the law returns true; each argument reads behind the call as it read before'; 0 by the template 'total and deterministic' (their statements: YtnoapekdbmpiaaaTotals.lean).
  GIVEN WITH THE SEED: the statements are not yours to turn. If you find one false, say at which input.
  Laid BY PROGRAM, IN A SANDBOX (cutbox-rows.mjs): the forced cells as the released guide's own fill.sh prints them over the translation 17d3f0965b977178… (all of the seat's roots in one cut). By AI agents, Wed Nov 11 2026. No macro, syntax, notation, axiom, sorry.
-/
import Derived.Test.YtnoapekdbmpiaaaChecked
import GoSem.Claim
import GoSem.ClaimJoined
import GoSem.ClaimMapViews
import Derived.JoinedTies
import Derived.KernelRfl
namespace Go.Proofs.Ytnoapekdbmpiaaa
/- THE CELL 'sum', in the pinned program and in every row, IS THE sha256 OF THE DUMP (.gsa) THAT YtnoapekdbmpiaaaProg.lean LOADS. Nothing in Lean hashes anything: it is a label: what it is worth is what the hold of that sum in a sandbox is worth. -/
noncomputable def Try.pinned : Pinned := { name := "ytnoapekdbmpiaaa", sum := "17d3f0965b977178157949257464bc219d345b38a6502374d63a009c1b316596", checked := Try.checked }
namespace Rows
def none {H : Type} : Left H := { results := [], args := [] }

/-- 'laws.FnExactFileFind': WHATEVER THE INPUT: true; the input reads as it did. -/
def fnExactFileFindSpec : ChangeSpec := { name := "fnExactFileFind", fn := fun _ => fun
  | [d1, d2] => { results := [.lit (.bool true)], args := [d1, d2] }
  | _ => none }
def fnExactFileFindRow : OpenClaim := { program := "ytnoapekdbmpiaaa", sum := "17d3f0965b977178157949257464bc219d345b38a6502374d63a009c1b316596", func := "loop.example/g00360/laws.FnExactFileFind", spec := "fnExactFileFind", apart := false }
def FnExactFileFindSaid : Prop := fnExactFileFindRow.holds Try.pinned (OpenSpec.ofChange fnExactFileFindSpec)

/-- ITS FALSE NEIGHBOUR: 'it returns false'. Refute it at one input. -/
def fnExactFileFindWrong : ChangeSpec := { name := "fnExactFileFind", fn := fun _ => fun
  | [d1, d2] => { results := [.lit (.bool false)], args := [d1, d2] }
  | _ => none }
def FnExactFileFindWrongFalsely : Prop := fnExactFileFindRow.holds Try.pinned (OpenSpec.ofChange fnExactFileFindWrong)

/-- 'laws.FnSlice': WHATEVER THE INPUT: true; the input reads as it did. -/
def fnSliceSpec : ChangeSpec := { name := "fnSlice", fn := fun _ => fun
  | [d] => { results := [.lit (.bool true)], args := [d] }
  | _ => none }
def fnSliceRow : OpenClaim := { program := "ytnoapekdbmpiaaa", sum := "17d3f0965b977178157949257464bc219d345b38a6502374d63a009c1b316596", func := "loop.example/g00360/laws.FnSlice", spec := "fnSlice", unfollowed := true, recurses := true, apart := false }
def FnSliceSaid : Prop := fnSliceRow.holds Try.pinned (OpenSpec.ofChange fnSliceSpec)

/-- ITS FALSE NEIGHBOUR: 'it returns false'. Refute it at one input. -/
def fnSliceWrong : ChangeSpec := { name := "fnSlice", fn := fun _ => fun
  | [d] => { results := [.lit (.bool false)], args := [d] }
  | _ => none }
def FnSliceWrongFalsely : Prop := fnSliceRow.holds Try.pinned (OpenSpec.ofChange fnSliceWrong)

/-- 'laws.FnMerge': WHATEVER THE INPUT: true; the input reads as it did. -/
def fnMergeSpec : ChangeSpec := { name := "fnMerge", fn := fun _ => fun
  | [d] => { results := [.lit (.bool true)], args := [d] }
  | _ => none }
def fnMergeRow : OpenClaim := { program := "ytnoapekdbmpiaaa", sum := "17d3f0965b977178157949257464bc219d345b38a6502374d63a009c1b316596", func := "loop.example/g00360/laws.FnMerge", spec := "fnMerge", inPlace := ["slices.overlaps[loop.example/g00360/impl.Point]"], unfollowed := true, recurses := true, apart := false }
def FnMergeSaid : Prop := fnMergeRow.holds Try.pinned (OpenSpec.ofChange fnMergeSpec)

/-- ITS FALSE NEIGHBOUR: 'it returns false'. Refute it at one input. -/
def fnMergeWrong : ChangeSpec := { name := "fnMerge", fn := fun _ => fun
  | [d] => { results := [.lit (.bool false)], args := [d] }
  | _ => none }
def FnMergeWrongFalsely : Prop := fnMergeRow.holds Try.pinned (OpenSpec.ofChange fnMergeWrong)

/-- 'laws.FnSplit': WHATEVER THE INPUT: true; the input reads as it did. -/
def fnSplitSpec : ChangeSpec := { name := "fnSplit", fn := fun _ => fun
  | [d] => { results := [.lit (.bool true)], args := [d] }
  | _ => none }
def fnSplitRow : OpenClaim := { program := "ytnoapekdbmpiaaa", sum := "17d3f0965b977178157949257464bc219d345b38a6502374d63a009c1b316596", func := "loop.example/g00360/laws.FnSplit", spec := "fnSplit", apart := false }
def FnSplitSaid : Prop := fnSplitRow.holds Try.pinned (OpenSpec.ofChange fnSplitSpec)

/-- ITS FALSE NEIGHBOUR: 'it returns false'. Refute it at one input. -/
def fnSplitWrong : ChangeSpec := { name := "fnSplit", fn := fun _ => fun
  | [d] => { results := [.lit (.bool false)], args := [d] }
  | _ => none }
def FnSplitWrongFalsely : Prop := fnSplitRow.holds Try.pinned (OpenSpec.ofChange fnSplitWrong)

/-- 'laws.FnExactElect': WHATEVER THE INPUT: true; the input reads as it did. -/
def fnExactElectSpec : ChangeSpec := { name := "fnExactElect", fn := fun _ => fun
  | [d] => { results := [.lit (.bool true)], args := [d] }
  | _ => none }
def fnExactElectRow : OpenClaim := { program := "ytnoapekdbmpiaaa", sum := "17d3f0965b977178157949257464bc219d345b38a6502374d63a009c1b316596", func := "loop.example/g00360/laws.FnExactElect", spec := "fnExactElect", unfollowed := true, recurses := true, apart := false }
def FnExactElectSaid : Prop := fnExactElectRow.holds Try.pinned (OpenSpec.ofChange fnExactElectSpec)

/-- ITS FALSE NEIGHBOUR: 'it returns false'. Refute it at one input. -/
def fnExactElectWrong : ChangeSpec := { name := "fnExactElect", fn := fun _ => fun
  | [d] => { results := [.lit (.bool false)], args := [d] }
  | _ => none }
def FnExactElectWrongFalsely : Prop := fnExactElectRow.holds Try.pinned (OpenSpec.ofChange fnExactElectWrong)

/-- 'laws.FnExactBeat': WHATEVER THE INPUT: true; the input reads as it did. -/
def fnExactBeatSpec : ChangeSpec := { name := "fnExactBeat", fn := fun _ => fun
  | [d] => { results := [.lit (.bool true)], args := [d] }
  | _ => none }
def fnExactBeatRow : OpenClaim := { program := "ytnoapekdbmpiaaa", sum := "17d3f0965b977178157949257464bc219d345b38a6502374d63a009c1b316596", func := "loop.example/g00360/laws.FnExactBeat", spec := "fnExactBeat", unfollowed := true, recurses := true, apart := false }
def FnExactBeatSaid : Prop := fnExactBeatRow.holds Try.pinned (OpenSpec.ofChange fnExactBeatSpec)

/-- ITS FALSE NEIGHBOUR: 'it returns false'. Refute it at one input. -/
def fnExactBeatWrong : ChangeSpec := { name := "fnExactBeat", fn := fun _ => fun
  | [d] => { results := [.lit (.bool false)], args := [d] }
  | _ => none }
def FnExactBeatWrongFalsely : Prop := fnExactBeatRow.holds Try.pinned (OpenSpec.ofChange fnExactBeatWrong)

/-- 'laws.FnExactPropose': WHATEVER THE INPUT: true; the input reads as it did. -/
def fnExactProposeSpec : ChangeSpec := { name := "fnExactPropose", fn := fun _ => fun
  | [d1, d2] => { results := [.lit (.bool true)], args := [d1, d2] }
  | _ => none }
def fnExactProposeRow : OpenClaim := { program := "ytnoapekdbmpiaaa", sum := "17d3f0965b977178157949257464bc219d345b38a6502374d63a009c1b316596", func := "loop.example/g00360/laws.FnExactPropose", spec := "fnExactPropose", unfollowed := true, recurses := true, apart := false }
def FnExactProposeSaid : Prop := fnExactProposeRow.holds Try.pinned (OpenSpec.ofChange fnExactProposeSpec)

/-- ITS FALSE NEIGHBOUR: 'it returns false'. Refute it at one input. -/
def fnExactProposeWrong : ChangeSpec := { name := "fnExactPropose", fn := fun _ => fun
  | [d1, d2] => { results := [.lit (.bool false)], args := [d1, d2] }
  | _ => none }
def FnExactProposeWrongFalsely : Prop := fnExactProposeRow.holds Try.pinned (OpenSpec.ofChange fnExactProposeWrong)

/- THE SECOND FORM. 'bulk': how many values and letters a reading holds, each counted each time it is reached (what is shared counts as often as it is met; a slice's spare places count too). A statement '..UptoSaid' is the law's where the arguments, and the package variables that the reading takes, are together of bulk at most 1048576: NARROWER than '..Said'. Prove '..Said' where nothing that the law and all that it calls make is longer than what came in: it says more and counts as full. Else prove '..UptoSaid'. A law counts once. -/
mutual
def uptoBulk {H : Type} : DataW H → Nat
  | .lit (.string bytes) => bytes.length + 1
  | .lit _ => 1
  | .nil => 1
  | .ptr d => uptoBulk d + 1
  | .slice elems spare => uptoBulkAll elems + uptoBulkAll spare + 1
  | .agg parts => uptoBulkAll parts + 1
  | .iface _ d => uptoBulk d + 1
  | .map entries => uptoBulkEntries entries + 1
  | .held _ => 1
def uptoBulkAll {H : Type} : List (DataW H) → Nat
  | [] => 0
  | d :: r => uptoBulk d + uptoBulkAll r
def uptoBulkEntries {H : Type} : List (Lit × DataW H) → Nat
  | [] => 0
  | x :: r => uptoBulkEntry x + uptoBulkEntries r
def uptoBulkEntry {H : Type} : Lit × DataW H → Nat
  | (.string bytes, d) => bytes.length + uptoBulk d + 1
  | (_, d) => uptoBulk d + 1
 end
def uptoSmall : (H : Type) → List (DataW H) → Bool := fun _ ds => decide (uptoBulkAll ds ≤ 1048576)
def OpenSpec.upto (s : _root_.Go.ChangeSpec) : _root_.Go.OpenSpec := { _root_.Go.OpenSpec.ofChange s with cond := some uptoSmall }

/-- 'laws.FnExactFileFind', WHERE WHAT IT READS IS OF BULK AT MOST 1048576: true; the input reads as it did. -/
def fnExactFileFindUptoRow : OpenClaim := { program := "ytnoapekdbmpiaaa", sum := "17d3f0965b977178157949257464bc219d345b38a6502374d63a009c1b316596", func := "loop.example/g00360/laws.FnExactFileFind", spec := "fnExactFileFind", apart := false, narrowed := true }
def FnExactFileFindUptoSaid : Prop := fnExactFileFindUptoRow.holds Try.pinned (OpenSpec.upto fnExactFileFindSpec)

/-- 'laws.FnSlice', WHERE WHAT IT READS IS OF BULK AT MOST 1048576: true; the input reads as it did. -/
def fnSliceUptoRow : OpenClaim := { program := "ytnoapekdbmpiaaa", sum := "17d3f0965b977178157949257464bc219d345b38a6502374d63a009c1b316596", func := "loop.example/g00360/laws.FnSlice", spec := "fnSlice", unfollowed := true, recurses := true, apart := false, narrowed := true }
def FnSliceUptoSaid : Prop := fnSliceUptoRow.holds Try.pinned (OpenSpec.upto fnSliceSpec)

/-- 'laws.FnMerge', WHERE WHAT IT READS IS OF BULK AT MOST 1048576: true; the input reads as it did. -/
def fnMergeUptoRow : OpenClaim := { program := "ytnoapekdbmpiaaa", sum := "17d3f0965b977178157949257464bc219d345b38a6502374d63a009c1b316596", func := "loop.example/g00360/laws.FnMerge", spec := "fnMerge", inPlace := ["slices.overlaps[loop.example/g00360/impl.Point]"], unfollowed := true, recurses := true, apart := false, narrowed := true }
def FnMergeUptoSaid : Prop := fnMergeUptoRow.holds Try.pinned (OpenSpec.upto fnMergeSpec)

/-- 'laws.FnSplit', WHERE WHAT IT READS IS OF BULK AT MOST 1048576: true; the input reads as it did. -/
def fnSplitUptoRow : OpenClaim := { program := "ytnoapekdbmpiaaa", sum := "17d3f0965b977178157949257464bc219d345b38a6502374d63a009c1b316596", func := "loop.example/g00360/laws.FnSplit", spec := "fnSplit", apart := false, narrowed := true }
def FnSplitUptoSaid : Prop := fnSplitUptoRow.holds Try.pinned (OpenSpec.upto fnSplitSpec)

/-- 'laws.FnExactElect', WHERE WHAT IT READS IS OF BULK AT MOST 1048576: true; the input reads as it did. -/
def fnExactElectUptoRow : OpenClaim := { program := "ytnoapekdbmpiaaa", sum := "17d3f0965b977178157949257464bc219d345b38a6502374d63a009c1b316596", func := "loop.example/g00360/laws.FnExactElect", spec := "fnExactElect", unfollowed := true, recurses := true, apart := false, narrowed := true }
def FnExactElectUptoSaid : Prop := fnExactElectUptoRow.holds Try.pinned (OpenSpec.upto fnExactElectSpec)

/-- 'laws.FnExactBeat', WHERE WHAT IT READS IS OF BULK AT MOST 1048576: true; the input reads as it did. -/
def fnExactBeatUptoRow : OpenClaim := { program := "ytnoapekdbmpiaaa", sum := "17d3f0965b977178157949257464bc219d345b38a6502374d63a009c1b316596", func := "loop.example/g00360/laws.FnExactBeat", spec := "fnExactBeat", unfollowed := true, recurses := true, apart := false, narrowed := true }
def FnExactBeatUptoSaid : Prop := fnExactBeatUptoRow.holds Try.pinned (OpenSpec.upto fnExactBeatSpec)

/-- 'laws.FnExactPropose', WHERE WHAT IT READS IS OF BULK AT MOST 1048576: true; the input reads as it did. -/
def fnExactProposeUptoRow : OpenClaim := { program := "ytnoapekdbmpiaaa", sum := "17d3f0965b977178157949257464bc219d345b38a6502374d63a009c1b316596", func := "loop.example/g00360/laws.FnExactPropose", spec := "fnExactPropose", unfollowed := true, recurses := true, apart := false, narrowed := true }
def FnExactProposeUptoSaid : Prop := fnExactProposeUptoRow.holds Try.pinned (OpenSpec.upto fnExactProposeSpec)

end Rows
end Go.Proofs.Ytnoapekdbmpiaaa
