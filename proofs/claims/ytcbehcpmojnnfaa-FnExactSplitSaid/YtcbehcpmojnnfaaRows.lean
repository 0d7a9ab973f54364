/-
  No cell of these rows narrows 'for every input' (looked for: loops, veiled, ifaces, maps, wideKeys, modest, calm, conditions, laid).
  DERIVED. THE GIVEN ROWS OF THIS SEAT. 13 by the template 'for every input the law returns true; each argument reads behind the call as it read before'; 0 by the template 'total and deterministic' (their statements: YtcbehcpmojnnfaaTotals.lean).
  GIVEN WITH THE SEED: the statements are not yours to turn. If you find one false, say at which input.
  Laid BY PROGRAM, IN A SANDBOX (cutbox-rows.mjs): the forced cells as the released guide's own fill.sh prints them over the translation 9cac6e960d916a96… (all of the seat's roots in one cut). By AI agents, Wed Nov 11 2026. No macro, syntax, notation, axiom, sorry.
-/
import Derived.Test.YtcbehcpmojnnfaaChecked
import GoSem.Claim
import GoSem.ClaimJoined
import GoSem.ClaimMapViews
import Derived.JoinedTies
import Derived.KernelRfl
namespace Go.Proofs.Ytcbehcpmojnnfaa
/- THE CELL 'sum', in the pinned program and in every row, IS THE sha256 OF THE DUMP (.gsa) THAT YtcbehcpmojnnfaaProg.lean LOADS. Nothing in Lean hashes anything: it is a label: what it is worth is what the hold of that sum in a sandbox is worth. -/
noncomputable def Try.pinned : Pinned := { name := "ytcbehcpmojnnfaa", sum := "9cac6e960d916a96175d06cf4a2024b3beb8ea109c1a68ae0020b07b4cda89f2", checked := Try.checked }
namespace Rows
def none {H : Type} : Left H := { results := [], args := [] }

/-- 'laws.FnExactBucketOf': WHATEVER THE INPUT: true; the input reads as it did. -/
def fnExactBucketOfSpec : ChangeSpec := { name := "fnExactBucketOf", fn := fun _ => fun
  | [d] => { results := [.lit (.bool true)], args := [d] }
  | _ => none }
def fnExactBucketOfRow : OpenClaim := { program := "ytcbehcpmojnnfaa", sum := "9cac6e960d916a96175d06cf4a2024b3beb8ea109c1a68ae0020b07b4cda89f2", func := "loop.example/g00360/laws.FnExactBucketOf", spec := "fnExactBucketOf", apart := false }
def FnExactBucketOfSaid : Prop := fnExactBucketOfRow.holds Try.pinned (OpenSpec.ofChange fnExactBucketOfSpec)

/-- ITS FALSE NEIGHBOUR: 'it returns false'. Refute it at one input. -/
def fnExactBucketOfWrong : ChangeSpec := { name := "fnExactBucketOf", fn := fun _ => fun
  | [d] => { results := [.lit (.bool false)], args := [d] }
  | _ => none }
def FnExactBucketOfWrongFalsely : Prop := fnExactBucketOfRow.holds Try.pinned (OpenSpec.ofChange fnExactBucketOfWrong)

/-- 'laws.FnExactAnswerOk': WHATEVER THE INPUT: true; the input reads as it did. -/
def fnExactAnswerOkSpec : ChangeSpec := { name := "fnExactAnswerOk", fn := fun _ => fun
  | [d] => { results := [.lit (.bool true)], args := [d] }
  | _ => none }
def fnExactAnswerOkRow : OpenClaim := { program := "ytcbehcpmojnnfaa", sum := "9cac6e960d916a96175d06cf4a2024b3beb8ea109c1a68ae0020b07b4cda89f2", func := "loop.example/g00360/laws.FnExactAnswerOk", spec := "fnExactAnswerOk", apart := false }
def FnExactAnswerOkSaid : Prop := fnExactAnswerOkRow.holds Try.pinned (OpenSpec.ofChange fnExactAnswerOkSpec)

/-- ITS FALSE NEIGHBOUR: 'it returns false'. Refute it at one input. -/
def fnExactAnswerOkWrong : ChangeSpec := { name := "fnExactAnswerOk", fn := fun _ => fun
  | [d] => { results := [.lit (.bool false)], args := [d] }
  | _ => none }
def FnExactAnswerOkWrongFalsely : Prop := fnExactAnswerOkRow.holds Try.pinned (OpenSpec.ofChange fnExactAnswerOkWrong)

/-- 'laws.FnExactShowAnswer': WHATEVER THE INPUT: true; the input reads as it did. -/
def fnExactShowAnswerSpec : ChangeSpec := { name := "fnExactShowAnswer", fn := fun _ => fun
  | [d] => { results := [.lit (.bool true)], args := [d] }
  | _ => none }
def fnExactShowAnswerRow : OpenClaim := { program := "ytcbehcpmojnnfaa", sum := "9cac6e960d916a96175d06cf4a2024b3beb8ea109c1a68ae0020b07b4cda89f2", func := "loop.example/g00360/laws.FnExactShowAnswer", spec := "fnExactShowAnswer", apart := false }
def FnExactShowAnswerSaid : Prop := fnExactShowAnswerRow.holds Try.pinned (OpenSpec.ofChange fnExactShowAnswerSpec)

/-- ITS FALSE NEIGHBOUR: 'it returns false'. Refute it at one input. -/
def fnExactShowAnswerWrong : ChangeSpec := { name := "fnExactShowAnswer", fn := fun _ => fun
  | [d] => { results := [.lit (.bool false)], args := [d] }
  | _ => none }
def FnExactShowAnswerWrongFalsely : Prop := fnExactShowAnswerRow.holds Try.pinned (OpenSpec.ofChange fnExactShowAnswerWrong)

/-- 'laws.FnExactCover': WHATEVER THE INPUT: true; the input reads as it did. -/
def fnExactCoverSpec : ChangeSpec := { name := "fnExactCover", fn := fun _ => fun
  | [d1, d2] => { results := [.lit (.bool true)], args := [d1, d2] }
  | _ => none }
def fnExactCoverRow : OpenClaim := { program := "ytcbehcpmojnnfaa", sum := "9cac6e960d916a96175d06cf4a2024b3beb8ea109c1a68ae0020b07b4cda89f2", func := "loop.example/g00360/laws.FnExactCover", spec := "fnExactCover", apart := false }
def FnExactCoverSaid : Prop := fnExactCoverRow.holds Try.pinned (OpenSpec.ofChange fnExactCoverSpec)

/-- ITS FALSE NEIGHBOUR: 'it returns false'. Refute it at one input. -/
def fnExactCoverWrong : ChangeSpec := { name := "fnExactCover", fn := fun _ => fun
  | [d1, d2] => { results := [.lit (.bool false)], args := [d1, d2] }
  | _ => none }
def FnExactCoverWrongFalsely : Prop := fnExactCoverRow.holds Try.pinned (OpenSpec.ofChange fnExactCoverWrong)

/-- 'laws.FnExactReadAnswer': WHATEVER THE INPUT: true; the input reads as it did. -/
def fnExactReadAnswerSpec : ChangeSpec := { name := "fnExactReadAnswer", fn := fun _ => fun
  | [d] => { results := [.lit (.bool true)], args := [d] }
  | _ => none }
def fnExactReadAnswerRow : OpenClaim := { program := "ytcbehcpmojnnfaa", sum := "9cac6e960d916a96175d06cf4a2024b3beb8ea109c1a68ae0020b07b4cda89f2", func := "loop.example/g00360/laws.FnExactReadAnswer", spec := "fnExactReadAnswer", apart := false }
def FnExactReadAnswerSaid : Prop := fnExactReadAnswerRow.holds Try.pinned (OpenSpec.ofChange fnExactReadAnswerSpec)

/-- ITS FALSE NEIGHBOUR: 'it returns false'. Refute it at one input. -/
def fnExactReadAnswerWrong : ChangeSpec := { name := "fnExactReadAnswer", fn := fun _ => fun
  | [d] => { results := [.lit (.bool false)], args := [d] }
  | _ => none }
def FnExactReadAnswerWrongFalsely : Prop := fnExactReadAnswerRow.holds Try.pinned (OpenSpec.ofChange fnExactReadAnswerWrong)

/-- 'laws.FnExactRoutes': WHATEVER THE INPUT: true; the input reads as it did. -/
def fnExactRoutesSpec : ChangeSpec := { name := "fnExactRoutes", fn := fun _ => fun
  | [d] => { results := [.lit (.bool true)], args := [d] }
  | _ => none }
def fnExactRoutesRow : OpenClaim := { program := "ytcbehcpmojnnfaa", sum := "9cac6e960d916a96175d06cf4a2024b3beb8ea109c1a68ae0020b07b4cda89f2", func := "loop.example/g00360/laws.FnExactRoutes", spec := "fnExactRoutes", apart := false }
def FnExactRoutesSaid : Prop := fnExactRoutesRow.holds Try.pinned (OpenSpec.ofChange fnExactRoutesSpec)

/-- ITS FALSE NEIGHBOUR: 'it returns false'. Refute it at one input. -/
def fnExactRoutesWrong : ChangeSpec := { name := "fnExactRoutes", fn := fun _ => fun
  | [d] => { results := [.lit (.bool false)], args := [d] }
  | _ => none }
def FnExactRoutesWrongFalsely : Prop := fnExactRoutesRow.holds Try.pinned (OpenSpec.ofChange fnExactRoutesWrong)

/-- 'laws.FnMerge': WHATEVER THE INPUT: true; the input reads as it did. -/
def fnMergeSpec : ChangeSpec := { name := "fnMerge", fn := fun _ => fun
  | [d] => { results := [.lit (.bool true)], args := [d] }
  | _ => none }
def fnMergeRow : OpenClaim := { program := "ytcbehcpmojnnfaa", sum := "9cac6e960d916a96175d06cf4a2024b3beb8ea109c1a68ae0020b07b4cda89f2", func := "loop.example/g00360/laws.FnMerge", spec := "fnMerge", inPlace := ["slices.overlaps[loop.example/g00360/impl.Point]"], unfollowed := true, recurses := true, apart := false }
def FnMergeSaid : Prop := fnMergeRow.holds Try.pinned (OpenSpec.ofChange fnMergeSpec)

/-- ITS FALSE NEIGHBOUR: 'it returns false'. Refute it at one input. -/
def fnMergeWrong : ChangeSpec := { name := "fnMerge", fn := fun _ => fun
  | [d] => { results := [.lit (.bool false)], args := [d] }
  | _ => none }
def FnMergeWrongFalsely : Prop := fnMergeRow.holds Try.pinned (OpenSpec.ofChange fnMergeWrong)

/-- 'laws.FnExactSeriesOk': WHATEVER THE INPUT: true; the input reads as it did. -/
def fnExactSeriesOkSpec : ChangeSpec := { name := "fnExactSeriesOk", fn := fun _ => fun
  | [d] => { results := [.lit (.bool true)], args := [d] }
  | _ => none }
def fnExactSeriesOkRow : OpenClaim := { program := "ytcbehcpmojnnfaa", sum := "9cac6e960d916a96175d06cf4a2024b3beb8ea109c1a68ae0020b07b4cda89f2", func := "loop.example/g00360/laws.FnExactSeriesOk", spec := "fnExactSeriesOk", apart := false }
def FnExactSeriesOkSaid : Prop := fnExactSeriesOkRow.holds Try.pinned (OpenSpec.ofChange fnExactSeriesOkSpec)

/-- ITS FALSE NEIGHBOUR: 'it returns false'. Refute it at one input. -/
def fnExactSeriesOkWrong : ChangeSpec := { name := "fnExactSeriesOk", fn := fun _ => fun
  | [d] => { results := [.lit (.bool false)], args := [d] }
  | _ => none }
def FnExactSeriesOkWrongFalsely : Prop := fnExactSeriesOkRow.holds Try.pinned (OpenSpec.ofChange fnExactSeriesOkWrong)

/-- 'laws.FnExactSplit': WHATEVER THE INPUT: true; the input reads as it did. -/
def fnExactSplitSpec : ChangeSpec := { name := "fnExactSplit", fn := fun _ => fun
  | [d] => { results := [.lit (.bool true)], args := [d] }
  | _ => none }
def fnExactSplitRow : OpenClaim := { program := "ytcbehcpmojnnfaa", sum := "9cac6e960d916a96175d06cf4a2024b3beb8ea109c1a68ae0020b07b4cda89f2", func := "loop.example/g00360/laws.FnExactSplit", spec := "fnExactSplit", apart := false }
def FnExactSplitSaid : Prop := fnExactSplitRow.holds Try.pinned (OpenSpec.ofChange fnExactSplitSpec)

/-- ITS FALSE NEIGHBOUR: 'it returns false'. Refute it at one input. -/
def fnExactSplitWrong : ChangeSpec := { name := "fnExactSplit", fn := fun _ => fun
  | [d] => { results := [.lit (.bool false)], args := [d] }
  | _ => none }
def FnExactSplitWrongFalsely : Prop := fnExactSplitRow.holds Try.pinned (OpenSpec.ofChange fnExactSplitWrong)

/-- 'laws.FnSlice': WHATEVER THE INPUT: true; the input reads as it did. -/
def fnSliceSpec : ChangeSpec := { name := "fnSlice", fn := fun _ => fun
  | [d] => { results := [.lit (.bool true)], args := [d] }
  | _ => none }
def fnSliceRow : OpenClaim := { program := "ytcbehcpmojnnfaa", sum := "9cac6e960d916a96175d06cf4a2024b3beb8ea109c1a68ae0020b07b4cda89f2", func := "loop.example/g00360/laws.FnSlice", spec := "fnSlice", unfollowed := true, recurses := true, apart := false }
def FnSliceSaid : Prop := fnSliceRow.holds Try.pinned (OpenSpec.ofChange fnSliceSpec)

/-- ITS FALSE NEIGHBOUR: 'it returns false'. Refute it at one input. -/
def fnSliceWrong : ChangeSpec := { name := "fnSlice", fn := fun _ => fun
  | [d] => { results := [.lit (.bool false)], args := [d] }
  | _ => none }
def FnSliceWrongFalsely : Prop := fnSliceRow.holds Try.pinned (OpenSpec.ofChange fnSliceWrong)

/-- 'laws.FnSplit': WHATEVER THE INPUT: true; the input reads as it did. -/
def fnSplitSpec : ChangeSpec := { name := "fnSplit", fn := fun _ => fun
  | [d] => { results := [.lit (.bool true)], args := [d] }
  | _ => none }
def fnSplitRow : OpenClaim := { program := "ytcbehcpmojnnfaa", sum := "9cac6e960d916a96175d06cf4a2024b3beb8ea109c1a68ae0020b07b4cda89f2", func := "loop.example/g00360/laws.FnSplit", spec := "fnSplit", apart := false }
def FnSplitSaid : Prop := fnSplitRow.holds Try.pinned (OpenSpec.ofChange fnSplitSpec)

/-- ITS FALSE NEIGHBOUR: 'it returns false'. Refute it at one input. -/
def fnSplitWrong : ChangeSpec := { name := "fnSplit", fn := fun _ => fun
  | [d] => { results := [.lit (.bool false)], args := [d] }
  | _ => none }
def FnSplitWrongFalsely : Prop := fnSplitRow.holds Try.pinned (OpenSpec.ofChange fnSplitWrong)

/-- 'laws.FnExactMerge': WHATEVER THE INPUT: true; the input reads as it did. -/
def fnExactMergeSpec : ChangeSpec := { name := "fnExactMerge", fn := fun _ => fun
  | [d1, d2] => { results := [.lit (.bool true)], args := [d1, d2] }
  | _ => none }
def fnExactMergeRow : OpenClaim := { program := "ytcbehcpmojnnfaa", sum := "9cac6e960d916a96175d06cf4a2024b3beb8ea109c1a68ae0020b07b4cda89f2", func := "loop.example/g00360/laws.FnExactMerge", spec := "fnExactMerge", inPlace := ["slices.overlaps[loop.example/g00360/impl.Point]"], unfollowed := true, recurses := true, apart := false }
def FnExactMergeSaid : Prop := fnExactMergeRow.holds Try.pinned (OpenSpec.ofChange fnExactMergeSpec)

/-- ITS FALSE NEIGHBOUR: 'it returns false'. Refute it at one input. -/
def fnExactMergeWrong : ChangeSpec := { name := "fnExactMerge", fn := fun _ => fun
  | [d1, d2] => { results := [.lit (.bool false)], args := [d1, d2] }
  | _ => none }
def FnExactMergeWrongFalsely : Prop := fnExactMergeRow.holds Try.pinned (OpenSpec.ofChange fnExactMergeWrong)

/-- 'laws.FnExactShowBlock': WHATEVER THE INPUT: true; the input reads as it did. -/
def fnExactShowBlockSpec : ChangeSpec := { name := "fnExactShowBlock", fn := fun _ => fun
  | [d] => { results := [.lit (.bool true)], args := [d] }
  | _ => none }
def fnExactShowBlockRow : OpenClaim := { program := "ytcbehcpmojnnfaa", sum := "9cac6e960d916a96175d06cf4a2024b3beb8ea109c1a68ae0020b07b4cda89f2", func := "loop.example/g00360/laws.FnExactShowBlock", spec := "fnExactShowBlock", apart := false }
def FnExactShowBlockSaid : Prop := fnExactShowBlockRow.holds Try.pinned (OpenSpec.ofChange fnExactShowBlockSpec)

/-- ITS FALSE NEIGHBOUR: 'it returns false'. Refute it at one input. -/
def fnExactShowBlockWrong : ChangeSpec := { name := "fnExactShowBlock", fn := fun _ => fun
  | [d] => { results := [.lit (.bool false)], args := [d] }
  | _ => none }
def FnExactShowBlockWrongFalsely : Prop := fnExactShowBlockRow.holds Try.pinned (OpenSpec.ofChange fnExactShowBlockWrong)

/- THE SECOND FORM. 'bulk': how many values and letters a reading holds, each counted each time it is reached (what is shared counts as often as it is met; a slice's spare places count too). A statement '..UptoSaid' is the law's where the arguments, and the package variables that the reading takes, are together of bulk at most 1048576: NARROWER than '..Said'. Prove '..Said' where nothing that the law and all that it calls make is longer than what came in: it says more and counts as full. Else prove '..UptoSaid'. A law counts once. -/
mutual
def uptoBulk {H : Type} : DataW H → Nat
  | .lit (.string bytes) => bytes.length + 1
  | .lit _ => 1
  | .nil => 1
  | .ptr d => uptoBulk d + 1
  | .slice elems spare => uptoBulkAll elems + uptoBulkAll spare + 1
  | .agg parts => uptoBulkAll parts + 1
  | .iface _ d => uptoBulk d + 1
  | .map entries => uptoBulkEntries entries + 1
  | .held _ => 1
def uptoBulkAll {H : Type} : List (DataW H) → Nat
  | [] => 0
  | d :: r => uptoBulk d + uptoBulkAll r
def uptoBulkEntries {H : Type} : List (Lit × DataW H) → Nat
  | [] => 0
  | x :: r => uptoBulkEntry x + uptoBulkEntries r
def uptoBulkEntry {H : Type} : Lit × DataW H → Nat
  | (.string bytes, d) => bytes.length + uptoBulk d + 1
  | (_, d) => uptoBulk d + 1
 end
def uptoSmall : (H : Type) → List (DataW H) → Bool := fun _ ds => decide (uptoBulkAll ds ≤ 1048576)
def OpenSpec.upto (s : _root_.Go.ChangeSpec) : _root_.Go.OpenSpec := { _root_.Go.OpenSpec.ofChange s with cond := some uptoSmall }

/-- 'laws.FnExactBucketOf', WHERE WHAT IT READS IS OF BULK AT MOST 1048576: true; the input reads as it did. -/
def fnExactBucketOfUptoRow : OpenClaim := { program := "ytcbehcpmojnnfaa", sum := "9cac6e960d916a96175d06cf4a2024b3beb8ea109c1a68ae0020b07b4cda89f2", func := "loop.example/g00360/laws.FnExactBucketOf", spec := "fnExactBucketOf", apart := false, narrowed := true }
def FnExactBucketOfUptoSaid : Prop := fnExactBucketOfUptoRow.holds Try.pinned (OpenSpec.upto fnExactBucketOfSpec)

/-- 'laws.FnExactAnswerOk', WHERE WHAT IT READS IS OF BULK AT MOST 1048576: true; the input reads as it did. -/
def fnExactAnswerOkUptoRow : OpenClaim := { program := "ytcbehcpmojnnfaa", sum := "9cac6e960d916a96175d06cf4a2024b3beb8ea109c1a68ae0020b07b4cda89f2", func := "loop.example/g00360/laws.FnExactAnswerOk", spec := "fnExactAnswerOk", apart := false, narrowed := true }
def FnExactAnswerOkUptoSaid : Prop := fnExactAnswerOkUptoRow.holds Try.pinned (OpenSpec.upto fnExactAnswerOkSpec)

/-- 'laws.FnExactShowAnswer', WHERE WHAT IT READS IS OF BULK AT MOST 1048576: true; the input reads as it did. -/
def fnExactShowAnswerUptoRow : OpenClaim := { program := "ytcbehcpmojnnfaa", sum := "9cac6e960d916a96175d06cf4a2024b3beb8ea109c1a68ae0020b07b4cda89f2", func := "loop.example/g00360/laws.FnExactShowAnswer", spec := "fnExactShowAnswer", apart := false, narrowed := true }
def FnExactShowAnswerUptoSaid : Prop := fnExactShowAnswerUptoRow.holds Try.pinned (OpenSpec.upto fnExactShowAnswerSpec)

/-- 'laws.FnExactCover', WHERE WHAT IT READS IS OF BULK AT MOST 1048576: true; the input reads as it did. -/
def fnExactCoverUptoRow : OpenClaim := { program := "ytcbehcpmojnnfaa", sum := "9cac6e960d916a96175d06cf4a2024b3beb8ea109c1a68ae0020b07b4cda89f2", func := "loop.example/g00360/laws.FnExactCover", spec := "fnExactCover", apart := false, narrowed := true }
def FnExactCoverUptoSaid : Prop := fnExactCoverUptoRow.holds Try.pinned (OpenSpec.upto fnExactCoverSpec)

/-- 'laws.FnExactReadAnswer', WHERE WHAT IT READS IS OF BULK AT MOST 1048576: true; the input reads as it did. -/
def fnExactReadAnswerUptoRow : OpenClaim := { program := "ytcbehcpmojnnfaa", sum := "9cac6e960d916a96175d06cf4a2024b3beb8ea109c1a68ae0020b07b4cda89f2", func := "loop.example/g00360/laws.FnExactReadAnswer", spec := "fnExactReadAnswer", apart := false, narrowed := true }
def FnExactReadAnswerUptoSaid : Prop := fnExactReadAnswerUptoRow.holds Try.pinned (OpenSpec.upto fnExactReadAnswerSpec)

/-- 'laws.FnExactRoutes', WHERE WHAT IT READS IS OF BULK AT MOST 1048576: true; the input reads as it did. -/
def fnExactRoutesUptoRow : OpenClaim := { program := "ytcbehcpmojnnfaa", sum := "9cac6e960d916a96175d06cf4a2024b3beb8ea109c1a68ae0020b07b4cda89f2", func := "loop.example/g00360/laws.FnExactRoutes", spec := "fnExactRoutes", apart := false, narrowed := true }
def FnExactRoutesUptoSaid : Prop := fnExactRoutesUptoRow.holds Try.pinned (OpenSpec.upto fnExactRoutesSpec)

/-- 'laws.FnMerge', WHERE WHAT IT READS IS OF BULK AT MOST 1048576: true; the input reads as it did. -/
def fnMergeUptoRow : OpenClaim := { program := "ytcbehcpmojnnfaa", sum := "9cac6e960d916a96175d06cf4a2024b3beb8ea109c1a68ae0020b07b4cda89f2", func := "loop.example/g00360/laws.FnMerge", spec := "fnMerge", inPlace := ["slices.overlaps[loop.example/g00360/impl.Point]"], unfollowed := true, recurses := true, apart := false, narrowed := true }
def FnMergeUptoSaid : Prop := fnMergeUptoRow.holds Try.pinned (OpenSpec.upto fnMergeSpec)

/-- 'laws.FnExactSeriesOk', WHERE WHAT IT READS IS OF BULK AT MOST 1048576: true; the input reads as it did. -/
def fnExactSeriesOkUptoRow : OpenClaim := { program := "ytcbehcpmojnnfaa", sum := "9cac6e960d916a96175d06cf4a2024b3beb8ea109c1a68ae0020b07b4cda89f2", func := "loop.example/g00360/laws.FnExactSeriesOk", spec := "fnExactSeriesOk", apart := false, narrowed := true }
def FnExactSeriesOkUptoSaid : Prop := fnExactSeriesOkUptoRow.holds Try.pinned (OpenSpec.upto fnExactSeriesOkSpec)

/-- 'laws.FnExactSplit', WHERE WHAT IT READS IS OF BULK AT MOST 1048576: true; the input reads as it did. -/
def fnExactSplitUptoRow : OpenClaim := { program := "ytcbehcpmojnnfaa", sum := "9cac6e960d916a96175d06cf4a2024b3beb8ea109c1a68ae0020b07b4cda89f2", func := "loop.example/g00360/laws.FnExactSplit", spec := "fnExactSplit", apart := false, narrowed := true }
def FnExactSplitUptoSaid : Prop := fnExactSplitUptoRow.holds Try.pinned (OpenSpec.upto fnExactSplitSpec)

/-- 'laws.FnSlice', WHERE WHAT IT READS IS OF BULK AT MOST 1048576: true; the input reads as it did. -/
def fnSliceUptoRow : OpenClaim := { program := "ytcbehcpmojnnfaa", sum := "9cac6e960d916a96175d06cf4a2024b3beb8ea109c1a68ae0020b07b4cda89f2", func := "loop.example/g00360/laws.FnSlice", spec := "fnSlice", unfollowed := true, recurses := true, apart := false, narrowed := true }
def FnSliceUptoSaid : Prop := fnSliceUptoRow.holds Try.pinned (OpenSpec.upto fnSliceSpec)

/-- 'laws.FnSplit', WHERE WHAT IT READS IS OF BULK AT MOST 1048576: true; the input reads as it did. -/
def fnSplitUptoRow : OpenClaim := { program := "ytcbehcpmojnnfaa", sum := "9cac6e960d916a96175d06cf4a2024b3beb8ea109c1a68ae0020b07b4cda89f2", func := "loop.example/g00360/laws.FnSplit", spec := "fnSplit", apart := false, narrowed := true }
def FnSplitUptoSaid : Prop := fnSplitUptoRow.holds Try.pinned (OpenSpec.upto fnSplitSpec)

/-- 'laws.FnExactMerge', WHERE WHAT IT READS IS OF BULK AT MOST 1048576: true; the input reads as it did. -/
def fnExactMergeUptoRow : OpenClaim := { program := "ytcbehcpmojnnfaa", sum := "9cac6e960d916a96175d06cf4a2024b3beb8ea109c1a68ae0020b07b4cda89f2", func := "loop.example/g00360/laws.FnExactMerge", spec := "fnExactMerge", inPlace := ["slices.overlaps[loop.example/g00360/impl.Point]"], unfollowed := true, recurses := true, apart := false, narrowed := true }
def FnExactMergeUptoSaid : Prop := fnExactMergeUptoRow.holds Try.pinned (OpenSpec.upto fnExactMergeSpec)

/-- 'laws.FnExactShowBlock', WHERE WHAT IT READS IS OF BULK AT MOST 1048576: true; the input reads as it did. -/
def fnExactShowBlockUptoRow : OpenClaim := { program := "ytcbehcpmojnnfaa", sum := "9cac6e960d916a96175d06cf4a2024b3beb8ea109c1a68ae0020b07b4cda89f2", func := "loop.example/g00360/laws.FnExactShowBlock", spec := "fnExactShowBlock", apart := false, narrowed := true }
def FnExactShowBlockUptoSaid : Prop := fnExactShowBlockUptoRow.holds Try.pinned (OpenSpec.upto fnExactShowBlockSpec)

end Rows
end Go.Proofs.Ytcbehcpmojnnfaa
