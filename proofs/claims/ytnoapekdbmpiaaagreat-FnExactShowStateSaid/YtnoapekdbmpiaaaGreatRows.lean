/-
  No cell of these rows narrows 'for every input' (looked for: loops, veiled, ifaces, maps, wideKeys, modest, calm, conditions, laid).
  DERIVED. THE GIVEN ROWS OF THIS SEAT. 11 by the template 'for every input the law returns true; each argument reads behind the call as it read before'; 0 by the template 'total and deterministic' (their statements: YtnoapekdbmpiaaaGreatTotals.lean).
  GIVEN WITH THE SEED: the statements are not yours to turn. If you find one false, say at which input.
  Laid BY PROGRAM, IN A SANDBOX (cutbox-rows.mjs): the forced cells as the released guide's own fill.sh prints them over the translation c1e06b35e5d87223… (all of the seat's roots in one cut). By AI agents, Wed Nov 11 2026. No macro, syntax, notation, axiom, sorry.
-/
import Derived.Test.YtnoapekdbmpiaaaGreatChecked
import GoSem.Claim
import GoSem.ClaimJoined
import GoSem.ClaimMapViews
import Derived.JoinedTies
import Derived.KernelRfl
namespace Go.Proofs.YtnoapekdbmpiaaaGreat
/- THE CELL 'sum', in the pinned program and in every row, IS THE sha256 OF THE DUMP (.gsa) THAT YtnoapekdbmpiaaaGreatProg.lean LOADS. Nothing in Lean hashes anything: it is a label: what it is worth is what the hold of that sum in a sandbox is worth. -/
noncomputable def Tryz.pinned : Pinned := { name := "ytnoapekdbmpiaaagreat", sum := "c1e06b35e5d872238120e9df640e16ba40060e71dfc0e31caa0353567b19f78d", checked := Tryz.checked }
namespace Rows
def none {H : Type} : Left H := { results := [], args := [] }

/-- 'laws.FnExactQuery': WHATEVER THE INPUT: true; the input reads as it did. -/
def fnExactQuerySpec : ChangeSpec := { name := "fnExactQuery", fn := fun _ => fun
  | [d1, d2, d3, d4] => { results := [.lit (.bool true)], args := [d1, d2, d3, d4] }
  | _ => none }
def fnExactQueryRow : OpenClaim := { program := "ytnoapekdbmpiaaagreat", sum := "c1e06b35e5d872238120e9df640e16ba40060e71dfc0e31caa0353567b19f78d", func := "loop.example/g00360/laws.FnExactQuery", spec := "fnExactQuery", inPlace := ["internal/bytealg.abigen_runtime_cmpstring", "slices.overlaps[loop.example/g00360/impl.Point]", "slices.overlaps[loop.example/g00360/impl.Series]"], unfollowed := true, recurses := true, apart := false }
def FnExactQuerySaid : Prop := fnExactQueryRow.holds Tryz.pinned (OpenSpec.ofChange fnExactQuerySpec)

/-- ITS FALSE NEIGHBOUR: 'it returns false'. Refute it at one input. -/
def fnExactQueryWrong : ChangeSpec := { name := "fnExactQuery", fn := fun _ => fun
  | [d1, d2, d3, d4] => { results := [.lit (.bool false)], args := [d1, d2, d3, d4] }
  | _ => none }
def FnExactQueryWrongFalsely : Prop := fnExactQueryRow.holds Tryz.pinned (OpenSpec.ofChange fnExactQueryWrong)

/-- 'laws.FnExactPlain': WHATEVER THE INPUT: true; the input reads as it did. -/
def fnExactPlainSpec : ChangeSpec := { name := "fnExactPlain", fn := fun _ => fun
  | [d] => { results := [.lit (.bool true)], args := [d] }
  | _ => none }
def fnExactPlainRow : OpenClaim := { program := "ytnoapekdbmpiaaagreat", sum := "c1e06b35e5d872238120e9df640e16ba40060e71dfc0e31caa0353567b19f78d", func := "loop.example/g00360/laws.FnExactPlain", spec := "fnExactPlain", inPlace := ["internal/bytealg.abigen_runtime_cmpstring", "slices.overlaps[loop.example/g00360/impl.Point]", "slices.overlaps[loop.example/g00360/impl.Series]"], unfollowed := true, recurses := true, apart := false }
def FnExactPlainSaid : Prop := fnExactPlainRow.holds Tryz.pinned (OpenSpec.ofChange fnExactPlainSpec)

/-- ITS FALSE NEIGHBOUR: 'it returns false'. Refute it at one input. -/
def fnExactPlainWrong : ChangeSpec := { name := "fnExactPlain", fn := fun _ => fun
  | [d] => { results := [.lit (.bool false)], args := [d] }
  | _ => none }
def FnExactPlainWrongFalsely : Prop := fnExactPlainRow.holds Tryz.pinned (OpenSpec.ofChange fnExactPlainWrong)

/-- 'laws.FnExactRaise': WHATEVER THE INPUT: true; the input reads as it did. -/
def fnExactRaiseSpec : ChangeSpec := { name := "fnExactRaise", fn := fun _ => fun
  | [d1, d2] => { results := [.lit (.bool true)], args := [d1, d2] }
  | _ => none }
def fnExactRaiseRow : OpenClaim := { program := "ytnoapekdbmpiaaagreat", sum := "c1e06b35e5d872238120e9df640e16ba40060e71dfc0e31caa0353567b19f78d", func := "loop.example/g00360/laws.FnExactRaise", spec := "fnExactRaise", inPlace := ["internal/bytealg.abigen_runtime_cmpstring", "slices.overlaps[loop.example/g00360/impl.Point]", "slices.overlaps[loop.example/g00360/impl.Series]"], unfollowed := true, recurses := true, apart := false }
def FnExactRaiseSaid : Prop := fnExactRaiseRow.holds Tryz.pinned (OpenSpec.ofChange fnExactRaiseSpec)

/-- ITS FALSE NEIGHBOUR: 'it returns false'. Refute it at one input. -/
def fnExactRaiseWrong : ChangeSpec := { name := "fnExactRaise", fn := fun _ => fun
  | [d1, d2] => { results := [.lit (.bool false)], args := [d1, d2] }
  | _ => none }
def FnExactRaiseWrongFalsely : Prop := fnExactRaiseRow.holds Tryz.pinned (OpenSpec.ofChange fnExactRaiseWrong)

/-- 'laws.FnExactFlush': WHATEVER THE INPUT: true; the input reads as it did. -/
def fnExactFlushSpec : ChangeSpec := { name := "fnExactFlush", fn := fun _ => fun
  | [d] => { results := [.lit (.bool true)], args := [d] }
  | _ => none }
def fnExactFlushRow : OpenClaim := { program := "ytnoapekdbmpiaaagreat", sum := "c1e06b35e5d872238120e9df640e16ba40060e71dfc0e31caa0353567b19f78d", func := "loop.example/g00360/laws.FnExactFlush", spec := "fnExactFlush", inPlace := ["internal/bytealg.abigen_runtime_cmpstring", "slices.overlaps[loop.example/g00360/impl.Point]", "slices.overlaps[loop.example/g00360/impl.Series]"], unfollowed := true, recurses := true, apart := false }
def FnExactFlushSaid : Prop := fnExactFlushRow.holds Tryz.pinned (OpenSpec.ofChange fnExactFlushSpec)

/-- ITS FALSE NEIGHBOUR: 'it returns false'. Refute it at one input. -/
def fnExactFlushWrong : ChangeSpec := { name := "fnExactFlush", fn := fun _ => fun
  | [d] => { results := [.lit (.bool false)], args := [d] }
  | _ => none }
def FnExactFlushWrongFalsely : Prop := fnExactFlushRow.holds Tryz.pinned (OpenSpec.ofChange fnExactFlushWrong)

/-- 'laws.FnExactPack': WHATEVER THE INPUT: true; the input reads as it did. -/
def fnExactPackSpec : ChangeSpec := { name := "fnExactPack", fn := fun _ => fun
  | [d] => { results := [.lit (.bool true)], args := [d] }
  | _ => none }
def fnExactPackRow : OpenClaim := { program := "ytnoapekdbmpiaaagreat", sum := "c1e06b35e5d872238120e9df640e16ba40060e71dfc0e31caa0353567b19f78d", func := "loop.example/g00360/laws.FnExactPack", spec := "fnExactPack", inPlace := ["internal/bytealg.abigen_runtime_cmpstring", "slices.overlaps[loop.example/g00360/impl.Point]", "slices.overlaps[loop.example/g00360/impl.Series]"], unfollowed := true, recurses := true, apart := false }
def FnExactPackSaid : Prop := fnExactPackRow.holds Tryz.pinned (OpenSpec.ofChange fnExactPackSpec)

/-- ITS FALSE NEIGHBOUR: 'it returns false'. Refute it at one input. -/
def fnExactPackWrong : ChangeSpec := { name := "fnExactPack", fn := fun _ => fun
  | [d] => { results := [.lit (.bool false)], args := [d] }
  | _ => none }
def FnExactPackWrongFalsely : Prop := fnExactPackRow.holds Tryz.pinned (OpenSpec.ofChange fnExactPackWrong)

/-- 'laws.FnExactPut': WHATEVER THE INPUT: true; the input reads as it did. -/
def fnExactPutSpec : ChangeSpec := { name := "fnExactPut", fn := fun _ => fun
  | [d1, d2, d3] => { results := [.lit (.bool true)], args := [d1, d2, d3] }
  | _ => none }
def fnExactPutRow : OpenClaim := { program := "ytnoapekdbmpiaaagreat", sum := "c1e06b35e5d872238120e9df640e16ba40060e71dfc0e31caa0353567b19f78d", func := "loop.example/g00360/laws.FnExactPut", spec := "fnExactPut", inPlace := ["internal/bytealg.abigen_runtime_cmpstring", "slices.overlaps[loop.example/g00360/impl.Point]", "slices.overlaps[loop.example/g00360/impl.Series]"], unfollowed := true, recurses := true, apart := false }
def FnExactPutSaid : Prop := fnExactPutRow.holds Tryz.pinned (OpenSpec.ofChange fnExactPutSpec)

/-- ITS FALSE NEIGHBOUR: 'it returns false'. Refute it at one input. -/
def fnExactPutWrong : ChangeSpec := { name := "fnExactPut", fn := fun _ => fun
  | [d1, d2, d3] => { results := [.lit (.bool false)], args := [d1, d2, d3] }
  | _ => none }
def FnExactPutWrongFalsely : Prop := fnExactPutRow.holds Tryz.pinned (OpenSpec.ofChange fnExactPutWrong)

/-- 'laws.FnExactStateOk': WHATEVER THE INPUT: true; the input reads as it did. -/
def fnExactStateOkSpec : ChangeSpec := { name := "fnExactStateOk", fn := fun _ => fun
  | [d] => { results := [.lit (.bool true)], args := [d] }
  | _ => none }
def fnExactStateOkRow : OpenClaim := { program := "ytnoapekdbmpiaaagreat", sum := "c1e06b35e5d872238120e9df640e16ba40060e71dfc0e31caa0353567b19f78d", func := "loop.example/g00360/laws.FnExactStateOk", spec := "fnExactStateOk", inPlace := ["internal/bytealg.abigen_runtime_cmpstring", "slices.overlaps[loop.example/g00360/impl.Point]", "slices.overlaps[loop.example/g00360/impl.Series]"], unfollowed := true, recurses := true, apart := false }
def FnExactStateOkSaid : Prop := fnExactStateOkRow.holds Tryz.pinned (OpenSpec.ofChange fnExactStateOkSpec)

/-- ITS FALSE NEIGHBOUR: 'it returns false'. Refute it at one input. -/
def fnExactStateOkWrong : ChangeSpec := { name := "fnExactStateOk", fn := fun _ => fun
  | [d] => { results := [.lit (.bool false)], args := [d] }
  | _ => none }
def FnExactStateOkWrongFalsely : Prop := fnExactStateOkRow.holds Tryz.pinned (OpenSpec.ofChange fnExactStateOkWrong)

/-- 'laws.FnExactShowState': WHATEVER THE INPUT: true; the input reads as it did. -/
def fnExactShowStateSpec : ChangeSpec := { name := "fnExactShowState", fn := fun _ => fun
  | [d] => { results := [.lit (.bool true)], args := [d] }
  | _ => none }
def fnExactShowStateRow : OpenClaim := { program := "ytnoapekdbmpiaaagreat", sum := "c1e06b35e5d872238120e9df640e16ba40060e71dfc0e31caa0353567b19f78d", func := "loop.example/g00360/laws.FnExactShowState", spec := "fnExactShowState", inPlace := ["internal/bytealg.abigen_runtime_cmpstring", "slices.overlaps[loop.example/g00360/impl.Point]", "slices.overlaps[loop.example/g00360/impl.Series]"], unfollowed := true, recurses := true, apart := false }
def FnExactShowStateSaid : Prop := fnExactShowStateRow.holds Tryz.pinned (OpenSpec.ofChange fnExactShowStateSpec)

/-- ITS FALSE NEIGHBOUR: 'it returns false'. Refute it at one input. -/
def fnExactShowStateWrong : ChangeSpec := { name := "fnExactShowState", fn := fun _ => fun
  | [d] => { results := [.lit (.bool false)], args := [d] }
  | _ => none }
def FnExactShowStateWrongFalsely : Prop := fnExactShowStateRow.holds Tryz.pinned (OpenSpec.ofChange fnExactShowStateWrong)

/-- 'laws.FnSame': WHATEVER THE INPUT: true; the input reads as it did. -/
def fnSameSpec : ChangeSpec := { name := "fnSame", fn := fun _ => fun
  | [d] => { results := [.lit (.bool true)], args := [d] }
  | _ => none }
def fnSameRow : OpenClaim := { program := "ytnoapekdbmpiaaagreat", sum := "c1e06b35e5d872238120e9df640e16ba40060e71dfc0e31caa0353567b19f78d", func := "loop.example/g00360/laws.FnSame", spec := "fnSame", inPlace := ["internal/bytealg.abigen_runtime_cmpstring", "slices.overlaps[loop.example/g00360/impl.Point]", "slices.overlaps[loop.example/g00360/impl.Series]"], unfollowed := true, recurses := true, apart := false }
def FnSameSaid : Prop := fnSameRow.holds Tryz.pinned (OpenSpec.ofChange fnSameSpec)

/-- ITS FALSE NEIGHBOUR: 'it returns false'. Refute it at one input. -/
def fnSameWrong : ChangeSpec := { name := "fnSame", fn := fun _ => fun
  | [d] => { results := [.lit (.bool false)], args := [d] }
  | _ => none }
def FnSameWrongFalsely : Prop := fnSameRow.holds Tryz.pinned (OpenSpec.ofChange fnSameWrong)

/-- 'laws.FnRaise': WHATEVER THE INPUT: true; the input reads as it did. -/
def fnRaiseSpec : ChangeSpec := { name := "fnRaise", fn := fun _ => fun
  | [d] => { results := [.lit (.bool true)], args := [d] }
  | _ => none }
def fnRaiseRow : OpenClaim := { program := "ytnoapekdbmpiaaagreat", sum := "c1e06b35e5d872238120e9df640e16ba40060e71dfc0e31caa0353567b19f78d", func := "loop.example/g00360/laws.FnRaise", spec := "fnRaise", inPlace := ["internal/bytealg.abigen_runtime_cmpstring", "slices.overlaps[loop.example/g00360/impl.Point]", "slices.overlaps[loop.example/g00360/impl.Series]"], unfollowed := true, recurses := true, apart := false }
def FnRaiseSaid : Prop := fnRaiseRow.holds Tryz.pinned (OpenSpec.ofChange fnRaiseSpec)

/-- ITS FALSE NEIGHBOUR: 'it returns false'. Refute it at one input. -/
def fnRaiseWrong : ChangeSpec := { name := "fnRaise", fn := fun _ => fun
  | [d] => { results := [.lit (.bool false)], args := [d] }
  | _ => none }
def FnRaiseWrongFalsely : Prop := fnRaiseRow.holds Tryz.pinned (OpenSpec.ofChange fnRaiseWrong)

/-- 'laws.FnPut': WHATEVER THE INPUT: true; the input reads as it did. -/
def fnPutSpec : ChangeSpec := { name := "fnPut", fn := fun _ => fun
  | [d] => { results := [.lit (.bool true)], args := [d] }
  | _ => none }
def fnPutRow : OpenClaim := { program := "ytnoapekdbmpiaaagreat", sum := "c1e06b35e5d872238120e9df640e16ba40060e71dfc0e31caa0353567b19f78d", func := "loop.example/g00360/laws.FnPut", spec := "fnPut", inPlace := ["internal/bytealg.abigen_runtime_cmpstring", "slices.overlaps[loop.example/g00360/impl.Point]", "slices.overlaps[loop.example/g00360/impl.Series]"], unfollowed := true, recurses := true, apart := false }
def FnPutSaid : Prop := fnPutRow.holds Tryz.pinned (OpenSpec.ofChange fnPutSpec)

/-- ITS FALSE NEIGHBOUR: 'it returns false'. Refute it at one input. -/
def fnPutWrong : ChangeSpec := { name := "fnPut", fn := fun _ => fun
  | [d] => { results := [.lit (.bool false)], args := [d] }
  | _ => none }
def FnPutWrongFalsely : Prop := fnPutRow.holds Tryz.pinned (OpenSpec.ofChange fnPutWrong)

/- THE SECOND FORM. 'bulk': how many values and letters a reading holds, each counted each time it is reached (what is shared counts as often as it is met; a slice's spare places count too). A statement '..UptoSaid' is the law's where the arguments, and the package variables that the reading takes, are together of bulk at most 1048576: NARROWER than '..Said'. Prove '..Said' where nothing that the law and all that it calls make is longer than what came in: it says more and counts as full. Else prove '..UptoSaid'. A law counts once. -/
mutual
def uptoBulk {H : Type} : DataW H → Nat
  | .lit (.string bytes) => bytes.length + 1
  | .lit _ => 1
  | .nil => 1
  | .ptr d => uptoBulk d + 1
  | .slice elems spare => uptoBulkAll elems + uptoBulkAll spare + 1
  | .agg parts => uptoBulkAll parts + 1
  | .iface _ d => uptoBulk d + 1
  | .map entries => uptoBulkEntries entries + 1
  | .held _ => 1
def uptoBulkAll {H : Type} : List (DataW H) → Nat
  | [] => 0
  | d :: r => uptoBulk d + uptoBulkAll r
def uptoBulkEntries {H : Type} : List (Lit × DataW H) → Nat
  | [] => 0
  | x :: r => uptoBulkEntry x + uptoBulkEntries r
def uptoBulkEntry {H : Type} : Lit × DataW H → Nat
  | (.string bytes, d) => bytes.length + uptoBulk d + 1
  | (_, d) => uptoBulk d + 1
 end
def uptoSmall : (H : Type) → List (DataW H) → Bool := fun _ ds => decide (uptoBulkAll ds ≤ 1048576)
def OpenSpec.upto (s : _root_.Go.ChangeSpec) : _root_.Go.OpenSpec := { _root_.Go.OpenSpec.ofChange s with cond := some uptoSmall }

/-- 'laws.FnExactQuery', WHERE WHAT IT READS IS OF BULK AT MOST 1048576: true; the input reads as it did. -/
def fnExactQueryUptoRow : OpenClaim := { program := "ytnoapekdbmpiaaagreat", sum := "c1e06b35e5d872238120e9df640e16ba40060e71dfc0e31caa0353567b19f78d", func := "loop.example/g00360/laws.FnExactQuery", spec := "fnExactQuery", inPlace := ["internal/bytealg.abigen_runtime_cmpstring", "slices.overlaps[loop.example/g00360/impl.Point]", "slices.overlaps[loop.example/g00360/impl.Series]"], unfollowed := true, recurses := true, apart := false, narrowed := true }
def FnExactQueryUptoSaid : Prop := fnExactQueryUptoRow.holds Tryz.pinned (OpenSpec.upto fnExactQuerySpec)

/-- 'laws.FnExactPlain', WHERE WHAT IT READS IS OF BULK AT MOST 1048576: true; the input reads as it did. -/
def fnExactPlainUptoRow : OpenClaim := { program := "ytnoapekdbmpiaaagreat", sum := "c1e06b35e5d872238120e9df640e16ba40060e71dfc0e31caa0353567b19f78d", func := "loop.example/g00360/laws.FnExactPlain", spec := "fnExactPlain", inPlace := ["internal/bytealg.abigen_runtime_cmpstring", "slices.overlaps[loop.example/g00360/impl.Point]", "slices.overlaps[loop.example/g00360/impl.Series]"], unfollowed := true, recurses := true, apart := false, narrowed := true }
def FnExactPlainUptoSaid : Prop := fnExactPlainUptoRow.holds Tryz.pinned (OpenSpec.upto fnExactPlainSpec)

/-- 'laws.FnExactRaise', WHERE WHAT IT READS IS OF BULK AT MOST 1048576: true; the input reads as it did. -/
def fnExactRaiseUptoRow : OpenClaim := { program := "ytnoapekdbmpiaaagreat", sum := "c1e06b35e5d872238120e9df640e16ba40060e71dfc0e31caa0353567b19f78d", func := "loop.example/g00360/laws.FnExactRaise", spec := "fnExactRaise", inPlace := ["internal/bytealg.abigen_runtime_cmpstring", "slices.overlaps[loop.example/g00360/impl.Point]", "slices.overlaps[loop.example/g00360/impl.Series]"], unfollowed := true, recurses := true, apart := false, narrowed := true }
def FnExactRaiseUptoSaid : Prop := fnExactRaiseUptoRow.holds Tryz.pinned (OpenSpec.upto fnExactRaiseSpec)

/-- 'laws.FnExactFlush', WHERE WHAT IT READS IS OF BULK AT MOST 1048576: true; the input reads as it did. -/
def fnExactFlushUptoRow : OpenClaim := { program := "ytnoapekdbmpiaaagreat", sum := "c1e06b35e5d872238120e9df640e16ba40060e71dfc0e31caa0353567b19f78d", func := "loop.example/g00360/laws.FnExactFlush", spec := "fnExactFlush", inPlace := ["internal/bytealg.abigen_runtime_cmpstring", "slices.overlaps[loop.example/g00360/impl.Point]", "slices.overlaps[loop.example/g00360/impl.Series]"], unfollowed := true, recurses := true, apart := false, narrowed := true }
def FnExactFlushUptoSaid : Prop := fnExactFlushUptoRow.holds Tryz.pinned (OpenSpec.upto fnExactFlushSpec)

/-- 'laws.FnExactPack', WHERE WHAT IT READS IS OF BULK AT MOST 1048576: true; the input reads as it did. -/
def fnExactPackUptoRow : OpenClaim := { program := "ytnoapekdbmpiaaagreat", sum := "c1e06b35e5d872238120e9df640e16ba40060e71dfc0e31caa0353567b19f78d", func := "loop.example/g00360/laws.FnExactPack", spec := "fnExactPack", inPlace := ["internal/bytealg.abigen_runtime_cmpstring", "slices.overlaps[loop.example/g00360/impl.Point]", "slices.overlaps[loop.example/g00360/impl.Series]"], unfollowed := true, recurses := true, apart := false, narrowed := true }
def FnExactPackUptoSaid : Prop := fnExactPackUptoRow.holds Tryz.pinned (OpenSpec.upto fnExactPackSpec)

/-- 'laws.FnExactPut', WHERE WHAT IT READS IS OF BULK AT MOST 1048576: true; the input reads as it did. -/
def fnExactPutUptoRow : OpenClaim := { program := "ytnoapekdbmpiaaagreat", sum := "c1e06b35e5d872238120e9df640e16ba40060e71dfc0e31caa0353567b19f78d", func := "loop.example/g00360/laws.FnExactPut", spec := "fnExactPut", inPlace := ["internal/bytealg.abigen_runtime_cmpstring", "slices.overlaps[loop.example/g00360/impl.Point]", "slices.overlaps[loop.example/g00360/impl.Series]"], unfollowed := true, recurses := true, apart := false, narrowed := true }
def FnExactPutUptoSaid : Prop := fnExactPutUptoRow.holds Tryz.pinned (OpenSpec.upto fnExactPutSpec)

/-- 'laws.FnExactStateOk', WHERE WHAT IT READS IS OF BULK AT MOST 1048576: true; the input reads as it did. -/
def fnExactStateOkUptoRow : OpenClaim := { program := "ytnoapekdbmpiaaagreat", sum := "c1e06b35e5d872238120e9df640e16ba40060e71dfc0e31caa0353567b19f78d", func := "loop.example/g00360/laws.FnExactStateOk", spec := "fnExactStateOk", inPlace := ["internal/bytealg.abigen_runtime_cmpstring", "slices.overlaps[loop.example/g00360/impl.Point]", "slices.overlaps[loop.example/g00360/impl.Series]"], unfollowed := true, recurses := true, apart := false, narrowed := true }
def FnExactStateOkUptoSaid : Prop := fnExactStateOkUptoRow.holds Tryz.pinned (OpenSpec.upto fnExactStateOkSpec)

/-- 'laws.FnExactShowState', WHERE WHAT IT READS IS OF BULK AT MOST 1048576: true; the input reads as it did. -/
def fnExactShowStateUptoRow : OpenClaim := { program := "ytnoapekdbmpiaaagreat", sum := "c1e06b35e5d872238120e9df640e16ba40060e71dfc0e31caa0353567b19f78d", func := "loop.example/g00360/laws.FnExactShowState", spec := "fnExactShowState", inPlace := ["internal/bytealg.abigen_runtime_cmpstring", "slices.overlaps[loop.example/g00360/impl.Point]", "slices.overlaps[loop.example/g00360/impl.Series]"], unfollowed := true, recurses := true, apart := false, narrowed := true }
def FnExactShowStateUptoSaid : Prop := fnExactShowStateUptoRow.holds Tryz.pinned (OpenSpec.upto fnExactShowStateSpec)

/-- 'laws.FnSame', WHERE WHAT IT READS IS OF BULK AT MOST 1048576: true; the input reads as it did. -/
def fnSameUptoRow : OpenClaim := { program := "ytnoapekdbmpiaaagreat", sum := "c1e06b35e5d872238120e9df640e16ba40060e71dfc0e31caa0353567b19f78d", func := "loop.example/g00360/laws.FnSame", spec := "fnSame", inPlace := ["internal/bytealg.abigen_runtime_cmpstring", "slices.overlaps[loop.example/g00360/impl.Point]", "slices.overlaps[loop.example/g00360/impl.Series]"], unfollowed := true, recurses := true, apart := false, narrowed := true }
def FnSameUptoSaid : Prop := fnSameUptoRow.holds Tryz.pinned (OpenSpec.upto fnSameSpec)

/-- 'laws.FnRaise', WHERE WHAT IT READS IS OF BULK AT MOST 1048576: true; the input reads as it did. -/
def fnRaiseUptoRow : OpenClaim := { program := "ytnoapekdbmpiaaagreat", sum := "c1e06b35e5d872238120e9df640e16ba40060e71dfc0e31caa0353567b19f78d", func := "loop.example/g00360/laws.FnRaise", spec := "fnRaise", inPlace := ["internal/bytealg.abigen_runtime_cmpstring", "slices.overlaps[loop.example/g00360/impl.Point]", "slices.overlaps[loop.example/g00360/impl.Series]"], unfollowed := true, recurses := true, apart := false, narrowed := true }
def FnRaiseUptoSaid : Prop := fnRaiseUptoRow.holds Tryz.pinned (OpenSpec.upto fnRaiseSpec)

/-- 'laws.FnPut', WHERE WHAT IT READS IS OF BULK AT MOST 1048576: true; the input reads as it did. -/
def fnPutUptoRow : OpenClaim := { program := "ytnoapekdbmpiaaagreat", sum := "c1e06b35e5d872238120e9df640e16ba40060e71dfc0e31caa0353567b19f78d", func := "loop.example/g00360/laws.FnPut", spec := "fnPut", inPlace := ["internal/bytealg.abigen_runtime_cmpstring", "slices.overlaps[loop.example/g00360/impl.Point]", "slices.overlaps[loop.example/g00360/impl.Series]"], unfollowed := true, recurses := true, apart := false, narrowed := true }
def FnPutUptoSaid : Prop := fnPutUptoRow.holds Tryz.pinned (OpenSpec.upto fnPutSpec)

end Rows
end Go.Proofs.YtnoapekdbmpiaaaGreat
