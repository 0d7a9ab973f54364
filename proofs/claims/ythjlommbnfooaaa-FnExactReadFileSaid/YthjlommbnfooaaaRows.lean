/-
  No cell of these rows narrows 'for every input' (looked for: loops, veiled, ifaces, maps, wideKeys, modest, calm, conditions, laid).
  DERIVED. THE GIVEN ROWS OF THIS SEAT. 12 by the template 'for every input the law returns true; each argument reads behind the call as it read before'; 0 by the template 'total and deterministic' (their statements: YthjlommbnfooaaaTotals.lean).
  GIVEN WITH THE SEED: the statements are not yours to turn. If you find one false, say at which input.
  Laid BY PROGRAM, IN A SANDBOX (cutbox-rows.mjs): the forced cells as the released guide's own fill.sh prints them over the translation 166b085d0dc6fa24… (all of the seat's roots in one cut). By AI agents, Wed Nov 11 2026. No macro, syntax, notation, axiom, sorry.
-/
import Derived.Test.YthjlommbnfooaaaChecked
import GoSem.Claim
import GoSem.ClaimJoined
import GoSem.ClaimMapViews
import Derived.JoinedTies
import Derived.KernelRfl
namespace Go.Proofs.Ythjlommbnfooaaa
/- THE CELL 'sum', in the pinned program and in every row, IS THE sha256 OF THE DUMP (.gsa) THAT YthjlommbnfooaaaProg.lean LOADS. Nothing in Lean hashes anything: it is a label: what it is worth is what the hold of that sum in a sandbox is worth. -/
noncomputable def Try.pinned : Pinned := { name := "ythjlommbnfooaaa", sum := "166b085d0dc6fa2442816d775ae96bb3b6e85833e7938d334830aefbb7156a60", checked := Try.checked }
namespace Rows
def none {H : Type} : Left H := { results := [], args := [] }

/-- 'laws.FnExactCoreOk': WHATEVER THE INPUT: true; the input reads as it did. -/
def fnExactCoreOkSpec : ChangeSpec := { name := "fnExactCoreOk", fn := fun _ => fun
  | [d] => { results := [.lit (.bool true)], args := [d] }
  | _ => none }
def fnExactCoreOkRow : OpenClaim := { program := "ythjlommbnfooaaa", sum := "166b085d0dc6fa2442816d775ae96bb3b6e85833e7938d334830aefbb7156a60", func := "loop.example/g00360/laws.FnExactCoreOk", spec := "fnExactCoreOk", apart := false }
def FnExactCoreOkSaid : Prop := fnExactCoreOkRow.holds Try.pinned (OpenSpec.ofChange fnExactCoreOkSpec)

/-- ITS FALSE NEIGHBOUR: 'it returns false'. Refute it at one input. -/
def fnExactCoreOkWrong : ChangeSpec := { name := "fnExactCoreOk", fn := fun _ => fun
  | [d] => { results := [.lit (.bool false)], args := [d] }
  | _ => none }
def FnExactCoreOkWrongFalsely : Prop := fnExactCoreOkRow.holds Try.pinned (OpenSpec.ofChange fnExactCoreOkWrong)

/-- 'laws.FnExactNewState': WHATEVER THE INPUT: true; the input reads as it did. -/
def fnExactNewStateSpec : ChangeSpec := { name := "fnExactNewState", fn := fun _ => fun
  | [d] => { results := [.lit (.bool true)], args := [d] }
  | _ => none }
def fnExactNewStateRow : OpenClaim := { program := "ythjlommbnfooaaa", sum := "166b085d0dc6fa2442816d775ae96bb3b6e85833e7938d334830aefbb7156a60", func := "loop.example/g00360/laws.FnExactNewState", spec := "fnExactNewState", apart := false }
def FnExactNewStateSaid : Prop := fnExactNewStateRow.holds Try.pinned (OpenSpec.ofChange fnExactNewStateSpec)

/-- ITS FALSE NEIGHBOUR: 'it returns false'. Refute it at one input. -/
def fnExactNewStateWrong : ChangeSpec := { name := "fnExactNewState", fn := fun _ => fun
  | [d] => { results := [.lit (.bool false)], args := [d] }
  | _ => none }
def FnExactNewStateWrongFalsely : Prop := fnExactNewStateRow.holds Try.pinned (OpenSpec.ofChange fnExactNewStateWrong)

/-- 'laws.FnExactFileText': WHATEVER THE INPUT: true; the input reads as it did. -/
def fnExactFileTextSpec : ChangeSpec := { name := "fnExactFileText", fn := fun _ => fun
  | [d] => { results := [.lit (.bool true)], args := [d] }
  | _ => none }
def fnExactFileTextRow : OpenClaim := { program := "ythjlommbnfooaaa", sum := "166b085d0dc6fa2442816d775ae96bb3b6e85833e7938d334830aefbb7156a60", func := "loop.example/g00360/laws.FnExactFileText", spec := "fnExactFileText", apart := false }
def FnExactFileTextSaid : Prop := fnExactFileTextRow.holds Try.pinned (OpenSpec.ofChange fnExactFileTextSpec)

/-- ITS FALSE NEIGHBOUR: 'it returns false'. Refute it at one input. -/
def fnExactFileTextWrong : ChangeSpec := { name := "fnExactFileText", fn := fun _ => fun
  | [d] => { results := [.lit (.bool false)], args := [d] }
  | _ => none }
def FnExactFileTextWrongFalsely : Prop := fnExactFileTextRow.holds Try.pinned (OpenSpec.ofChange fnExactFileTextWrong)

/-- 'laws.FnExactReadBlock': WHATEVER THE INPUT: true; the input reads as it did. -/
def fnExactReadBlockSpec : ChangeSpec := { name := "fnExactReadBlock", fn := fun _ => fun
  | [d] => { results := [.lit (.bool true)], args := [d] }
  | _ => none }
def fnExactReadBlockRow : OpenClaim := { program := "ythjlommbnfooaaa", sum := "166b085d0dc6fa2442816d775ae96bb3b6e85833e7938d334830aefbb7156a60", func := "loop.example/g00360/laws.FnExactReadBlock", spec := "fnExactReadBlock", apart := false }
def FnExactReadBlockSaid : Prop := fnExactReadBlockRow.holds Try.pinned (OpenSpec.ofChange fnExactReadBlockSpec)

/-- ITS FALSE NEIGHBOUR: 'it returns false'. Refute it at one input. -/
def fnExactReadBlockWrong : ChangeSpec := { name := "fnExactReadBlock", fn := fun _ => fun
  | [d] => { results := [.lit (.bool false)], args := [d] }
  | _ => none }
def FnExactReadBlockWrongFalsely : Prop := fnExactReadBlockRow.holds Try.pinned (OpenSpec.ofChange fnExactReadBlockWrong)

/-- 'laws.FnExactOpOk': WHATEVER THE INPUT: true; the input reads as it did. -/
def fnExactOpOkSpec : ChangeSpec := { name := "fnExactOpOk", fn := fun _ => fun
  | [d] => { results := [.lit (.bool true)], args := [d] }
  | _ => none }
def fnExactOpOkRow : OpenClaim := { program := "ythjlommbnfooaaa", sum := "166b085d0dc6fa2442816d775ae96bb3b6e85833e7938d334830aefbb7156a60", func := "loop.example/g00360/laws.FnExactOpOk", spec := "fnExactOpOk", apart := false }
def FnExactOpOkSaid : Prop := fnExactOpOkRow.holds Try.pinned (OpenSpec.ofChange fnExactOpOkSpec)

/-- ITS FALSE NEIGHBOUR: 'it returns false'. Refute it at one input. -/
def fnExactOpOkWrong : ChangeSpec := { name := "fnExactOpOk", fn := fun _ => fun
  | [d] => { results := [.lit (.bool false)], args := [d] }
  | _ => none }
def FnExactOpOkWrongFalsely : Prop := fnExactOpOkRow.holds Try.pinned (OpenSpec.ofChange fnExactOpOkWrong)

/-- 'laws.FnExactShowOp': WHATEVER THE INPUT: true; the input reads as it did. -/
def fnExactShowOpSpec : ChangeSpec := { name := "fnExactShowOp", fn := fun _ => fun
  | [d] => { results := [.lit (.bool true)], args := [d] }
  | _ => none }
def fnExactShowOpRow : OpenClaim := { program := "ythjlommbnfooaaa", sum := "166b085d0dc6fa2442816d775ae96bb3b6e85833e7938d334830aefbb7156a60", func := "loop.example/g00360/laws.FnExactShowOp", spec := "fnExactShowOp", apart := false }
def FnExactShowOpSaid : Prop := fnExactShowOpRow.holds Try.pinned (OpenSpec.ofChange fnExactShowOpSpec)

/-- ITS FALSE NEIGHBOUR: 'it returns false'. Refute it at one input. -/
def fnExactShowOpWrong : ChangeSpec := { name := "fnExactShowOp", fn := fun _ => fun
  | [d] => { results := [.lit (.bool false)], args := [d] }
  | _ => none }
def FnExactShowOpWrongFalsely : Prop := fnExactShowOpRow.holds Try.pinned (OpenSpec.ofChange fnExactShowOpWrong)

/-- 'laws.FnExactShowCmd': WHATEVER THE INPUT: true; the input reads as it did. -/
def fnExactShowCmdSpec : ChangeSpec := { name := "fnExactShowCmd", fn := fun _ => fun
  | [d] => { results := [.lit (.bool true)], args := [d] }
  | _ => none }
def fnExactShowCmdRow : OpenClaim := { program := "ythjlommbnfooaaa", sum := "166b085d0dc6fa2442816d775ae96bb3b6e85833e7938d334830aefbb7156a60", func := "loop.example/g00360/laws.FnExactShowCmd", spec := "fnExactShowCmd", apart := false }
def FnExactShowCmdSaid : Prop := fnExactShowCmdRow.holds Try.pinned (OpenSpec.ofChange fnExactShowCmdSpec)

/-- ITS FALSE NEIGHBOUR: 'it returns false'. Refute it at one input. -/
def fnExactShowCmdWrong : ChangeSpec := { name := "fnExactShowCmd", fn := fun _ => fun
  | [d] => { results := [.lit (.bool false)], args := [d] }
  | _ => none }
def FnExactShowCmdWrongFalsely : Prop := fnExactShowCmdRow.holds Try.pinned (OpenSpec.ofChange fnExactShowCmdWrong)

/-- 'laws.FnExactReadOp': WHATEVER THE INPUT: true; the input reads as it did. -/
def fnExactReadOpSpec : ChangeSpec := { name := "fnExactReadOp", fn := fun _ => fun
  | [d] => { results := [.lit (.bool true)], args := [d] }
  | _ => none }
def fnExactReadOpRow : OpenClaim := { program := "ythjlommbnfooaaa", sum := "166b085d0dc6fa2442816d775ae96bb3b6e85833e7938d334830aefbb7156a60", func := "loop.example/g00360/laws.FnExactReadOp", spec := "fnExactReadOp", apart := false }
def FnExactReadOpSaid : Prop := fnExactReadOpRow.holds Try.pinned (OpenSpec.ofChange fnExactReadOpSpec)

/-- ITS FALSE NEIGHBOUR: 'it returns false'. Refute it at one input. -/
def fnExactReadOpWrong : ChangeSpec := { name := "fnExactReadOp", fn := fun _ => fun
  | [d] => { results := [.lit (.bool false)], args := [d] }
  | _ => none }
def FnExactReadOpWrongFalsely : Prop := fnExactReadOpRow.holds Try.pinned (OpenSpec.ofChange fnExactReadOpWrong)

/-- 'laws.FnExactFileSpan': WHATEVER THE INPUT: true; the input reads as it did. -/
def fnExactFileSpanSpec : ChangeSpec := { name := "fnExactFileSpan", fn := fun _ => fun
  | [d] => { results := [.lit (.bool true)], args := [d] }
  | _ => none }
def fnExactFileSpanRow : OpenClaim := { program := "ythjlommbnfooaaa", sum := "166b085d0dc6fa2442816d775ae96bb3b6e85833e7938d334830aefbb7156a60", func := "loop.example/g00360/laws.FnExactFileSpan", spec := "fnExactFileSpan", apart := false }
def FnExactFileSpanSaid : Prop := fnExactFileSpanRow.holds Try.pinned (OpenSpec.ofChange fnExactFileSpanSpec)

/-- ITS FALSE NEIGHBOUR: 'it returns false'. Refute it at one input. -/
def fnExactFileSpanWrong : ChangeSpec := { name := "fnExactFileSpan", fn := fun _ => fun
  | [d] => { results := [.lit (.bool false)], args := [d] }
  | _ => none }
def FnExactFileSpanWrongFalsely : Prop := fnExactFileSpanRow.holds Try.pinned (OpenSpec.ofChange fnExactFileSpanWrong)

/-- 'laws.FnExactReadCmd': WHATEVER THE INPUT: true; the input reads as it did. -/
def fnExactReadCmdSpec : ChangeSpec := { name := "fnExactReadCmd", fn := fun _ => fun
  | [d] => { results := [.lit (.bool true)], args := [d] }
  | _ => none }
def fnExactReadCmdRow : OpenClaim := { program := "ythjlommbnfooaaa", sum := "166b085d0dc6fa2442816d775ae96bb3b6e85833e7938d334830aefbb7156a60", func := "loop.example/g00360/laws.FnExactReadCmd", spec := "fnExactReadCmd", apart := false }
def FnExactReadCmdSaid : Prop := fnExactReadCmdRow.holds Try.pinned (OpenSpec.ofChange fnExactReadCmdSpec)

/-- ITS FALSE NEIGHBOUR: 'it returns false'. Refute it at one input. -/
def fnExactReadCmdWrong : ChangeSpec := { name := "fnExactReadCmd", fn := fun _ => fun
  | [d] => { results := [.lit (.bool false)], args := [d] }
  | _ => none }
def FnExactReadCmdWrongFalsely : Prop := fnExactReadCmdRow.holds Try.pinned (OpenSpec.ofChange fnExactReadCmdWrong)

/-- 'laws.FnExactFileFind': WHATEVER THE INPUT: true; the input reads as it did. -/
def fnExactFileFindSpec : ChangeSpec := { name := "fnExactFileFind", fn := fun _ => fun
  | [d1, d2] => { results := [.lit (.bool true)], args := [d1, d2] }
  | _ => none }
def fnExactFileFindRow : OpenClaim := { program := "ythjlommbnfooaaa", sum := "166b085d0dc6fa2442816d775ae96bb3b6e85833e7938d334830aefbb7156a60", func := "loop.example/g00360/laws.FnExactFileFind", spec := "fnExactFileFind", apart := false }
def FnExactFileFindSaid : Prop := fnExactFileFindRow.holds Try.pinned (OpenSpec.ofChange fnExactFileFindSpec)

/-- ITS FALSE NEIGHBOUR: 'it returns false'. Refute it at one input. -/
def fnExactFileFindWrong : ChangeSpec := { name := "fnExactFileFind", fn := fun _ => fun
  | [d1, d2] => { results := [.lit (.bool false)], args := [d1, d2] }
  | _ => none }
def FnExactFileFindWrongFalsely : Prop := fnExactFileFindRow.holds Try.pinned (OpenSpec.ofChange fnExactFileFindWrong)

/-- 'laws.FnExactReadFile': WHATEVER THE INPUT: true; the input reads as it did. -/
def fnExactReadFileSpec : ChangeSpec := { name := "fnExactReadFile", fn := fun _ => fun
  | [d] => { results := [.lit (.bool true)], args := [d] }
  | _ => none }
def fnExactReadFileRow : OpenClaim := { program := "ythjlommbnfooaaa", sum := "166b085d0dc6fa2442816d775ae96bb3b6e85833e7938d334830aefbb7156a60", func := "loop.example/g00360/laws.FnExactReadFile", spec := "fnExactReadFile", apart := false }
def FnExactReadFileSaid : Prop := fnExactReadFileRow.holds Try.pinned (OpenSpec.ofChange fnExactReadFileSpec)

/-- ITS FALSE NEIGHBOUR: 'it returns false'. Refute it at one input. -/
def fnExactReadFileWrong : ChangeSpec := { name := "fnExactReadFile", fn := fun _ => fun
  | [d] => { results := [.lit (.bool false)], args := [d] }
  | _ => none }
def FnExactReadFileWrongFalsely : Prop := fnExactReadFileRow.holds Try.pinned (OpenSpec.ofChange fnExactReadFileWrong)

/- THE SECOND FORM. 'bulk': how many values and letters a reading holds, each counted each time it is reached (what is shared counts as often as it is met; a slice's spare places count too). A statement '..UptoSaid' is the law's where the arguments, and the package variables that the reading takes, are together of bulk at most 1048576: NARROWER than '..Said'. Prove '..Said' where nothing that the law and all that it calls make is longer than what came in: it says more and counts as full. Else prove '..UptoSaid'. A law counts once. -/
mutual
def uptoBulk {H : Type} : DataW H → Nat
  | .lit (.string bytes) => bytes.length + 1
  | .lit _ => 1
  | .nil => 1
  | .ptr d => uptoBulk d + 1
  | .slice elems spare => uptoBulkAll elems + uptoBulkAll spare + 1
  | .agg parts => uptoBulkAll parts + 1
  | .iface _ d => uptoBulk d + 1
  | .map entries => uptoBulkEntries entries + 1
  | .held _ => 1
def uptoBulkAll {H : Type} : List (DataW H) → Nat
  | [] => 0
  | d :: r => uptoBulk d + uptoBulkAll r
def uptoBulkEntries {H : Type} : List (Lit × DataW H) → Nat
  | [] => 0
  | x :: r => uptoBulkEntry x + uptoBulkEntries r
def uptoBulkEntry {H : Type} : Lit × DataW H → Nat
  | (.string bytes, d) => bytes.length + uptoBulk d + 1
  | (_, d) => uptoBulk d + 1
 end
def uptoSmall : (H : Type) → List (DataW H) → Bool := fun _ ds => decide (uptoBulkAll ds ≤ 1048576)
def OpenSpec.upto (s : _root_.Go.ChangeSpec) : _root_.Go.OpenSpec := { _root_.Go.OpenSpec.ofChange s with cond := some uptoSmall }

/-- 'laws.FnExactCoreOk', WHERE WHAT IT READS IS OF BULK AT MOST 1048576: true; the input reads as it did. -/
def fnExactCoreOkUptoRow : OpenClaim := { program := "ythjlommbnfooaaa", sum := "166b085d0dc6fa2442816d775ae96bb3b6e85833e7938d334830aefbb7156a60", func := "loop.example/g00360/laws.FnExactCoreOk", spec := "fnExactCoreOk", apart := false, narrowed := true }
def FnExactCoreOkUptoSaid : Prop := fnExactCoreOkUptoRow.holds Try.pinned (OpenSpec.upto fnExactCoreOkSpec)

/-- 'laws.FnExactNewState', WHERE WHAT IT READS IS OF BULK AT MOST 1048576: true; the input reads as it did. -/
def fnExactNewStateUptoRow : OpenClaim := { program := "ythjlommbnfooaaa", sum := "166b085d0dc6fa2442816d775ae96bb3b6e85833e7938d334830aefbb7156a60", func := "loop.example/g00360/laws.FnExactNewState", spec := "fnExactNewState", apart := false, narrowed := true }
def FnExactNewStateUptoSaid : Prop := fnExactNewStateUptoRow.holds Try.pinned (OpenSpec.upto fnExactNewStateSpec)

/-- 'laws.FnExactFileText', WHERE WHAT IT READS IS OF BULK AT MOST 1048576: true; the input reads as it did. -/
def fnExactFileTextUptoRow : OpenClaim := { program := "ythjlommbnfooaaa", sum := "166b085d0dc6fa2442816d775ae96bb3b6e85833e7938d334830aefbb7156a60", func := "loop.example/g00360/laws.FnExactFileText", spec := "fnExactFileText", apart := false, narrowed := true }
def FnExactFileTextUptoSaid : Prop := fnExactFileTextUptoRow.holds Try.pinned (OpenSpec.upto fnExactFileTextSpec)

/-- 'laws.FnExactReadBlock', WHERE WHAT IT READS IS OF BULK AT MOST 1048576: true; the input reads as it did. -/
def fnExactReadBlockUptoRow : OpenClaim := { program := "ythjlommbnfooaaa", sum := "166b085d0dc6fa2442816d775ae96bb3b6e85833e7938d334830aefbb7156a60", func := "loop.example/g00360/laws.FnExactReadBlock", spec := "fnExactReadBlock", apart := false, narrowed := true }
def FnExactReadBlockUptoSaid : Prop := fnExactReadBlockUptoRow.holds Try.pinned (OpenSpec.upto fnExactReadBlockSpec)

/-- 'laws.FnExactOpOk', WHERE WHAT IT READS IS OF BULK AT MOST 1048576: true; the input reads as it did. -/
def fnExactOpOkUptoRow : OpenClaim := { program := "ythjlommbnfooaaa", sum := "166b085d0dc6fa2442816d775ae96bb3b6e85833e7938d334830aefbb7156a60", func := "loop.example/g00360/laws.FnExactOpOk", spec := "fnExactOpOk", apart := false, narrowed := true }
def FnExactOpOkUptoSaid : Prop := fnExactOpOkUptoRow.holds Try.pinned (OpenSpec.upto fnExactOpOkSpec)

/-- 'laws.FnExactShowOp', WHERE WHAT IT READS IS OF BULK AT MOST 1048576: true; the input reads as it did. -/
def fnExactShowOpUptoRow : OpenClaim := { program := "ythjlommbnfooaaa", sum := "166b085d0dc6fa2442816d775ae96bb3b6e85833e7938d334830aefbb7156a60", func := "loop.example/g00360/laws.FnExactShowOp", spec := "fnExactShowOp", apart := false, narrowed := true }
def FnExactShowOpUptoSaid : Prop := fnExactShowOpUptoRow.holds Try.pinned (OpenSpec.upto fnExactShowOpSpec)

/-- 'laws.FnExactShowCmd', WHERE WHAT IT READS IS OF BULK AT MOST 1048576: true; the input reads as it did. -/
def fnExactShowCmdUptoRow : OpenClaim := { program := "ythjlommbnfooaaa", sum := "166b085d0dc6fa2442816d775ae96bb3b6e85833e7938d334830aefbb7156a60", func := "loop.example/g00360/laws.FnExactShowCmd", spec := "fnExactShowCmd", apart := false, narrowed := true }
def FnExactShowCmdUptoSaid : Prop := fnExactShowCmdUptoRow.holds Try.pinned (OpenSpec.upto fnExactShowCmdSpec)

/-- 'laws.FnExactReadOp', WHERE WHAT IT READS IS OF BULK AT MOST 1048576: true; the input reads as it did. -/
def fnExactReadOpUptoRow : OpenClaim := { program := "ythjlommbnfooaaa", sum := "166b085d0dc6fa2442816d775ae96bb3b6e85833e7938d334830aefbb7156a60", func := "loop.example/g00360/laws.FnExactReadOp", spec := "fnExactReadOp", apart := false, narrowed := true }
def FnExactReadOpUptoSaid : Prop := fnExactReadOpUptoRow.holds Try.pinned (OpenSpec.upto fnExactReadOpSpec)

/-- 'laws.FnExactFileSpan', WHERE WHAT IT READS IS OF BULK AT MOST 1048576: true; the input reads as it did. -/
def fnExactFileSpanUptoRow : OpenClaim := { program := "ythjlommbnfooaaa", sum := "166b085d0dc6fa2442816d775ae96bb3b6e85833e7938d334830aefbb7156a60", func := "loop.example/g00360/laws.FnExactFileSpan", spec := "fnExactFileSpan", apart := false, narrowed := true }
def FnExactFileSpanUptoSaid : Prop := fnExactFileSpanUptoRow.holds Try.pinned (OpenSpec.upto fnExactFileSpanSpec)

/-- 'laws.FnExactReadCmd', WHERE WHAT IT READS IS OF BULK AT MOST 1048576: true; the input reads as it did. -/
def fnExactReadCmdUptoRow : OpenClaim := { program := "ythjlommbnfooaaa", sum := "166b085d0dc6fa2442816d775ae96bb3b6e85833e7938d334830aefbb7156a60", func := "loop.example/g00360/laws.FnExactReadCmd", spec := "fnExactReadCmd", apart := false, narrowed := true }
def FnExactReadCmdUptoSaid : Prop := fnExactReadCmdUptoRow.holds Try.pinned (OpenSpec.upto fnExactReadCmdSpec)

/-- 'laws.FnExactFileFind', WHERE WHAT IT READS IS OF BULK AT MOST 1048576: true; the input reads as it did. -/
def fnExactFileFindUptoRow : OpenClaim := { program := "ythjlommbnfooaaa", sum := "166b085d0dc6fa2442816d775ae96bb3b6e85833e7938d334830aefbb7156a60", func := "loop.example/g00360/laws.FnExactFileFind", spec := "fnExactFileFind", apart := false, narrowed := true }
def FnExactFileFindUptoSaid : Prop := fnExactFileFindUptoRow.holds Try.pinned (OpenSpec.upto fnExactFileFindSpec)

/-- 'laws.FnExactReadFile', WHERE WHAT IT READS IS OF BULK AT MOST 1048576: true; the input reads as it did. -/
def fnExactReadFileUptoRow : OpenClaim := { program := "ythjlommbnfooaaa", sum := "166b085d0dc6fa2442816d775ae96bb3b6e85833e7938d334830aefbb7156a60", func := "loop.example/g00360/laws.FnExactReadFile", spec := "fnExactReadFile", apart := false, narrowed := true }
def FnExactReadFileUptoSaid : Prop := fnExactReadFileUptoRow.holds Try.pinned (OpenSpec.upto fnExactReadFileSpec)

end Rows
end Go.Proofs.Ythjlommbnfooaaa
