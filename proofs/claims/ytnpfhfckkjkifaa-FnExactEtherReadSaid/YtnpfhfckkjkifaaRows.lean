/-
  No cell of these rows narrows 'for every input' (looked for: loops, veiled, ifaces, maps, wideKeys, modest, calm, conditions, laid).
  DERIVED. THE GIVEN ROWS OF THIS SEAT. 12 by the template 'for every input the law returns true; each argument reads behind the call as it read before'; 0 by the template 'total and deterministic' (their statements: YtnpfhfckkjkifaaTotals.lean).
  GIVEN WITH THE SEED: the statements are not yours to turn. If you find one false, say at which input.
  Laid BY PROGRAM, IN A SANDBOX (cutbox-rows.mjs): the forced cells as the released guide's own fill.sh prints them over the translation 1daf203874c2d4a6… (all of the seat's roots in one cut). By AI agents, Wed Nov 11 2026. No macro, syntax, notation, axiom, sorry.
-/
import Derived.Test.YtnpfhfckkjkifaaChecked
import GoSem.Claim
import GoSem.ClaimJoined
import GoSem.ClaimMapViews
import Derived.JoinedTies
import Derived.KernelRfl
namespace Go.Proofs.Ytnpfhfckkjkifaa
/- THE CELL 'sum', in the pinned program and in every row, IS THE sha256 OF THE DUMP (.gsa) THAT YtnpfhfckkjkifaaProg.lean LOADS. Nothing in Lean hashes anything: it is a label: what it is worth is what the hold of that sum in a sandbox is worth. -/
noncomputable def Try.pinned : Pinned := { name := "ytnpfhfckkjkifaa", sum := "1daf203874c2d4a68fdcc5d776d2a6db42128fd6bd596754e08ea3a826a04ea8", checked := Try.checked }
namespace Rows
def none {H : Type} : Left H := { results := [], args := [] }

/-- 'laws.FnExactPut32': WHATEVER THE INPUT: true; the input reads as it did. -/
def fnExactPut32Spec : ChangeSpec := { name := "fnExactPut32", fn := fun _ => fun
  | [d] => { results := [.lit (.bool true)], args := [d] }
  | _ => none }
def fnExactPut32Row : OpenClaim := { program := "ytnpfhfckkjkifaa", sum := "1daf203874c2d4a68fdcc5d776d2a6db42128fd6bd596754e08ea3a826a04ea8", func := "loop.example/g00655/laws.FnExactPut32", spec := "fnExactPut32", apart := false }
def FnExactPut32Said : Prop := fnExactPut32Row.holds Try.pinned (OpenSpec.ofChange fnExactPut32Spec)

/-- ITS FALSE NEIGHBOUR: 'it returns false'. Refute it at one input. -/
def fnExactPut32Wrong : ChangeSpec := { name := "fnExactPut32", fn := fun _ => fun
  | [d] => { results := [.lit (.bool false)], args := [d] }
  | _ => none }
def FnExactPut32WrongFalsely : Prop := fnExactPut32Row.holds Try.pinned (OpenSpec.ofChange fnExactPut32Wrong)

/-- 'laws.FnExactKeyOk': WHATEVER THE INPUT: true; the input reads as it did. -/
def fnExactKeyOkSpec : ChangeSpec := { name := "fnExactKeyOk", fn := fun _ => fun
  | [d] => { results := [.lit (.bool true)], args := [d] }
  | _ => none }
def fnExactKeyOkRow : OpenClaim := { program := "ytnpfhfckkjkifaa", sum := "1daf203874c2d4a68fdcc5d776d2a6db42128fd6bd596754e08ea3a826a04ea8", func := "loop.example/g00655/laws.FnExactKeyOk", spec := "fnExactKeyOk", apart := false }
def FnExactKeyOkSaid : Prop := fnExactKeyOkRow.holds Try.pinned (OpenSpec.ofChange fnExactKeyOkSpec)

/-- ITS FALSE NEIGHBOUR: 'it returns false'. Refute it at one input. -/
def fnExactKeyOkWrong : ChangeSpec := { name := "fnExactKeyOk", fn := fun _ => fun
  | [d] => { results := [.lit (.bool false)], args := [d] }
  | _ => none }
def FnExactKeyOkWrongFalsely : Prop := fnExactKeyOkRow.holds Try.pinned (OpenSpec.ofChange fnExactKeyOkWrong)

/-- 'laws.FnExactOnesSum': WHATEVER THE INPUT: true; the input reads as it did. -/
def fnExactOnesSumSpec : ChangeSpec := { name := "fnExactOnesSum", fn := fun _ => fun
  | [d] => { results := [.lit (.bool true)], args := [d] }
  | _ => none }
def fnExactOnesSumRow : OpenClaim := { program := "ytnpfhfckkjkifaa", sum := "1daf203874c2d4a68fdcc5d776d2a6db42128fd6bd596754e08ea3a826a04ea8", func := "loop.example/g00655/laws.FnExactOnesSum", spec := "fnExactOnesSum", apart := false }
def FnExactOnesSumSaid : Prop := fnExactOnesSumRow.holds Try.pinned (OpenSpec.ofChange fnExactOnesSumSpec)

/-- ITS FALSE NEIGHBOUR: 'it returns false'. Refute it at one input. -/
def fnExactOnesSumWrong : ChangeSpec := { name := "fnExactOnesSum", fn := fun _ => fun
  | [d] => { results := [.lit (.bool false)], args := [d] }
  | _ => none }
def FnExactOnesSumWrongFalsely : Prop := fnExactOnesSumRow.holds Try.pinned (OpenSpec.ofChange fnExactOnesSumWrong)

/-- 'laws.FnExactSumRight': WHATEVER THE INPUT: true; the input reads as it did. -/
def fnExactSumRightSpec : ChangeSpec := { name := "fnExactSumRight", fn := fun _ => fun
  | [d] => { results := [.lit (.bool true)], args := [d] }
  | _ => none }
def fnExactSumRightRow : OpenClaim := { program := "ytnpfhfckkjkifaa", sum := "1daf203874c2d4a68fdcc5d776d2a6db42128fd6bd596754e08ea3a826a04ea8", func := "loop.example/g00655/laws.FnExactSumRight", spec := "fnExactSumRight", apart := false }
def FnExactSumRightSaid : Prop := fnExactSumRightRow.holds Try.pinned (OpenSpec.ofChange fnExactSumRightSpec)

/-- ITS FALSE NEIGHBOUR: 'it returns false'. Refute it at one input. -/
def fnExactSumRightWrong : ChangeSpec := { name := "fnExactSumRight", fn := fun _ => fun
  | [d] => { results := [.lit (.bool false)], args := [d] }
  | _ => none }
def FnExactSumRightWrongFalsely : Prop := fnExactSumRightRow.holds Try.pinned (OpenSpec.ofChange fnExactSumRightWrong)

/-- 'laws.FnExactChecksum': WHATEVER THE INPUT: true; the input reads as it did. -/
def fnExactChecksumSpec : ChangeSpec := { name := "fnExactChecksum", fn := fun _ => fun
  | [d] => { results := [.lit (.bool true)], args := [d] }
  | _ => none }
def fnExactChecksumRow : OpenClaim := { program := "ytnpfhfckkjkifaa", sum := "1daf203874c2d4a68fdcc5d776d2a6db42128fd6bd596754e08ea3a826a04ea8", func := "loop.example/g00655/laws.FnExactChecksum", spec := "fnExactChecksum", apart := false }
def FnExactChecksumSaid : Prop := fnExactChecksumRow.holds Try.pinned (OpenSpec.ofChange fnExactChecksumSpec)

/-- ITS FALSE NEIGHBOUR: 'it returns false'. Refute it at one input. -/
def fnExactChecksumWrong : ChangeSpec := { name := "fnExactChecksum", fn := fun _ => fun
  | [d] => { results := [.lit (.bool false)], args := [d] }
  | _ => none }
def FnExactChecksumWrongFalsely : Prop := fnExactChecksumRow.holds Try.pinned (OpenSpec.ofChange fnExactChecksumWrong)

/-- 'laws.FnExactSumSwaps': WHATEVER THE INPUT: true; the input reads as it did. -/
def fnExactSumSwapsSpec : ChangeSpec := { name := "fnExactSumSwaps", fn := fun _ => fun
  | [d1, d2, d3] => { results := [.lit (.bool true)], args := [d1, d2, d3] }
  | _ => none }
def fnExactSumSwapsRow : OpenClaim := { program := "ytnpfhfckkjkifaa", sum := "1daf203874c2d4a68fdcc5d776d2a6db42128fd6bd596754e08ea3a826a04ea8", func := "loop.example/g00655/laws.FnExactSumSwaps", spec := "fnExactSumSwaps", apart := false }
def FnExactSumSwapsSaid : Prop := fnExactSumSwapsRow.holds Try.pinned (OpenSpec.ofChange fnExactSumSwapsSpec)

/-- ITS FALSE NEIGHBOUR: 'it returns false'. Refute it at one input. -/
def fnExactSumSwapsWrong : ChangeSpec := { name := "fnExactSumSwaps", fn := fun _ => fun
  | [d1, d2, d3] => { results := [.lit (.bool false)], args := [d1, d2, d3] }
  | _ => none }
def FnExactSumSwapsWrongFalsely : Prop := fnExactSumSwapsRow.holds Try.pinned (OpenSpec.ofChange fnExactSumSwapsWrong)

/-- 'laws.FnExactAddrOf': WHATEVER THE INPUT: true; the input reads as it did. -/
def fnExactAddrOfSpec : ChangeSpec := { name := "fnExactAddrOf", fn := fun _ => fun
  | [d] => { results := [.lit (.bool true)], args := [d] }
  | _ => none }
def fnExactAddrOfRow : OpenClaim := { program := "ytnpfhfckkjkifaa", sum := "1daf203874c2d4a68fdcc5d776d2a6db42128fd6bd596754e08ea3a826a04ea8", func := "loop.example/g00655/laws.FnExactAddrOf", spec := "fnExactAddrOf", apart := false }
def FnExactAddrOfSaid : Prop := fnExactAddrOfRow.holds Try.pinned (OpenSpec.ofChange fnExactAddrOfSpec)

/-- ITS FALSE NEIGHBOUR: 'it returns false'. Refute it at one input. -/
def fnExactAddrOfWrong : ChangeSpec := { name := "fnExactAddrOf", fn := fun _ => fun
  | [d] => { results := [.lit (.bool false)], args := [d] }
  | _ => none }
def FnExactAddrOfWrongFalsely : Prop := fnExactAddrOfRow.holds Try.pinned (OpenSpec.ofChange fnExactAddrOfWrong)

/-- 'laws.FnExactEtherOk': WHATEVER THE INPUT: true; the input reads as it did. -/
def fnExactEtherOkSpec : ChangeSpec := { name := "fnExactEtherOk", fn := fun _ => fun
  | [d] => { results := [.lit (.bool true)], args := [d] }
  | _ => none }
def fnExactEtherOkRow : OpenClaim := { program := "ytnpfhfckkjkifaa", sum := "1daf203874c2d4a68fdcc5d776d2a6db42128fd6bd596754e08ea3a826a04ea8", func := "loop.example/g00655/laws.FnExactEtherOk", spec := "fnExactEtherOk", apart := false }
def FnExactEtherOkSaid : Prop := fnExactEtherOkRow.holds Try.pinned (OpenSpec.ofChange fnExactEtherOkSpec)

/-- ITS FALSE NEIGHBOUR: 'it returns false'. Refute it at one input. -/
def fnExactEtherOkWrong : ChangeSpec := { name := "fnExactEtherOk", fn := fun _ => fun
  | [d] => { results := [.lit (.bool false)], args := [d] }
  | _ => none }
def FnExactEtherOkWrongFalsely : Prop := fnExactEtherOkRow.holds Try.pinned (OpenSpec.ofChange fnExactEtherOkWrong)

/-- 'laws.FnExactTurned': WHATEVER THE INPUT: true; the input reads as it did. -/
def fnExactTurnedSpec : ChangeSpec := { name := "fnExactTurned", fn := fun _ => fun
  | [d] => { results := [.lit (.bool true)], args := [d] }
  | _ => none }
def fnExactTurnedRow : OpenClaim := { program := "ytnpfhfckkjkifaa", sum := "1daf203874c2d4a68fdcc5d776d2a6db42128fd6bd596754e08ea3a826a04ea8", func := "loop.example/g00655/laws.FnExactTurned", spec := "fnExactTurned", apart := false }
def FnExactTurnedSaid : Prop := fnExactTurnedRow.holds Try.pinned (OpenSpec.ofChange fnExactTurnedSpec)

/-- ITS FALSE NEIGHBOUR: 'it returns false'. Refute it at one input. -/
def fnExactTurnedWrong : ChangeSpec := { name := "fnExactTurned", fn := fun _ => fun
  | [d] => { results := [.lit (.bool false)], args := [d] }
  | _ => none }
def FnExactTurnedWrongFalsely : Prop := fnExactTurnedRow.holds Try.pinned (OpenSpec.ofChange fnExactTurnedWrong)

/-- 'laws.FnExactAddrBytes': WHATEVER THE INPUT: true; the input reads as it did. -/
def fnExactAddrBytesSpec : ChangeSpec := { name := "fnExactAddrBytes", fn := fun _ => fun
  | [d] => { results := [.lit (.bool true)], args := [d] }
  | _ => none }
def fnExactAddrBytesRow : OpenClaim := { program := "ytnpfhfckkjkifaa", sum := "1daf203874c2d4a68fdcc5d776d2a6db42128fd6bd596754e08ea3a826a04ea8", func := "loop.example/g00655/laws.FnExactAddrBytes", spec := "fnExactAddrBytes", apart := false }
def FnExactAddrBytesSaid : Prop := fnExactAddrBytesRow.holds Try.pinned (OpenSpec.ofChange fnExactAddrBytesSpec)

/-- ITS FALSE NEIGHBOUR: 'it returns false'. Refute it at one input. -/
def fnExactAddrBytesWrong : ChangeSpec := { name := "fnExactAddrBytes", fn := fun _ => fun
  | [d] => { results := [.lit (.bool false)], args := [d] }
  | _ => none }
def FnExactAddrBytesWrongFalsely : Prop := fnExactAddrBytesRow.holds Try.pinned (OpenSpec.ofChange fnExactAddrBytesWrong)

/-- 'laws.FnExactUpperSize': WHATEVER THE INPUT: true; the input reads as it did. -/
def fnExactUpperSizeSpec : ChangeSpec := { name := "fnExactUpperSize", fn := fun _ => fun
  | [d] => { results := [.lit (.bool true)], args := [d] }
  | _ => none }
def fnExactUpperSizeRow : OpenClaim := { program := "ytnpfhfckkjkifaa", sum := "1daf203874c2d4a68fdcc5d776d2a6db42128fd6bd596754e08ea3a826a04ea8", func := "loop.example/g00655/laws.FnExactUpperSize", spec := "fnExactUpperSize", apart := false }
def FnExactUpperSizeSaid : Prop := fnExactUpperSizeRow.holds Try.pinned (OpenSpec.ofChange fnExactUpperSizeSpec)

/-- ITS FALSE NEIGHBOUR: 'it returns false'. Refute it at one input. -/
def fnExactUpperSizeWrong : ChangeSpec := { name := "fnExactUpperSize", fn := fun _ => fun
  | [d] => { results := [.lit (.bool false)], args := [d] }
  | _ => none }
def FnExactUpperSizeWrongFalsely : Prop := fnExactUpperSizeRow.holds Try.pinned (OpenSpec.ofChange fnExactUpperSizeWrong)

/-- 'laws.FnExactEtherRead': WHATEVER THE INPUT: true; the input reads as it did. -/
def fnExactEtherReadSpec : ChangeSpec := { name := "fnExactEtherRead", fn := fun _ => fun
  | [d] => { results := [.lit (.bool true)], args := [d] }
  | _ => none }
def fnExactEtherReadRow : OpenClaim := { program := "ytnpfhfckkjkifaa", sum := "1daf203874c2d4a68fdcc5d776d2a6db42128fd6bd596754e08ea3a826a04ea8", func := "loop.example/g00655/laws.FnExactEtherRead", spec := "fnExactEtherRead", apart := false }
def FnExactEtherReadSaid : Prop := fnExactEtherReadRow.holds Try.pinned (OpenSpec.ofChange fnExactEtherReadSpec)

/-- ITS FALSE NEIGHBOUR: 'it returns false'. Refute it at one input. -/
def fnExactEtherReadWrong : ChangeSpec := { name := "fnExactEtherRead", fn := fun _ => fun
  | [d] => { results := [.lit (.bool false)], args := [d] }
  | _ => none }
def FnExactEtherReadWrongFalsely : Prop := fnExactEtherReadRow.holds Try.pinned (OpenSpec.ofChange fnExactEtherReadWrong)

/- THE SECOND FORM. 'bulk': how many values and letters a reading holds, each counted each time it is reached (what is shared counts as often as it is met; a slice's spare places count too). A statement '..UptoSaid' is the law's where the arguments, and the package variables that the reading takes, are together of bulk at most 1048576: NARROWER than '..Said'. Prove '..Said' where nothing that the law and all that it calls make is longer than what came in: it says more and counts as full. Else prove '..UptoSaid'. A law counts once. -/
mutual
def uptoBulk {H : Type} : DataW H → Nat
  | .lit (.string bytes) => bytes.length + 1
  | .lit _ => 1
  | .nil => 1
  | .ptr d => uptoBulk d + 1
  | .slice elems spare => uptoBulkAll elems + uptoBulkAll spare + 1
  | .agg parts => uptoBulkAll parts + 1
  | .iface _ d => uptoBulk d + 1
  | .map entries => uptoBulkEntries entries + 1
  | .held _ => 1
def uptoBulkAll {H : Type} : List (DataW H) → Nat
  | [] => 0
  | d :: r => uptoBulk d + uptoBulkAll r
def uptoBulkEntries {H : Type} : List (Lit × DataW H) → Nat
  | [] => 0
  | x :: r => uptoBulkEntry x + uptoBulkEntries r
def uptoBulkEntry {H : Type} : Lit × DataW H → Nat
  | (.string bytes, d) => bytes.length + uptoBulk d + 1
  | (_, d) => uptoBulk d + 1
 end
def uptoSmall : (H : Type) → List (DataW H) → Bool := fun _ ds => decide (uptoBulkAll ds ≤ 1048576)
def OpenSpec.upto (s : _root_.Go.ChangeSpec) : _root_.Go.OpenSpec := { _root_.Go.OpenSpec.ofChange s with cond := some uptoSmall }

/-- 'laws.FnExactPut32', WHERE WHAT IT READS IS OF BULK AT MOST 1048576: true; the input reads as it did. -/
def fnExactPut32UptoRow : OpenClaim := { program := "ytnpfhfckkjkifaa", sum := "1daf203874c2d4a68fdcc5d776d2a6db42128fd6bd596754e08ea3a826a04ea8", func := "loop.example/g00655/laws.FnExactPut32", spec := "fnExactPut32", apart := false, narrowed := true }
def FnExactPut32UptoSaid : Prop := fnExactPut32UptoRow.holds Try.pinned (OpenSpec.upto fnExactPut32Spec)

/-- 'laws.FnExactKeyOk', WHERE WHAT IT READS IS OF BULK AT MOST 1048576: true; the input reads as it did. -/
def fnExactKeyOkUptoRow : OpenClaim := { program := "ytnpfhfckkjkifaa", sum := "1daf203874c2d4a68fdcc5d776d2a6db42128fd6bd596754e08ea3a826a04ea8", func := "loop.example/g00655/laws.FnExactKeyOk", spec := "fnExactKeyOk", apart := false, narrowed := true }
def FnExactKeyOkUptoSaid : Prop := fnExactKeyOkUptoRow.holds Try.pinned (OpenSpec.upto fnExactKeyOkSpec)

/-- 'laws.FnExactOnesSum', WHERE WHAT IT READS IS OF BULK AT MOST 1048576: true; the input reads as it did. -/
def fnExactOnesSumUptoRow : OpenClaim := { program := "ytnpfhfckkjkifaa", sum := "1daf203874c2d4a68fdcc5d776d2a6db42128fd6bd596754e08ea3a826a04ea8", func := "loop.example/g00655/laws.FnExactOnesSum", spec := "fnExactOnesSum", apart := false, narrowed := true }
def FnExactOnesSumUptoSaid : Prop := fnExactOnesSumUptoRow.holds Try.pinned (OpenSpec.upto fnExactOnesSumSpec)

/-- 'laws.FnExactSumRight', WHERE WHAT IT READS IS OF BULK AT MOST 1048576: true; the input reads as it did. -/
def fnExactSumRightUptoRow : OpenClaim := { program := "ytnpfhfckkjkifaa", sum := "1daf203874c2d4a68fdcc5d776d2a6db42128fd6bd596754e08ea3a826a04ea8", func := "loop.example/g00655/laws.FnExactSumRight", spec := "fnExactSumRight", apart := false, narrowed := true }
def FnExactSumRightUptoSaid : Prop := fnExactSumRightUptoRow.holds Try.pinned (OpenSpec.upto fnExactSumRightSpec)

/-- 'laws.FnExactChecksum', WHERE WHAT IT READS IS OF BULK AT MOST 1048576: true; the input reads as it did. -/
def fnExactChecksumUptoRow : OpenClaim := { program := "ytnpfhfckkjkifaa", sum := "1daf203874c2d4a68fdcc5d776d2a6db42128fd6bd596754e08ea3a826a04ea8", func := "loop.example/g00655/laws.FnExactChecksum", spec := "fnExactChecksum", apart := false, narrowed := true }
def FnExactChecksumUptoSaid : Prop := fnExactChecksumUptoRow.holds Try.pinned (OpenSpec.upto fnExactChecksumSpec)

/-- 'laws.FnExactSumSwaps', WHERE WHAT IT READS IS OF BULK AT MOST 1048576: true; the input reads as it did. -/
def fnExactSumSwapsUptoRow : OpenClaim := { program := "ytnpfhfckkjkifaa", sum := "1daf203874c2d4a68fdcc5d776d2a6db42128fd6bd596754e08ea3a826a04ea8", func := "loop.example/g00655/laws.FnExactSumSwaps", spec := "fnExactSumSwaps", apart := false, narrowed := true }
def FnExactSumSwapsUptoSaid : Prop := fnExactSumSwapsUptoRow.holds Try.pinned (OpenSpec.upto fnExactSumSwapsSpec)

/-- 'laws.FnExactAddrOf', WHERE WHAT IT READS IS OF BULK AT MOST 1048576: true; the input reads as it did. -/
def fnExactAddrOfUptoRow : OpenClaim := { program := "ytnpfhfckkjkifaa", sum := "1daf203874c2d4a68fdcc5d776d2a6db42128fd6bd596754e08ea3a826a04ea8", func := "loop.example/g00655/laws.FnExactAddrOf", spec := "fnExactAddrOf", apart := false, narrowed := true }
def FnExactAddrOfUptoSaid : Prop := fnExactAddrOfUptoRow.holds Try.pinned (OpenSpec.upto fnExactAddrOfSpec)

/-- 'laws.FnExactEtherOk', WHERE WHAT IT READS IS OF BULK AT MOST 1048576: true; the input reads as it did. -/
def fnExactEtherOkUptoRow : OpenClaim := { program := "ytnpfhfckkjkifaa", sum := "1daf203874c2d4a68fdcc5d776d2a6db42128fd6bd596754e08ea3a826a04ea8", func := "loop.example/g00655/laws.FnExactEtherOk", spec := "fnExactEtherOk", apart := false, narrowed := true }
def FnExactEtherOkUptoSaid : Prop := fnExactEtherOkUptoRow.holds Try.pinned (OpenSpec.upto fnExactEtherOkSpec)

/-- 'laws.FnExactTurned', WHERE WHAT IT READS IS OF BULK AT MOST 1048576: true; the input reads as it did. -/
def fnExactTurnedUptoRow : OpenClaim := { program := "ytnpfhfckkjkifaa", sum := "1daf203874c2d4a68fdcc5d776d2a6db42128fd6bd596754e08ea3a826a04ea8", func := "loop.example/g00655/laws.FnExactTurned", spec := "fnExactTurned", apart := false, narrowed := true }
def FnExactTurnedUptoSaid : Prop := fnExactTurnedUptoRow.holds Try.pinned (OpenSpec.upto fnExactTurnedSpec)

/-- 'laws.FnExactAddrBytes', WHERE WHAT IT READS IS OF BULK AT MOST 1048576: true; the input reads as it did. -/
def fnExactAddrBytesUptoRow : OpenClaim := { program := "ytnpfhfckkjkifaa", sum := "1daf203874c2d4a68fdcc5d776d2a6db42128fd6bd596754e08ea3a826a04ea8", func := "loop.example/g00655/laws.FnExactAddrBytes", spec := "fnExactAddrBytes", apart := false, narrowed := true }
def FnExactAddrBytesUptoSaid : Prop := fnExactAddrBytesUptoRow.holds Try.pinned (OpenSpec.upto fnExactAddrBytesSpec)

/-- 'laws.FnExactUpperSize', WHERE WHAT IT READS IS OF BULK AT MOST 1048576: true; the input reads as it did. -/
def fnExactUpperSizeUptoRow : OpenClaim := { program := "ytnpfhfckkjkifaa", sum := "1daf203874c2d4a68fdcc5d776d2a6db42128fd6bd596754e08ea3a826a04ea8", func := "loop.example/g00655/laws.FnExactUpperSize", spec := "fnExactUpperSize", apart := false, narrowed := true }
def FnExactUpperSizeUptoSaid : Prop := fnExactUpperSizeUptoRow.holds Try.pinned (OpenSpec.upto fnExactUpperSizeSpec)

/-- 'laws.FnExactEtherRead', WHERE WHAT IT READS IS OF BULK AT MOST 1048576: true; the input reads as it did. -/
def fnExactEtherReadUptoRow : OpenClaim := { program := "ytnpfhfckkjkifaa", sum := "1daf203874c2d4a68fdcc5d776d2a6db42128fd6bd596754e08ea3a826a04ea8", func := "loop.example/g00655/laws.FnExactEtherRead", spec := "fnExactEtherRead", apart := false, narrowed := true }
def FnExactEtherReadUptoSaid : Prop := fnExactEtherReadUptoRow.holds Try.pinned (OpenSpec.upto fnExactEtherReadSpec)

end Rows
end Go.Proofs.Ytnpfhfckkjkifaa
