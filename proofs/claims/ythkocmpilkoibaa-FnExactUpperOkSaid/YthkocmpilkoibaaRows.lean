/-
  No cell of these rows narrows 'for every input' (looked for: loops, veiled, ifaces, maps, wideKeys, modest, calm, conditions, laid).
  DERIVED. THE GIVEN ROWS OF THIS SEAT. 11 by the template 'for every input the law returns true; each argument reads behind the call as it read before'; 0 by the template 'total and deterministic' (their statements: YthkocmpilkoibaaTotals.lean).
  GIVEN WITH THE SEED: the statements are not yours to turn. If you find one false, say at which input.
  Laid BY PROGRAM, IN A SANDBOX (cutbox-rows.mjs): the forced cells as the released guide's own fill.sh prints them over the translation bbc3546312cc2c66… (all of the seat's roots in one cut). By AI agents, Wed Nov 11 2026. No macro, syntax, notation, axiom, sorry.
-/
import Derived.Test.YthkocmpilkoibaaChecked
import GoSem.Claim
import GoSem.ClaimJoined
import GoSem.ClaimMapViews
import Derived.JoinedTies
import Derived.KernelRfl
namespace Go.Proofs.Ythkocmpilkoibaa
/- THE CELL 'sum', in the pinned program and in every row, IS THE sha256 OF THE DUMP (.gsa) THAT YthkocmpilkoibaaProg.lean LOADS. Nothing in Lean hashes anything: it is a label: what it is worth is what the hold of that sum in a sandbox is worth. -/
noncomputable def Try.pinned : Pinned := { name := "ythkocmpilkoibaa", sum := "bbc3546312cc2c669068bc851bce5c33f24db0ed622acf9e36466f17a03224a9", checked := Try.checked }
namespace Rows
def none {H : Type} : Left H := { results := [], args := [] }

/-- 'laws.FnExactFourOk': WHATEVER THE INPUT: true; the input reads as it did. -/
def fnExactFourOkSpec : ChangeSpec := { name := "fnExactFourOk", fn := fun _ => fun
  | [d] => { results := [.lit (.bool true)], args := [d] }
  | _ => none }
def fnExactFourOkRow : OpenClaim := { program := "ythkocmpilkoibaa", sum := "bbc3546312cc2c669068bc851bce5c33f24db0ed622acf9e36466f17a03224a9", func := "loop.example/g00655/laws.FnExactFourOk", spec := "fnExactFourOk", apart := false }
def FnExactFourOkSaid : Prop := fnExactFourOkRow.holds Try.pinned (OpenSpec.ofChange fnExactFourOkSpec)

/-- ITS FALSE NEIGHBOUR: 'it returns false'. Refute it at one input. -/
def fnExactFourOkWrong : ChangeSpec := { name := "fnExactFourOk", fn := fun _ => fun
  | [d] => { results := [.lit (.bool false)], args := [d] }
  | _ => none }
def FnExactFourOkWrongFalsely : Prop := fnExactFourOkRow.holds Try.pinned (OpenSpec.ofChange fnExactFourOkWrong)

/-- 'laws.FnExactFourPiece': WHATEVER THE INPUT: true; the input reads as it did. -/
def fnExactFourPieceSpec : ChangeSpec := { name := "fnExactFourPiece", fn := fun _ => fun
  | [d] => { results := [.lit (.bool true)], args := [d] }
  | _ => none }
def fnExactFourPieceRow : OpenClaim := { program := "ythkocmpilkoibaa", sum := "bbc3546312cc2c669068bc851bce5c33f24db0ed622acf9e36466f17a03224a9", func := "loop.example/g00655/laws.FnExactFourPiece", spec := "fnExactFourPiece", apart := false }
def FnExactFourPieceSaid : Prop := fnExactFourPieceRow.holds Try.pinned (OpenSpec.ofChange fnExactFourPieceSpec)

/-- ITS FALSE NEIGHBOUR: 'it returns false'. Refute it at one input. -/
def fnExactFourPieceWrong : ChangeSpec := { name := "fnExactFourPiece", fn := fun _ => fun
  | [d] => { results := [.lit (.bool false)], args := [d] }
  | _ => none }
def FnExactFourPieceWrongFalsely : Prop := fnExactFourPieceRow.holds Try.pinned (OpenSpec.ofChange fnExactFourPieceWrong)

/-- 'laws.FnExactEtherBytes': WHATEVER THE INPUT: true; the input reads as it did. -/
def fnExactEtherBytesSpec : ChangeSpec := { name := "fnExactEtherBytes", fn := fun _ => fun
  | [d] => { results := [.lit (.bool true)], args := [d] }
  | _ => none }
def fnExactEtherBytesRow : OpenClaim := { program := "ythkocmpilkoibaa", sum := "bbc3546312cc2c669068bc851bce5c33f24db0ed622acf9e36466f17a03224a9", func := "loop.example/g00655/laws.FnExactEtherBytes", spec := "fnExactEtherBytes", apart := false }
def FnExactEtherBytesSaid : Prop := fnExactEtherBytesRow.holds Try.pinned (OpenSpec.ofChange fnExactEtherBytesSpec)

/-- ITS FALSE NEIGHBOUR: 'it returns false'. Refute it at one input. -/
def fnExactEtherBytesWrong : ChangeSpec := { name := "fnExactEtherBytes", fn := fun _ => fun
  | [d] => { results := [.lit (.bool false)], args := [d] }
  | _ => none }
def FnExactEtherBytesWrongFalsely : Prop := fnExactEtherBytesRow.holds Try.pinned (OpenSpec.ofChange fnExactEtherBytesWrong)

/-- 'laws.FnExactPseudoSum': WHATEVER THE INPUT: true; the input reads as it did. -/
def fnExactPseudoSumSpec : ChangeSpec := { name := "fnExactPseudoSum", fn := fun _ => fun
  | [d1, d2, d3, d4] => { results := [.lit (.bool true)], args := [d1, d2, d3, d4] }
  | _ => none }
def fnExactPseudoSumRow : OpenClaim := { program := "ythkocmpilkoibaa", sum := "bbc3546312cc2c669068bc851bce5c33f24db0ed622acf9e36466f17a03224a9", func := "loop.example/g00655/laws.FnExactPseudoSum", spec := "fnExactPseudoSum", apart := false }
def FnExactPseudoSumSaid : Prop := fnExactPseudoSumRow.holds Try.pinned (OpenSpec.ofChange fnExactPseudoSumSpec)

/-- ITS FALSE NEIGHBOUR: 'it returns false'. Refute it at one input. -/
def fnExactPseudoSumWrong : ChangeSpec := { name := "fnExactPseudoSum", fn := fun _ => fun
  | [d1, d2, d3, d4] => { results := [.lit (.bool false)], args := [d1, d2, d3, d4] }
  | _ => none }
def FnExactPseudoSumWrongFalsely : Prop := fnExactPseudoSumRow.holds Try.pinned (OpenSpec.ofChange fnExactPseudoSumWrong)

/-- 'laws.FnExactPrefixOk': WHATEVER THE INPUT: true; the input reads as it did. -/
def fnExactPrefixOkSpec : ChangeSpec := { name := "fnExactPrefixOk", fn := fun _ => fun
  | [d] => { results := [.lit (.bool true)], args := [d] }
  | _ => none }
def fnExactPrefixOkRow : OpenClaim := { program := "ythkocmpilkoibaa", sum := "bbc3546312cc2c669068bc851bce5c33f24db0ed622acf9e36466f17a03224a9", func := "loop.example/g00655/laws.FnExactPrefixOk", spec := "fnExactPrefixOk", apart := false }
def FnExactPrefixOkSaid : Prop := fnExactPrefixOkRow.holds Try.pinned (OpenSpec.ofChange fnExactPrefixOkSpec)

/-- ITS FALSE NEIGHBOUR: 'it returns false'. Refute it at one input. -/
def fnExactPrefixOkWrong : ChangeSpec := { name := "fnExactPrefixOk", fn := fun _ => fun
  | [d] => { results := [.lit (.bool false)], args := [d] }
  | _ => none }
def FnExactPrefixOkWrongFalsely : Prop := fnExactPrefixOkRow.holds Try.pinned (OpenSpec.ofChange fnExactPrefixOkWrong)

/-- 'laws.FnExactUpperOk': WHATEVER THE INPUT: true; the input reads as it did. -/
def fnExactUpperOkSpec : ChangeSpec := { name := "fnExactUpperOk", fn := fun _ => fun
  | [d1, d2] => { results := [.lit (.bool true)], args := [d1, d2] }
  | _ => none }
def fnExactUpperOkRow : OpenClaim := { program := "ythkocmpilkoibaa", sum := "bbc3546312cc2c669068bc851bce5c33f24db0ed622acf9e36466f17a03224a9", func := "loop.example/g00655/laws.FnExactUpperOk", spec := "fnExactUpperOk", unfollowed := true, recurses := true, apart := false }
def FnExactUpperOkSaid : Prop := fnExactUpperOkRow.holds Try.pinned (OpenSpec.ofChange fnExactUpperOkSpec)

/-- ITS FALSE NEIGHBOUR: 'it returns false'. Refute it at one input. -/
def fnExactUpperOkWrong : ChangeSpec := { name := "fnExactUpperOk", fn := fun _ => fun
  | [d1, d2] => { results := [.lit (.bool false)], args := [d1, d2] }
  | _ => none }
def FnExactUpperOkWrongFalsely : Prop := fnExactUpperOkRow.holds Try.pinned (OpenSpec.ofChange fnExactUpperOkWrong)

/-- 'laws.FnExactCut': WHATEVER THE INPUT: true; the input reads as it did. -/
def fnExactCutSpec : ChangeSpec := { name := "fnExactCut", fn := fun _ => fun
  | [d1, d2] => { results := [.lit (.bool true)], args := [d1, d2] }
  | _ => none }
def fnExactCutRow : OpenClaim := { program := "ythkocmpilkoibaa", sum := "bbc3546312cc2c669068bc851bce5c33f24db0ed622acf9e36466f17a03224a9", func := "loop.example/g00655/laws.FnExactCut", spec := "fnExactCut", apart := false }
def FnExactCutSaid : Prop := fnExactCutRow.holds Try.pinned (OpenSpec.ofChange fnExactCutSpec)

/-- ITS FALSE NEIGHBOUR: 'it returns false'. Refute it at one input. -/
def fnExactCutWrong : ChangeSpec := { name := "fnExactCut", fn := fun _ => fun
  | [d1, d2] => { results := [.lit (.bool false)], args := [d1, d2] }
  | _ => none }
def FnExactCutWrongFalsely : Prop := fnExactCutRow.holds Try.pinned (OpenSpec.ofChange fnExactCutWrong)

/-- 'laws.FnExactPrefixHas': WHATEVER THE INPUT: true; the input reads as it did. -/
def fnExactPrefixHasSpec : ChangeSpec := { name := "fnExactPrefixHas", fn := fun _ => fun
  | [d1, d2] => { results := [.lit (.bool true)], args := [d1, d2] }
  | _ => none }
def fnExactPrefixHasRow : OpenClaim := { program := "ythkocmpilkoibaa", sum := "bbc3546312cc2c669068bc851bce5c33f24db0ed622acf9e36466f17a03224a9", func := "loop.example/g00655/laws.FnExactPrefixHas", spec := "fnExactPrefixHas", apart := false }
def FnExactPrefixHasSaid : Prop := fnExactPrefixHasRow.holds Try.pinned (OpenSpec.ofChange fnExactPrefixHasSpec)

/-- ITS FALSE NEIGHBOUR: 'it returns false'. Refute it at one input. -/
def fnExactPrefixHasWrong : ChangeSpec := { name := "fnExactPrefixHas", fn := fun _ => fun
  | [d1, d2] => { results := [.lit (.bool false)], args := [d1, d2] }
  | _ => none }
def FnExactPrefixHasWrongFalsely : Prop := fnExactPrefixHasRow.holds Try.pinned (OpenSpec.ofChange fnExactPrefixHasWrong)

/-- 'laws.FnExactSixOk': WHATEVER THE INPUT: true; the input reads as it did. -/
def fnExactSixOkSpec : ChangeSpec := { name := "fnExactSixOk", fn := fun _ => fun
  | [d] => { results := [.lit (.bool true)], args := [d] }
  | _ => none }
def fnExactSixOkRow : OpenClaim := { program := "ythkocmpilkoibaa", sum := "bbc3546312cc2c669068bc851bce5c33f24db0ed622acf9e36466f17a03224a9", func := "loop.example/g00655/laws.FnExactSixOk", spec := "fnExactSixOk", apart := false }
def FnExactSixOkSaid : Prop := fnExactSixOkRow.holds Try.pinned (OpenSpec.ofChange fnExactSixOkSpec)

/-- ITS FALSE NEIGHBOUR: 'it returns false'. Refute it at one input. -/
def fnExactSixOkWrong : ChangeSpec := { name := "fnExactSixOk", fn := fun _ => fun
  | [d] => { results := [.lit (.bool false)], args := [d] }
  | _ => none }
def FnExactSixOkWrongFalsely : Prop := fnExactSixOkRow.holds Try.pinned (OpenSpec.ofChange fnExactSixOkWrong)

/-- 'laws.FnExactPrefixIn': WHATEVER THE INPUT: true; the input reads as it did. -/
def fnExactPrefixInSpec : ChangeSpec := { name := "fnExactPrefixIn", fn := fun _ => fun
  | [d1, d2] => { results := [.lit (.bool true)], args := [d1, d2] }
  | _ => none }
def fnExactPrefixInRow : OpenClaim := { program := "ythkocmpilkoibaa", sum := "bbc3546312cc2c669068bc851bce5c33f24db0ed622acf9e36466f17a03224a9", func := "loop.example/g00655/laws.FnExactPrefixIn", spec := "fnExactPrefixIn", apart := false }
def FnExactPrefixInSaid : Prop := fnExactPrefixInRow.holds Try.pinned (OpenSpec.ofChange fnExactPrefixInSpec)

/-- ITS FALSE NEIGHBOUR: 'it returns false'. Refute it at one input. -/
def fnExactPrefixInWrong : ChangeSpec := { name := "fnExactPrefixIn", fn := fun _ => fun
  | [d1, d2] => { results := [.lit (.bool false)], args := [d1, d2] }
  | _ => none }
def FnExactPrefixInWrongFalsely : Prop := fnExactPrefixInRow.holds Try.pinned (OpenSpec.ofChange fnExactPrefixInWrong)

/-- 'laws.FnExactExtsSize': WHATEVER THE INPUT: true; the input reads as it did. -/
def fnExactExtsSizeSpec : ChangeSpec := { name := "fnExactExtsSize", fn := fun _ => fun
  | [d] => { results := [.lit (.bool true)], args := [d] }
  | _ => none }
def fnExactExtsSizeRow : OpenClaim := { program := "ythkocmpilkoibaa", sum := "bbc3546312cc2c669068bc851bce5c33f24db0ed622acf9e36466f17a03224a9", func := "loop.example/g00655/laws.FnExactExtsSize", spec := "fnExactExtsSize", apart := false }
def FnExactExtsSizeSaid : Prop := fnExactExtsSizeRow.holds Try.pinned (OpenSpec.ofChange fnExactExtsSizeSpec)

/-- ITS FALSE NEIGHBOUR: 'it returns false'. Refute it at one input. -/
def fnExactExtsSizeWrong : ChangeSpec := { name := "fnExactExtsSize", fn := fun _ => fun
  | [d] => { results := [.lit (.bool false)], args := [d] }
  | _ => none }
def FnExactExtsSizeWrongFalsely : Prop := fnExactExtsSizeRow.holds Try.pinned (OpenSpec.ofChange fnExactExtsSizeWrong)

/- THE SECOND FORM. 'bulk': how many values and letters a reading holds, each counted each time it is reached (what is shared counts as often as it is met; a slice's spare places count too). A statement '..UptoSaid' is the law's where the arguments, and the package variables that the reading takes, are together of bulk at most 1048576: NARROWER than '..Said'. Prove '..Said' where nothing that the law and all that it calls make is longer than what came in: it says more and counts as full. Else prove '..UptoSaid'. A law counts once. -/
mutual
def uptoBulk {H : Type} : DataW H → Nat
  | .lit (.string bytes) => bytes.length + 1
  | .lit _ => 1
  | .nil => 1
  | .ptr d => uptoBulk d + 1
  | .slice elems spare => uptoBulkAll elems + uptoBulkAll spare + 1
  | .agg parts => uptoBulkAll parts + 1
  | .iface _ d => uptoBulk d + 1
  | .map entries => uptoBulkEntries entries + 1
  | .held _ => 1
def uptoBulkAll {H : Type} : List (DataW H) → Nat
  | [] => 0
  | d :: r => uptoBulk d + uptoBulkAll r
def uptoBulkEntries {H : Type} : List (Lit × DataW H) → Nat
  | [] => 0
  | x :: r => uptoBulkEntry x + uptoBulkEntries r
def uptoBulkEntry {H : Type} : Lit × DataW H → Nat
  | (.string bytes, d) => bytes.length + uptoBulk d + 1
  | (_, d) => uptoBulk d + 1
 end
def uptoSmall : (H : Type) → List (DataW H) → Bool := fun _ ds => decide (uptoBulkAll ds ≤ 1048576)
def OpenSpec.upto (s : _root_.Go.ChangeSpec) : _root_.Go.OpenSpec := { _root_.Go.OpenSpec.ofChange s with cond := some uptoSmall }

/-- 'laws.FnExactFourOk', WHERE WHAT IT READS IS OF BULK AT MOST 1048576: true; the input reads as it did. -/
def fnExactFourOkUptoRow : OpenClaim := { program := "ythkocmpilkoibaa", sum := "bbc3546312cc2c669068bc851bce5c33f24db0ed622acf9e36466f17a03224a9", func := "loop.example/g00655/laws.FnExactFourOk", spec := "fnExactFourOk", apart := false, narrowed := true }
def FnExactFourOkUptoSaid : Prop := fnExactFourOkUptoRow.holds Try.pinned (OpenSpec.upto fnExactFourOkSpec)

/-- 'laws.FnExactFourPiece', WHERE WHAT IT READS IS OF BULK AT MOST 1048576: true; the input reads as it did. -/
def fnExactFourPieceUptoRow : OpenClaim := { program := "ythkocmpilkoibaa", sum := "bbc3546312cc2c669068bc851bce5c33f24db0ed622acf9e36466f17a03224a9", func := "loop.example/g00655/laws.FnExactFourPiece", spec := "fnExactFourPiece", apart := false, narrowed := true }
def FnExactFourPieceUptoSaid : Prop := fnExactFourPieceUptoRow.holds Try.pinned (OpenSpec.upto fnExactFourPieceSpec)

/-- 'laws.FnExactEtherBytes', WHERE WHAT IT READS IS OF BULK AT MOST 1048576: true; the input reads as it did. -/
def fnExactEtherBytesUptoRow : OpenClaim := { program := "ythkocmpilkoibaa", sum := "bbc3546312cc2c669068bc851bce5c33f24db0ed622acf9e36466f17a03224a9", func := "loop.example/g00655/laws.FnExactEtherBytes", spec := "fnExactEtherBytes", apart := false, narrowed := true }
def FnExactEtherBytesUptoSaid : Prop := fnExactEtherBytesUptoRow.holds Try.pinned (OpenSpec.upto fnExactEtherBytesSpec)

/-- 'laws.FnExactPseudoSum', WHERE WHAT IT READS IS OF BULK AT MOST 1048576: true; the input reads as it did. -/
def fnExactPseudoSumUptoRow : OpenClaim := { program := "ythkocmpilkoibaa", sum := "bbc3546312cc2c669068bc851bce5c33f24db0ed622acf9e36466f17a03224a9", func := "loop.example/g00655/laws.FnExactPseudoSum", spec := "fnExactPseudoSum", apart := false, narrowed := true }
def FnExactPseudoSumUptoSaid : Prop := fnExactPseudoSumUptoRow.holds Try.pinned (OpenSpec.upto fnExactPseudoSumSpec)

/-- 'laws.FnExactPrefixOk', WHERE WHAT IT READS IS OF BULK AT MOST 1048576: true; the input reads as it did. -/
def fnExactPrefixOkUptoRow : OpenClaim := { program := "ythkocmpilkoibaa", sum := "bbc3546312cc2c669068bc851bce5c33f24db0ed622acf9e36466f17a03224a9", func := "loop.example/g00655/laws.FnExactPrefixOk", spec := "fnExactPrefixOk", apart := false, narrowed := true }
def FnExactPrefixOkUptoSaid : Prop := fnExactPrefixOkUptoRow.holds Try.pinned (OpenSpec.upto fnExactPrefixOkSpec)

/-- 'laws.FnExactUpperOk', WHERE WHAT IT READS IS OF BULK AT MOST 1048576: true; the input reads as it did. -/
def fnExactUpperOkUptoRow : OpenClaim := { program := "ythkocmpilkoibaa", sum := "bbc3546312cc2c669068bc851bce5c33f24db0ed622acf9e36466f17a03224a9", func := "loop.example/g00655/laws.FnExactUpperOk", spec := "fnExactUpperOk", unfollowed := true, recurses := true, apart := false, narrowed := true }
def FnExactUpperOkUptoSaid : Prop := fnExactUpperOkUptoRow.holds Try.pinned (OpenSpec.upto fnExactUpperOkSpec)

/-- 'laws.FnExactCut', WHERE WHAT IT READS IS OF BULK AT MOST 1048576: true; the input reads as it did. -/
def fnExactCutUptoRow : OpenClaim := { program := "ythkocmpilkoibaa", sum := "bbc3546312cc2c669068bc851bce5c33f24db0ed622acf9e36466f17a03224a9", func := "loop.example/g00655/laws.FnExactCut", spec := "fnExactCut", apart := false, narrowed := true }
def FnExactCutUptoSaid : Prop := fnExactCutUptoRow.holds Try.pinned (OpenSpec.upto fnExactCutSpec)

/-- 'laws.FnExactPrefixHas', WHERE WHAT IT READS IS OF BULK AT MOST 1048576: true; the input reads as it did. -/
def fnExactPrefixHasUptoRow : OpenClaim := { program := "ythkocmpilkoibaa", sum := "bbc3546312cc2c669068bc851bce5c33f24db0ed622acf9e36466f17a03224a9", func := "loop.example/g00655/laws.FnExactPrefixHas", spec := "fnExactPrefixHas", apart := false, narrowed := true }
def FnExactPrefixHasUptoSaid : Prop := fnExactPrefixHasUptoRow.holds Try.pinned (OpenSpec.upto fnExactPrefixHasSpec)

/-- 'laws.FnExactSixOk', WHERE WHAT IT READS IS OF BULK AT MOST 1048576: true; the input reads as it did. -/
def fnExactSixOkUptoRow : OpenClaim := { program := "ythkocmpilkoibaa", sum := "bbc3546312cc2c669068bc851bce5c33f24db0ed622acf9e36466f17a03224a9", func := "loop.example/g00655/laws.FnExactSixOk", spec := "fnExactSixOk", apart := false, narrowed := true }
def FnExactSixOkUptoSaid : Prop := fnExactSixOkUptoRow.holds Try.pinned (OpenSpec.upto fnExactSixOkSpec)

/-- 'laws.FnExactPrefixIn', WHERE WHAT IT READS IS OF BULK AT MOST 1048576: true; the input reads as it did. -/
def fnExactPrefixInUptoRow : OpenClaim := { program := "ythkocmpilkoibaa", sum := "bbc3546312cc2c669068bc851bce5c33f24db0ed622acf9e36466f17a03224a9", func := "loop.example/g00655/laws.FnExactPrefixIn", spec := "fnExactPrefixIn", apart := false, narrowed := true }
def FnExactPrefixInUptoSaid : Prop := fnExactPrefixInUptoRow.holds Try.pinned (OpenSpec.upto fnExactPrefixInSpec)

/-- 'laws.FnExactExtsSize', WHERE WHAT IT READS IS OF BULK AT MOST 1048576: true; the input reads as it did. -/
def fnExactExtsSizeUptoRow : OpenClaim := { program := "ythkocmpilkoibaa", sum := "bbc3546312cc2c669068bc851bce5c33f24db0ed622acf9e36466f17a03224a9", func := "loop.example/g00655/laws.FnExactExtsSize", spec := "fnExactExtsSize", apart := false, narrowed := true }
def FnExactExtsSizeUptoSaid : Prop := fnExactExtsSizeUptoRow.holds Try.pinned (OpenSpec.upto fnExactExtsSizeSpec)

end Rows
end Go.Proofs.Ythkocmpilkoibaa
