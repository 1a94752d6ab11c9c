/-
  No cell of these rows narrows 'for every input' (looked for: loops, veiled, ifaces, maps, wideKeys, modest, calm, conditions, laid).
  DERIVED. THE GIVEN ROWS OF THIS SEAT. 12 by the template 'for every input the law returns true; each argument reads behind the call as it read before'; 0 by the template 'total and deterministic' (their statements: YtmeimclfohbdfaaTotals.lean).
  GIVEN WITH THE SEED: the statements are not yours to turn. If you find one false, say at which input.
  Laid BY PROGRAM, IN A SANDBOX (cutbox-rows.mjs): the forced cells as the released guide's own fill.sh prints them over the translation 4a3af8e14ce1291d… (all of the seat's roots in one cut). By AI agents, Wed Nov 11 2026. No macro, syntax, notation, axiom, sorry.
-/
import Derived.Test.YtmeimclfohbdfaaChecked
import GoSem.Claim
import GoSem.ClaimJoined
import GoSem.ClaimMapViews
import Derived.JoinedTies
import Derived.KernelRfl
namespace Go.Proofs.Ytmeimclfohbdfaa
/- THE CELL 'sum', in the pinned program and in every row, IS THE sha256 OF THE DUMP (.gsa) THAT YtmeimclfohbdfaaProg.lean LOADS. Nothing in Lean hashes anything: it is a label: what it is worth is what the hold of that sum in a sandbox is worth. -/
noncomputable def Try.pinned : Pinned := { name := "ytmeimclfohbdfaa", sum := "4a3af8e14ce1291d2970af8b1ae5d601f325975f57118596f58eb22584c08da5", checked := Try.checked }
namespace Rows
def none {H : Type} : Left H := { results := [], args := [] }

/-- 'laws.FnExactConstants': WHATEVER THE INPUT: true; the input reads as it did. -/
def fnExactConstantsSpec : ChangeSpec := { name := "fnExactConstants", fn := fun _ => fun
  | [] => { results := [.lit (.bool true)], args := [] }
  | _ => none }
def fnExactConstantsRow : OpenClaim := { program := "ytmeimclfohbdfaa", sum := "4a3af8e14ce1291d2970af8b1ae5d601f325975f57118596f58eb22584c08da5", func := "loop.example/g00655/laws.FnExactConstants", spec := "fnExactConstants", apart := false }
def FnExactConstantsSaid : Prop := fnExactConstantsRow.holds Try.pinned (OpenSpec.ofChange fnExactConstantsSpec)

/-- ITS FALSE NEIGHBOUR: 'it returns false'. Refute it at one input. -/
def fnExactConstantsWrong : ChangeSpec := { name := "fnExactConstants", fn := fun _ => fun
  | [] => { results := [.lit (.bool false)], args := [] }
  | _ => none }
def FnExactConstantsWrongFalsely : Prop := fnExactConstantsRow.holds Try.pinned (OpenSpec.ofChange fnExactConstantsWrong)

/-- 'laws.FnExactTagParts': WHATEVER THE INPUT: true; the input reads as it did. -/
def fnExactTagPartsSpec : ChangeSpec := { name := "fnExactTagParts", fn := fun _ => fun
  | [d] => { results := [.lit (.bool true)], args := [d] }
  | _ => none }
def fnExactTagPartsRow : OpenClaim := { program := "ytmeimclfohbdfaa", sum := "4a3af8e14ce1291d2970af8b1ae5d601f325975f57118596f58eb22584c08da5", func := "loop.example/g00655/laws.FnExactTagParts", spec := "fnExactTagParts", apart := false }
def FnExactTagPartsSaid : Prop := fnExactTagPartsRow.holds Try.pinned (OpenSpec.ofChange fnExactTagPartsSpec)

/-- ITS FALSE NEIGHBOUR: 'it returns false'. Refute it at one input. -/
def fnExactTagPartsWrong : ChangeSpec := { name := "fnExactTagParts", fn := fun _ => fun
  | [d] => { results := [.lit (.bool false)], args := [d] }
  | _ => none }
def FnExactTagPartsWrongFalsely : Prop := fnExactTagPartsRow.holds Try.pinned (OpenSpec.ofChange fnExactTagPartsWrong)

/-- 'laws.FnExactMarking': WHATEVER THE INPUT: true; the input reads as it did. -/
def fnExactMarkingSpec : ChangeSpec := { name := "fnExactMarking", fn := fun _ => fun
  | [d] => { results := [.lit (.bool true)], args := [d] }
  | _ => none }
def fnExactMarkingRow : OpenClaim := { program := "ytmeimclfohbdfaa", sum := "4a3af8e14ce1291d2970af8b1ae5d601f325975f57118596f58eb22584c08da5", func := "loop.example/g00655/laws.FnExactMarking", spec := "fnExactMarking", apart := false }
def FnExactMarkingSaid : Prop := fnExactMarkingRow.holds Try.pinned (OpenSpec.ofChange fnExactMarkingSpec)

/-- ITS FALSE NEIGHBOUR: 'it returns false'. Refute it at one input. -/
def fnExactMarkingWrong : ChangeSpec := { name := "fnExactMarking", fn := fun _ => fun
  | [d] => { results := [.lit (.bool false)], args := [d] }
  | _ => none }
def FnExactMarkingWrongFalsely : Prop := fnExactMarkingRow.holds Try.pinned (OpenSpec.ofChange fnExactMarkingWrong)

/-- 'laws.FnExactClip': WHATEVER THE INPUT: true; the input reads as it did. -/
def fnExactClipSpec : ChangeSpec := { name := "fnExactClip", fn := fun _ => fun
  | [d1, d2, d3] => { results := [.lit (.bool true)], args := [d1, d2, d3] }
  | _ => none }
def fnExactClipRow : OpenClaim := { program := "ytmeimclfohbdfaa", sum := "4a3af8e14ce1291d2970af8b1ae5d601f325975f57118596f58eb22584c08da5", func := "loop.example/g00655/laws.FnExactClip", spec := "fnExactClip", apart := false }
def FnExactClipSaid : Prop := fnExactClipRow.holds Try.pinned (OpenSpec.ofChange fnExactClipSpec)

/-- ITS FALSE NEIGHBOUR: 'it returns false'. Refute it at one input. -/
def fnExactClipWrong : ChangeSpec := { name := "fnExactClip", fn := fun _ => fun
  | [d1, d2, d3] => { results := [.lit (.bool false)], args := [d1, d2, d3] }
  | _ => none }
def FnExactClipWrongFalsely : Prop := fnExactClipRow.holds Try.pinned (OpenSpec.ofChange fnExactClipWrong)

/-- 'laws.FnExactAddrOk': WHATEVER THE INPUT: true; the input reads as it did. -/
def fnExactAddrOkSpec : ChangeSpec := { name := "fnExactAddrOk", fn := fun _ => fun
  | [d] => { results := [.lit (.bool true)], args := [d] }
  | _ => none }
def fnExactAddrOkRow : OpenClaim := { program := "ytmeimclfohbdfaa", sum := "4a3af8e14ce1291d2970af8b1ae5d601f325975f57118596f58eb22584c08da5", func := "loop.example/g00655/laws.FnExactAddrOk", spec := "fnExactAddrOk", apart := false }
def FnExactAddrOkSaid : Prop := fnExactAddrOkRow.holds Try.pinned (OpenSpec.ofChange fnExactAddrOkSpec)

/-- ITS FALSE NEIGHBOUR: 'it returns false'. Refute it at one input. -/
def fnExactAddrOkWrong : ChangeSpec := { name := "fnExactAddrOk", fn := fun _ => fun
  | [d] => { results := [.lit (.bool false)], args := [d] }
  | _ => none }
def FnExactAddrOkWrongFalsely : Prop := fnExactAddrOkRow.holds Try.pinned (OpenSpec.ofChange fnExactAddrOkWrong)

/-- 'laws.FnExactUpperKind': WHATEVER THE INPUT: true; the input reads as it did. -/
def fnExactUpperKindSpec : ChangeSpec := { name := "fnExactUpperKind", fn := fun _ => fun
  | [d1, d2] => { results := [.lit (.bool true)], args := [d1, d2] }
  | _ => none }
def fnExactUpperKindRow : OpenClaim := { program := "ytmeimclfohbdfaa", sum := "4a3af8e14ce1291d2970af8b1ae5d601f325975f57118596f58eb22584c08da5", func := "loop.example/g00655/laws.FnExactUpperKind", spec := "fnExactUpperKind", apart := false }
def FnExactUpperKindSaid : Prop := fnExactUpperKindRow.holds Try.pinned (OpenSpec.ofChange fnExactUpperKindSpec)

/-- ITS FALSE NEIGHBOUR: 'it returns false'. Refute it at one input. -/
def fnExactUpperKindWrong : ChangeSpec := { name := "fnExactUpperKind", fn := fun _ => fun
  | [d1, d2] => { results := [.lit (.bool false)], args := [d1, d2] }
  | _ => none }
def FnExactUpperKindWrongFalsely : Prop := fnExactUpperKindRow.holds Try.pinned (OpenSpec.ofChange fnExactUpperKindWrong)

/-- 'laws.FnExactSumAdd': WHATEVER THE INPUT: true; the input reads as it did. -/
def fnExactSumAddSpec : ChangeSpec := { name := "fnExactSumAdd", fn := fun _ => fun
  | [d1, d2] => { results := [.lit (.bool true)], args := [d1, d2] }
  | _ => none }
def fnExactSumAddRow : OpenClaim := { program := "ytmeimclfohbdfaa", sum := "4a3af8e14ce1291d2970af8b1ae5d601f325975f57118596f58eb22584c08da5", func := "loop.example/g00655/laws.FnExactSumAdd", spec := "fnExactSumAdd", apart := false }
def FnExactSumAddSaid : Prop := fnExactSumAddRow.holds Try.pinned (OpenSpec.ofChange fnExactSumAddSpec)

/-- ITS FALSE NEIGHBOUR: 'it returns false'. Refute it at one input. -/
def fnExactSumAddWrong : ChangeSpec := { name := "fnExactSumAdd", fn := fun _ => fun
  | [d1, d2] => { results := [.lit (.bool false)], args := [d1, d2] }
  | _ => none }
def FnExactSumAddWrongFalsely : Prop := fnExactSumAddRow.holds Try.pinned (OpenSpec.ofChange fnExactSumAddWrong)

/-- 'laws.FnExactBe16': WHATEVER THE INPUT: true; the input reads as it did. -/
def fnExactBe16Spec : ChangeSpec := { name := "fnExactBe16", fn := fun _ => fun
  | [d1, d2] => { results := [.lit (.bool true)], args := [d1, d2] }
  | _ => none }
def fnExactBe16Row : OpenClaim := { program := "ytmeimclfohbdfaa", sum := "4a3af8e14ce1291d2970af8b1ae5d601f325975f57118596f58eb22584c08da5", func := "loop.example/g00655/laws.FnExactBe16", spec := "fnExactBe16", apart := false }
def FnExactBe16Said : Prop := fnExactBe16Row.holds Try.pinned (OpenSpec.ofChange fnExactBe16Spec)

/-- ITS FALSE NEIGHBOUR: 'it returns false'. Refute it at one input. -/
def fnExactBe16Wrong : ChangeSpec := { name := "fnExactBe16", fn := fun _ => fun
  | [d1, d2] => { results := [.lit (.bool false)], args := [d1, d2] }
  | _ => none }
def FnExactBe16WrongFalsely : Prop := fnExactBe16Row.holds Try.pinned (OpenSpec.ofChange fnExactBe16Wrong)

/-- 'laws.FnExactSumSwap': WHATEVER THE INPUT: true; the input reads as it did. -/
def fnExactSumSwapSpec : ChangeSpec := { name := "fnExactSumSwap", fn := fun _ => fun
  | [d1, d2, d3] => { results := [.lit (.bool true)], args := [d1, d2, d3] }
  | _ => none }
def fnExactSumSwapRow : OpenClaim := { program := "ytmeimclfohbdfaa", sum := "4a3af8e14ce1291d2970af8b1ae5d601f325975f57118596f58eb22584c08da5", func := "loop.example/g00655/laws.FnExactSumSwap", spec := "fnExactSumSwap", apart := false }
def FnExactSumSwapSaid : Prop := fnExactSumSwapRow.holds Try.pinned (OpenSpec.ofChange fnExactSumSwapSpec)

/-- ITS FALSE NEIGHBOUR: 'it returns false'. Refute it at one input. -/
def fnExactSumSwapWrong : ChangeSpec := { name := "fnExactSumSwap", fn := fun _ => fun
  | [d1, d2, d3] => { results := [.lit (.bool false)], args := [d1, d2, d3] }
  | _ => none }
def FnExactSumSwapWrongFalsely : Prop := fnExactSumSwapRow.holds Try.pinned (OpenSpec.ofChange fnExactSumSwapWrong)

/-- 'laws.FnExactBe32': WHATEVER THE INPUT: true; the input reads as it did. -/
def fnExactBe32Spec : ChangeSpec := { name := "fnExactBe32", fn := fun _ => fun
  | [d1, d2] => { results := [.lit (.bool true)], args := [d1, d2] }
  | _ => none }
def fnExactBe32Row : OpenClaim := { program := "ytmeimclfohbdfaa", sum := "4a3af8e14ce1291d2970af8b1ae5d601f325975f57118596f58eb22584c08da5", func := "loop.example/g00655/laws.FnExactBe32", spec := "fnExactBe32", apart := false }
def FnExactBe32Said : Prop := fnExactBe32Row.holds Try.pinned (OpenSpec.ofChange fnExactBe32Spec)

/-- ITS FALSE NEIGHBOUR: 'it returns false'. Refute it at one input. -/
def fnExactBe32Wrong : ChangeSpec := { name := "fnExactBe32", fn := fun _ => fun
  | [d1, d2] => { results := [.lit (.bool false)], args := [d1, d2] }
  | _ => none }
def FnExactBe32WrongFalsely : Prop := fnExactBe32Row.holds Try.pinned (OpenSpec.ofChange fnExactBe32Wrong)

/-- 'laws.FnExactHexText': WHATEVER THE INPUT: true; the input reads as it did. -/
def fnExactHexTextSpec : ChangeSpec := { name := "fnExactHexText", fn := fun _ => fun
  | [d] => { results := [.lit (.bool true)], args := [d] }
  | _ => none }
def fnExactHexTextRow : OpenClaim := { program := "ytmeimclfohbdfaa", sum := "4a3af8e14ce1291d2970af8b1ae5d601f325975f57118596f58eb22584c08da5", func := "loop.example/g00655/laws.FnExactHexText", spec := "fnExactHexText", apart := false }
def FnExactHexTextSaid : Prop := fnExactHexTextRow.holds Try.pinned (OpenSpec.ofChange fnExactHexTextSpec)

/-- ITS FALSE NEIGHBOUR: 'it returns false'. Refute it at one input. -/
def fnExactHexTextWrong : ChangeSpec := { name := "fnExactHexText", fn := fun _ => fun
  | [d] => { results := [.lit (.bool false)], args := [d] }
  | _ => none }
def FnExactHexTextWrongFalsely : Prop := fnExactHexTextRow.holds Try.pinned (OpenSpec.ofChange fnExactHexTextWrong)

/-- 'laws.FnExactPut16': WHATEVER THE INPUT: true; the input reads as it did. -/
def fnExactPut16Spec : ChangeSpec := { name := "fnExactPut16", fn := fun _ => fun
  | [d] => { results := [.lit (.bool true)], args := [d] }
  | _ => none }
def fnExactPut16Row : OpenClaim := { program := "ytmeimclfohbdfaa", sum := "4a3af8e14ce1291d2970af8b1ae5d601f325975f57118596f58eb22584c08da5", func := "loop.example/g00655/laws.FnExactPut16", spec := "fnExactPut16", apart := false }
def FnExactPut16Said : Prop := fnExactPut16Row.holds Try.pinned (OpenSpec.ofChange fnExactPut16Spec)

/-- ITS FALSE NEIGHBOUR: 'it returns false'. Refute it at one input. -/
def fnExactPut16Wrong : ChangeSpec := { name := "fnExactPut16", fn := fun _ => fun
  | [d] => { results := [.lit (.bool false)], args := [d] }
  | _ => none }
def FnExactPut16WrongFalsely : Prop := fnExactPut16Row.holds Try.pinned (OpenSpec.ofChange fnExactPut16Wrong)

/- THE SECOND FORM. 'bulk': how many values and letters a reading holds, each counted each time it is reached (what is shared counts as often as it is met; a slice's spare places count too). A statement '..UptoSaid' is the law's where the arguments, and the package variables that the reading takes, are together of bulk at most 1048576: NARROWER than '..Said'. Prove '..Said' where nothing that the law and all that it calls make is longer than what came in: it says more and counts as full. Else prove '..UptoSaid'. A law counts once. -/
mutual
def uptoBulk {H : Type} : DataW H → Nat
  | .lit (.string bytes) => bytes.length + 1
  | .lit _ => 1
  | .nil => 1
  | .ptr d => uptoBulk d + 1
  | .slice elems spare => uptoBulkAll elems + uptoBulkAll spare + 1
  | .agg parts => uptoBulkAll parts + 1
  | .iface _ d => uptoBulk d + 1
  | .map entries => uptoBulkEntries entries + 1
  | .held _ => 1
def uptoBulkAll {H : Type} : List (DataW H) → Nat
  | [] => 0
  | d :: r => uptoBulk d + uptoBulkAll r
def uptoBulkEntries {H : Type} : List (Lit × DataW H) → Nat
  | [] => 0
  | x :: r => uptoBulkEntry x + uptoBulkEntries r
def uptoBulkEntry {H : Type} : Lit × DataW H → Nat
  | (.string bytes, d) => bytes.length + uptoBulk d + 1
  | (_, d) => uptoBulk d + 1
 end
def uptoSmall : (H : Type) → List (DataW H) → Bool := fun _ ds => decide (uptoBulkAll ds ≤ 1048576)
def OpenSpec.upto (s : _root_.Go.ChangeSpec) : _root_.Go.OpenSpec := { _root_.Go.OpenSpec.ofChange s with cond := some uptoSmall }

/-- 'laws.FnExactConstants', WHERE WHAT IT READS IS OF BULK AT MOST 1048576: true; the input reads as it did. -/
def fnExactConstantsUptoRow : OpenClaim := { program := "ytmeimclfohbdfaa", sum := "4a3af8e14ce1291d2970af8b1ae5d601f325975f57118596f58eb22584c08da5", func := "loop.example/g00655/laws.FnExactConstants", spec := "fnExactConstants", apart := false, narrowed := true }
def FnExactConstantsUptoSaid : Prop := fnExactConstantsUptoRow.holds Try.pinned (OpenSpec.upto fnExactConstantsSpec)

/-- 'laws.FnExactTagParts', WHERE WHAT IT READS IS OF BULK AT MOST 1048576: true; the input reads as it did. -/
def fnExactTagPartsUptoRow : OpenClaim := { program := "ytmeimclfohbdfaa", sum := "4a3af8e14ce1291d2970af8b1ae5d601f325975f57118596f58eb22584c08da5", func := "loop.example/g00655/laws.FnExactTagParts", spec := "fnExactTagParts", apart := false, narrowed := true }
def FnExactTagPartsUptoSaid : Prop := fnExactTagPartsUptoRow.holds Try.pinned (OpenSpec.upto fnExactTagPartsSpec)

/-- 'laws.FnExactMarking', WHERE WHAT IT READS IS OF BULK AT MOST 1048576: true; the input reads as it did. -/
def fnExactMarkingUptoRow : OpenClaim := { program := "ytmeimclfohbdfaa", sum := "4a3af8e14ce1291d2970af8b1ae5d601f325975f57118596f58eb22584c08da5", func := "loop.example/g00655/laws.FnExactMarking", spec := "fnExactMarking", apart := false, narrowed := true }
def FnExactMarkingUptoSaid : Prop := fnExactMarkingUptoRow.holds Try.pinned (OpenSpec.upto fnExactMarkingSpec)

/-- 'laws.FnExactClip', WHERE WHAT IT READS IS OF BULK AT MOST 1048576: true; the input reads as it did. -/
def fnExactClipUptoRow : OpenClaim := { program := "ytmeimclfohbdfaa", sum := "4a3af8e14ce1291d2970af8b1ae5d601f325975f57118596f58eb22584c08da5", func := "loop.example/g00655/laws.FnExactClip", spec := "fnExactClip", apart := false, narrowed := true }
def FnExactClipUptoSaid : Prop := fnExactClipUptoRow.holds Try.pinned (OpenSpec.upto fnExactClipSpec)

/-- 'laws.FnExactAddrOk', WHERE WHAT IT READS IS OF BULK AT MOST 1048576: true; the input reads as it did. -/
def fnExactAddrOkUptoRow : OpenClaim := { program := "ytmeimclfohbdfaa", sum := "4a3af8e14ce1291d2970af8b1ae5d601f325975f57118596f58eb22584c08da5", func := "loop.example/g00655/laws.FnExactAddrOk", spec := "fnExactAddrOk", apart := false, narrowed := true }
def FnExactAddrOkUptoSaid : Prop := fnExactAddrOkUptoRow.holds Try.pinned (OpenSpec.upto fnExactAddrOkSpec)

/-- 'laws.FnExactUpperKind', WHERE WHAT IT READS IS OF BULK AT MOST 1048576: true; the input reads as it did. -/
def fnExactUpperKindUptoRow : OpenClaim := { program := "ytmeimclfohbdfaa", sum := "4a3af8e14ce1291d2970af8b1ae5d601f325975f57118596f58eb22584c08da5", func := "loop.example/g00655/laws.FnExactUpperKind", spec := "fnExactUpperKind", apart := false, narrowed := true }
def FnExactUpperKindUptoSaid : Prop := fnExactUpperKindUptoRow.holds Try.pinned (OpenSpec.upto fnExactUpperKindSpec)

/-- 'laws.FnExactSumAdd', WHERE WHAT IT READS IS OF BULK AT MOST 1048576: true; the input reads as it did. -/
def fnExactSumAddUptoRow : OpenClaim := { program := "ytmeimclfohbdfaa", sum := "4a3af8e14ce1291d2970af8b1ae5d601f325975f57118596f58eb22584c08da5", func := "loop.example/g00655/laws.FnExactSumAdd", spec := "fnExactSumAdd", apart := false, narrowed := true }
def FnExactSumAddUptoSaid : Prop := fnExactSumAddUptoRow.holds Try.pinned (OpenSpec.upto fnExactSumAddSpec)

/-- 'laws.FnExactBe16', WHERE WHAT IT READS IS OF BULK AT MOST 1048576: true; the input reads as it did. -/
def fnExactBe16UptoRow : OpenClaim := { program := "ytmeimclfohbdfaa", sum := "4a3af8e14ce1291d2970af8b1ae5d601f325975f57118596f58eb22584c08da5", func := "loop.example/g00655/laws.FnExactBe16", spec := "fnExactBe16", apart := false, narrowed := true }
def FnExactBe16UptoSaid : Prop := fnExactBe16UptoRow.holds Try.pinned (OpenSpec.upto fnExactBe16Spec)

/-- 'laws.FnExactSumSwap', WHERE WHAT IT READS IS OF BULK AT MOST 1048576: true; the input reads as it did. -/
def fnExactSumSwapUptoRow : OpenClaim := { program := "ytmeimclfohbdfaa", sum := "4a3af8e14ce1291d2970af8b1ae5d601f325975f57118596f58eb22584c08da5", func := "loop.example/g00655/laws.FnExactSumSwap", spec := "fnExactSumSwap", apart := false, narrowed := true }
def FnExactSumSwapUptoSaid : Prop := fnExactSumSwapUptoRow.holds Try.pinned (OpenSpec.upto fnExactSumSwapSpec)

/-- 'laws.FnExactBe32', WHERE WHAT IT READS IS OF BULK AT MOST 1048576: true; the input reads as it did. -/
def fnExactBe32UptoRow : OpenClaim := { program := "ytmeimclfohbdfaa", sum := "4a3af8e14ce1291d2970af8b1ae5d601f325975f57118596f58eb22584c08da5", func := "loop.example/g00655/laws.FnExactBe32", spec := "fnExactBe32", apart := false, narrowed := true }
def FnExactBe32UptoSaid : Prop := fnExactBe32UptoRow.holds Try.pinned (OpenSpec.upto fnExactBe32Spec)

/-- 'laws.FnExactHexText', WHERE WHAT IT READS IS OF BULK AT MOST 1048576: true; the input reads as it did. -/
def fnExactHexTextUptoRow : OpenClaim := { program := "ytmeimclfohbdfaa", sum := "4a3af8e14ce1291d2970af8b1ae5d601f325975f57118596f58eb22584c08da5", func := "loop.example/g00655/laws.FnExactHexText", spec := "fnExactHexText", apart := false, narrowed := true }
def FnExactHexTextUptoSaid : Prop := fnExactHexTextUptoRow.holds Try.pinned (OpenSpec.upto fnExactHexTextSpec)

/-- 'laws.FnExactPut16', WHERE WHAT IT READS IS OF BULK AT MOST 1048576: true; the input reads as it did. -/
def fnExactPut16UptoRow : OpenClaim := { program := "ytmeimclfohbdfaa", sum := "4a3af8e14ce1291d2970af8b1ae5d601f325975f57118596f58eb22584c08da5", func := "loop.example/g00655/laws.FnExactPut16", spec := "fnExactPut16", apart := false, narrowed := true }
def FnExactPut16UptoSaid : Prop := fnExactPut16UptoRow.holds Try.pinned (OpenSpec.upto fnExactPut16Spec)

end Rows
end Go.Proofs.Ytmeimclfohbdfaa
