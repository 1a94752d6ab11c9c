/-
  No cell of these rows narrows 'for every input' (looked for: loops, veiled, ifaces, maps, wideKeys, modest, calm, conditions, laid).
  DERIVED. THE GIVEN ROWS OF THIS SEAT. 3 by the template 'for every input the law returns true; each argument reads behind the call as it read before'; 0 by the template 'total and deterministic' (their statements: YtffkgndghbdgnaaGreatTotals.lean).
  GIVEN WITH THE SEED: the statements are not yours to turn. If you find one false, say at which input.
  Laid BY PROGRAM, IN A SANDBOX (cutbox-rows.mjs): the forced cells as the released guide's own fill.sh prints them over the translation 6ebb47d92788b4c3… (all of the seat's roots in one cut). By AI agents, Wed Nov 11 2026. No macro, syntax, notation, axiom, sorry.
-/
import Derived.Test.YtffkgndghbdgnaaGreatChecked
import GoSem.Claim
import GoSem.ClaimJoined
import GoSem.ClaimMapViews
import Derived.JoinedTies
import Derived.KernelRfl
namespace Go.Proofs.YtffkgndghbdgnaaGreat
/- THE CELL 'sum', in the pinned program and in every row, IS THE sha256 OF THE DUMP (.gsa) THAT YtffkgndghbdgnaaGreatProg.lean LOADS. Nothing in Lean hashes anything: it is a label: what it is worth is what the hold of that sum in a sandbox is worth. -/
noncomputable def Tryz.pinned : Pinned := { name := "ytffkgndghbdgnaagreat", sum := "6ebb47d92788b4c3f929d37b1386c9d0610dc650e9dc0e8e0e564a49356fa24b", checked := Tryz.checked }
namespace Rows
def none {H : Type} : Left H := { results := [], args := [] }

/-- 'laws.FnExactPacketSize': WHATEVER THE INPUT: true; the input reads as it did. -/
def fnExactPacketSizeSpec : ChangeSpec := { name := "fnExactPacketSize", fn := fun _ => fun
  | [d] => { results := [.lit (.bool true)], args := [d] }
  | _ => none }
def fnExactPacketSizeRow : OpenClaim := { program := "ytffkgndghbdgnaagreat", sum := "6ebb47d92788b4c3f929d37b1386c9d0610dc650e9dc0e8e0e564a49356fa24b", func := "loop.example/g00655/laws.FnExactPacketSize", spec := "fnExactPacketSize", unfollowed := true, recurses := true, apart := false }
def FnExactPacketSizeSaid : Prop := fnExactPacketSizeRow.holds Tryz.pinned (OpenSpec.ofChange fnExactPacketSizeSpec)

/-- ITS FALSE NEIGHBOUR: 'it returns false'. Refute it at one input. -/
def fnExactPacketSizeWrong : ChangeSpec := { name := "fnExactPacketSize", fn := fun _ => fun
  | [d] => { results := [.lit (.bool false)], args := [d] }
  | _ => none }
def FnExactPacketSizeWrongFalsely : Prop := fnExactPacketSizeRow.holds Tryz.pinned (OpenSpec.ofChange fnExactPacketSizeWrong)

/-- 'laws.FnExactPacketBytes': WHATEVER THE INPUT: true; the input reads as it did. -/
def fnExactPacketBytesSpec : ChangeSpec := { name := "fnExactPacketBytes", fn := fun _ => fun
  | [d] => { results := [.lit (.bool true)], args := [d] }
  | _ => none }
def fnExactPacketBytesRow : OpenClaim := { program := "ytffkgndghbdgnaagreat", sum := "6ebb47d92788b4c3f929d37b1386c9d0610dc650e9dc0e8e0e564a49356fa24b", func := "loop.example/g00655/laws.FnExactPacketBytes", spec := "fnExactPacketBytes", unfollowed := true, recurses := true, apart := false }
def FnExactPacketBytesSaid : Prop := fnExactPacketBytesRow.holds Tryz.pinned (OpenSpec.ofChange fnExactPacketBytesSpec)

/-- ITS FALSE NEIGHBOUR: 'it returns false'. Refute it at one input. -/
def fnExactPacketBytesWrong : ChangeSpec := { name := "fnExactPacketBytes", fn := fun _ => fun
  | [d] => { results := [.lit (.bool false)], args := [d] }
  | _ => none }
def FnExactPacketBytesWrongFalsely : Prop := fnExactPacketBytesRow.holds Tryz.pinned (OpenSpec.ofChange fnExactPacketBytesWrong)

/-- 'laws.FnExactPacketOk': WHATEVER THE INPUT: true; the input reads as it did. -/
def fnExactPacketOkSpec : ChangeSpec := { name := "fnExactPacketOk", fn := fun _ => fun
  | [d] => { results := [.lit (.bool true)], args := [d] }
  | _ => none }
def fnExactPacketOkRow : OpenClaim := { program := "ytffkgndghbdgnaagreat", sum := "6ebb47d92788b4c3f929d37b1386c9d0610dc650e9dc0e8e0e564a49356fa24b", func := "loop.example/g00655/laws.FnExactPacketOk", spec := "fnExactPacketOk", unfollowed := true, recurses := true, apart := false }
def FnExactPacketOkSaid : Prop := fnExactPacketOkRow.holds Tryz.pinned (OpenSpec.ofChange fnExactPacketOkSpec)

/-- ITS FALSE NEIGHBOUR: 'it returns false'. Refute it at one input. -/
def fnExactPacketOkWrong : ChangeSpec := { name := "fnExactPacketOk", fn := fun _ => fun
  | [d] => { results := [.lit (.bool false)], args := [d] }
  | _ => none }
def FnExactPacketOkWrongFalsely : Prop := fnExactPacketOkRow.holds Tryz.pinned (OpenSpec.ofChange fnExactPacketOkWrong)

/- THE SECOND FORM. 'bulk': how many values and letters a reading holds, each counted each time it is reached (what is shared counts as often as it is met; a slice's spare places count too). A statement '..UptoSaid' is the law's where the arguments, and the package variables that the reading takes, are together of bulk at most 1048576: NARROWER than '..Said'. Prove '..Said' where nothing that the law and all that it calls make is longer than what came in: it says more and counts as full. Else prove '..UptoSaid'. A law counts once. -/
mutual
def uptoBulk {H : Type} : DataW H → Nat
  | .lit (.string bytes) => bytes.length + 1
  | .lit _ => 1
  | .nil => 1
  | .ptr d => uptoBulk d + 1
  | .slice elems spare => uptoBulkAll elems + uptoBulkAll spare + 1
  | .agg parts => uptoBulkAll parts + 1
  | .iface _ d => uptoBulk d + 1
  | .map entries => uptoBulkEntries entries + 1
  | .held _ => 1
def uptoBulkAll {H : Type} : List (DataW H) → Nat
  | [] => 0
  | d :: r => uptoBulk d + uptoBulkAll r
def uptoBulkEntries {H : Type} : List (Lit × DataW H) → Nat
  | [] => 0
  | x :: r => uptoBulkEntry x + uptoBulkEntries r
def uptoBulkEntry {H : Type} : Lit × DataW H → Nat
  | (.string bytes, d) => bytes.length + uptoBulk d + 1
  | (_, d) => uptoBulk d + 1
 end
def uptoSmall : (H : Type) → List (DataW H) → Bool := fun _ ds => decide (uptoBulkAll ds ≤ 1048576)
def OpenSpec.upto (s : _root_.Go.ChangeSpec) : _root_.Go.OpenSpec := { _root_.Go.OpenSpec.ofChange s with cond := some uptoSmall }

/-- 'laws.FnExactPacketSize', WHERE WHAT IT READS IS OF BULK AT MOST 1048576: true; the input reads as it did. -/
def fnExactPacketSizeUptoRow : OpenClaim := { program := "ytffkgndghbdgnaagreat", sum := "6ebb47d92788b4c3f929d37b1386c9d0610dc650e9dc0e8e0e564a49356fa24b", func := "loop.example/g00655/laws.FnExactPacketSize", spec := "fnExactPacketSize", unfollowed := true, recurses := true, apart := false, narrowed := true }
def FnExactPacketSizeUptoSaid : Prop := fnExactPacketSizeUptoRow.holds Tryz.pinned (OpenSpec.upto fnExactPacketSizeSpec)

/-- 'laws.FnExactPacketBytes', WHERE WHAT IT READS IS OF BULK AT MOST 1048576: true; the input reads as it did. -/
def fnExactPacketBytesUptoRow : OpenClaim := { program := "ytffkgndghbdgnaagreat", sum := "6ebb47d92788b4c3f929d37b1386c9d0610dc650e9dc0e8e0e564a49356fa24b", func := "loop.example/g00655/laws.FnExactPacketBytes", spec := "fnExactPacketBytes", unfollowed := true, recurses := true, apart := false, narrowed := true }
def FnExactPacketBytesUptoSaid : Prop := fnExactPacketBytesUptoRow.holds Tryz.pinned (OpenSpec.upto fnExactPacketBytesSpec)

/-- 'laws.FnExactPacketOk', WHERE WHAT IT READS IS OF BULK AT MOST 1048576: true; the input reads as it did. -/
def fnExactPacketOkUptoRow : OpenClaim := { program := "ytffkgndghbdgnaagreat", sum := "6ebb47d92788b4c3f929d37b1386c9d0610dc650e9dc0e8e0e564a49356fa24b", func := "loop.example/g00655/laws.FnExactPacketOk", spec := "fnExactPacketOk", unfollowed := true, recurses := true, apart := false, narrowed := true }
def FnExactPacketOkUptoSaid : Prop := fnExactPacketOkUptoRow.holds Tryz.pinned (OpenSpec.upto fnExactPacketOkSpec)

end Rows
end Go.Proofs.YtffkgndghbdgnaaGreat
