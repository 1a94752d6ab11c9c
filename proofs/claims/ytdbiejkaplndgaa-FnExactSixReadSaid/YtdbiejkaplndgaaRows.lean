/-
  No cell of these rows narrows 'for every input' (looked for: loops, veiled, ifaces, maps, wideKeys, modest, calm, conditions, laid).
  DERIVED. THE GIVEN ROWS OF THIS SEAT. 5 by the template 'for every input the law returns true; each argument reads behind the call as it read before'; 0 by the template 'total and deterministic' (their statements: YtdbiejkaplndgaaTotals.lean).
  GIVEN WITH THE SEED: the statements are not yours to turn. If you find one false, say at which input.
  Laid BY PROGRAM, IN A SANDBOX (cutbox-rows.mjs): the forced cells as the released guide's own fill.sh prints them over the translation 5e8aa4d7a24eb0de… (all of the seat's roots in one cut). By AI agents, Wed Nov 11 2026. No macro, syntax, notation, axiom, sorry.
-/
import Derived.Test.YtdbiejkaplndgaaChecked
import GoSem.Claim
import GoSem.ClaimJoined
import GoSem.ClaimMapViews
import Derived.JoinedTies
import Derived.KernelRfl
namespace Go.Proofs.Ytdbiejkaplndgaa
/- THE CELL 'sum', in the pinned program and in every row, IS THE sha256 OF THE DUMP (.gsa) THAT YtdbiejkaplndgaaProg.lean LOADS. Nothing in Lean hashes anything: it is a label: what it is worth is what the hold of that sum in a sandbox is worth. -/
noncomputable def Try.pinned : Pinned := { name := "ytdbiejkaplndgaa", sum := "5e8aa4d7a24eb0de002ad372ca6a4e996ba459729b70418989fcf6934f6875e1", checked := Try.checked }
namespace Rows
def none {H : Type} : Left H := { results := [], args := [] }

/-- 'laws.FnExactSixRead': WHATEVER THE INPUT: true; the input reads as it did. -/
def fnExactSixReadSpec : ChangeSpec := { name := "fnExactSixRead", fn := fun _ => fun
  | [d] => { results := [.lit (.bool true)], args := [d] }
  | _ => none }
def fnExactSixReadRow : OpenClaim := { program := "ytdbiejkaplndgaa", sum := "5e8aa4d7a24eb0de002ad372ca6a4e996ba459729b70418989fcf6934f6875e1", func := "loop.example/g00655/laws.FnExactSixRead", spec := "fnExactSixRead", apart := false }
def FnExactSixReadSaid : Prop := fnExactSixReadRow.holds Try.pinned (OpenSpec.ofChange fnExactSixReadSpec)

/-- ITS FALSE NEIGHBOUR: 'it returns false'. Refute it at one input. -/
def fnExactSixReadWrong : ChangeSpec := { name := "fnExactSixRead", fn := fun _ => fun
  | [d] => { results := [.lit (.bool false)], args := [d] }
  | _ => none }
def FnExactSixReadWrongFalsely : Prop := fnExactSixReadRow.holds Try.pinned (OpenSpec.ofChange fnExactSixReadWrong)

/-- 'laws.FnExactSixBytes': WHATEVER THE INPUT: true; the input reads as it did. -/
def fnExactSixBytesSpec : ChangeSpec := { name := "fnExactSixBytes", fn := fun _ => fun
  | [d] => { results := [.lit (.bool true)], args := [d] }
  | _ => none }
def fnExactSixBytesRow : OpenClaim := { program := "ytdbiejkaplndgaa", sum := "5e8aa4d7a24eb0de002ad372ca6a4e996ba459729b70418989fcf6934f6875e1", func := "loop.example/g00655/laws.FnExactSixBytes", spec := "fnExactSixBytes", unfollowed := true, recurses := true, apart := false }
def FnExactSixBytesSaid : Prop := fnExactSixBytesRow.holds Try.pinned (OpenSpec.ofChange fnExactSixBytesSpec)

/-- ITS FALSE NEIGHBOUR: 'it returns false'. Refute it at one input. -/
def fnExactSixBytesWrong : ChangeSpec := { name := "fnExactSixBytes", fn := fun _ => fun
  | [d] => { results := [.lit (.bool false)], args := [d] }
  | _ => none }
def FnExactSixBytesWrongFalsely : Prop := fnExactSixBytesRow.holds Try.pinned (OpenSpec.ofChange fnExactSixBytesWrong)

/-- 'laws.FnExactFourRead': WHATEVER THE INPUT: true; the input reads as it did. -/
def fnExactFourReadSpec : ChangeSpec := { name := "fnExactFourRead", fn := fun _ => fun
  | [d] => { results := [.lit (.bool true)], args := [d] }
  | _ => none }
def fnExactFourReadRow : OpenClaim := { program := "ytdbiejkaplndgaa", sum := "5e8aa4d7a24eb0de002ad372ca6a4e996ba459729b70418989fcf6934f6875e1", func := "loop.example/g00655/laws.FnExactFourRead", spec := "fnExactFourRead", apart := false }
def FnExactFourReadSaid : Prop := fnExactFourReadRow.holds Try.pinned (OpenSpec.ofChange fnExactFourReadSpec)

/-- ITS FALSE NEIGHBOUR: 'it returns false'. Refute it at one input. -/
def fnExactFourReadWrong : ChangeSpec := { name := "fnExactFourRead", fn := fun _ => fun
  | [d] => { results := [.lit (.bool false)], args := [d] }
  | _ => none }
def FnExactFourReadWrongFalsely : Prop := fnExactFourReadRow.holds Try.pinned (OpenSpec.ofChange fnExactFourReadWrong)

/-- 'laws.FnExactUpperBytes': WHATEVER THE INPUT: true; the input reads as it did. -/
def fnExactUpperBytesSpec : ChangeSpec := { name := "fnExactUpperBytes", fn := fun _ => fun
  | [d1, d2, d3] => { results := [.lit (.bool true)], args := [d1, d2, d3] }
  | _ => none }
def fnExactUpperBytesRow : OpenClaim := { program := "ytdbiejkaplndgaa", sum := "5e8aa4d7a24eb0de002ad372ca6a4e996ba459729b70418989fcf6934f6875e1", func := "loop.example/g00655/laws.FnExactUpperBytes", spec := "fnExactUpperBytes", unfollowed := true, recurses := true, apart := false }
def FnExactUpperBytesSaid : Prop := fnExactUpperBytesRow.holds Try.pinned (OpenSpec.ofChange fnExactUpperBytesSpec)

/-- ITS FALSE NEIGHBOUR: 'it returns false'. Refute it at one input. -/
def fnExactUpperBytesWrong : ChangeSpec := { name := "fnExactUpperBytes", fn := fun _ => fun
  | [d1, d2, d3] => { results := [.lit (.bool false)], args := [d1, d2, d3] }
  | _ => none }
def FnExactUpperBytesWrongFalsely : Prop := fnExactUpperBytesRow.holds Try.pinned (OpenSpec.ofChange fnExactUpperBytesWrong)

/-- 'laws.FnExactUpperRead': WHATEVER THE INPUT: true; the input reads as it did. -/
def fnExactUpperReadSpec : ChangeSpec := { name := "fnExactUpperRead", fn := fun _ => fun
  | [d1, d2, d3, d4] => { results := [.lit (.bool true)], args := [d1, d2, d3, d4] }
  | _ => none }
def fnExactUpperReadRow : OpenClaim := { program := "ytdbiejkaplndgaa", sum := "5e8aa4d7a24eb0de002ad372ca6a4e996ba459729b70418989fcf6934f6875e1", func := "loop.example/g00655/laws.FnExactUpperRead", spec := "fnExactUpperRead", unfollowed := true, recurses := true, apart := false }
def FnExactUpperReadSaid : Prop := fnExactUpperReadRow.holds Try.pinned (OpenSpec.ofChange fnExactUpperReadSpec)

/-- ITS FALSE NEIGHBOUR: 'it returns false'. Refute it at one input. -/
def fnExactUpperReadWrong : ChangeSpec := { name := "fnExactUpperRead", fn := fun _ => fun
  | [d1, d2, d3, d4] => { results := [.lit (.bool false)], args := [d1, d2, d3, d4] }
  | _ => none }
def FnExactUpperReadWrongFalsely : Prop := fnExactUpperReadRow.holds Try.pinned (OpenSpec.ofChange fnExactUpperReadWrong)

/- THE SECOND FORM. 'bulk': how many values and letters a reading holds, each counted each time it is reached (what is shared counts as often as it is met; a slice's spare places count too). A statement '..UptoSaid' is the law's where the arguments, and the package variables that the reading takes, are together of bulk at most 1048576: NARROWER than '..Said'. Prove '..Said' where nothing that the law and all that it calls make is longer than what came in: it says more and counts as full. Else prove '..UptoSaid'. A law counts once. -/
mutual
def uptoBulk {H : Type} : DataW H → Nat
  | .lit (.string bytes) => bytes.length + 1
  | .lit _ => 1
  | .nil => 1
  | .ptr d => uptoBulk d + 1
  | .slice elems spare => uptoBulkAll elems + uptoBulkAll spare + 1
  | .agg parts => uptoBulkAll parts + 1
  | .iface _ d => uptoBulk d + 1
  | .map entries => uptoBulkEntries entries + 1
  | .held _ => 1
def uptoBulkAll {H : Type} : List (DataW H) → Nat
  | [] => 0
  | d :: r => uptoBulk d + uptoBulkAll r
def uptoBulkEntries {H : Type} : List (Lit × DataW H) → Nat
  | [] => 0
  | x :: r => uptoBulkEntry x + uptoBulkEntries r
def uptoBulkEntry {H : Type} : Lit × DataW H → Nat
  | (.string bytes, d) => bytes.length + uptoBulk d + 1
  | (_, d) => uptoBulk d + 1
 end
def uptoSmall : (H : Type) → List (DataW H) → Bool := fun _ ds => decide (uptoBulkAll ds ≤ 1048576)
def OpenSpec.upto (s : _root_.Go.ChangeSpec) : _root_.Go.OpenSpec := { _root_.Go.OpenSpec.ofChange s with cond := some uptoSmall }

/-- 'laws.FnExactSixRead', WHERE WHAT IT READS IS OF BULK AT MOST 1048576: true; the input reads as it did. -/
def fnExactSixReadUptoRow : OpenClaim := { program := "ytdbiejkaplndgaa", sum := "5e8aa4d7a24eb0de002ad372ca6a4e996ba459729b70418989fcf6934f6875e1", func := "loop.example/g00655/laws.FnExactSixRead", spec := "fnExactSixRead", apart := false, narrowed := true }
def FnExactSixReadUptoSaid : Prop := fnExactSixReadUptoRow.holds Try.pinned (OpenSpec.upto fnExactSixReadSpec)

/-- 'laws.FnExactSixBytes', WHERE WHAT IT READS IS OF BULK AT MOST 1048576: true; the input reads as it did. -/
def fnExactSixBytesUptoRow : OpenClaim := { program := "ytdbiejkaplndgaa", sum := "5e8aa4d7a24eb0de002ad372ca6a4e996ba459729b70418989fcf6934f6875e1", func := "loop.example/g00655/laws.FnExactSixBytes", spec := "fnExactSixBytes", unfollowed := true, recurses := true, apart := false, narrowed := true }
def FnExactSixBytesUptoSaid : Prop := fnExactSixBytesUptoRow.holds Try.pinned (OpenSpec.upto fnExactSixBytesSpec)

/-- 'laws.FnExactFourRead', WHERE WHAT IT READS IS OF BULK AT MOST 1048576: true; the input reads as it did. -/
def fnExactFourReadUptoRow : OpenClaim := { program := "ytdbiejkaplndgaa", sum := "5e8aa4d7a24eb0de002ad372ca6a4e996ba459729b70418989fcf6934f6875e1", func := "loop.example/g00655/laws.FnExactFourRead", spec := "fnExactFourRead", apart := false, narrowed := true }
def FnExactFourReadUptoSaid : Prop := fnExactFourReadUptoRow.holds Try.pinned (OpenSpec.upto fnExactFourReadSpec)

/-- 'laws.FnExactUpperBytes', WHERE WHAT IT READS IS OF BULK AT MOST 1048576: true; the input reads as it did. -/
def fnExactUpperBytesUptoRow : OpenClaim := { program := "ytdbiejkaplndgaa", sum := "5e8aa4d7a24eb0de002ad372ca6a4e996ba459729b70418989fcf6934f6875e1", func := "loop.example/g00655/laws.FnExactUpperBytes", spec := "fnExactUpperBytes", unfollowed := true, recurses := true, apart := false, narrowed := true }
def FnExactUpperBytesUptoSaid : Prop := fnExactUpperBytesUptoRow.holds Try.pinned (OpenSpec.upto fnExactUpperBytesSpec)

/-- 'laws.FnExactUpperRead', WHERE WHAT IT READS IS OF BULK AT MOST 1048576: true; the input reads as it did. -/
def fnExactUpperReadUptoRow : OpenClaim := { program := "ytdbiejkaplndgaa", sum := "5e8aa4d7a24eb0de002ad372ca6a4e996ba459729b70418989fcf6934f6875e1", func := "loop.example/g00655/laws.FnExactUpperRead", spec := "fnExactUpperRead", unfollowed := true, recurses := true, apart := false, narrowed := true }
def FnExactUpperReadUptoSaid : Prop := fnExactUpperReadUptoRow.holds Try.pinned (OpenSpec.upto fnExactUpperReadSpec)

end Rows
end Go.Proofs.Ytdbiejkaplndgaa
