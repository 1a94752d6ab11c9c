/-
  No cell of these rows narrows 'for every input' (looked for: loops, veiled, ifaces, maps, wideKeys, modest, calm, conditions, laid).
  DERIVED. THE GIVEN ROWS OF THIS SEAT. 10 by the template 'for every input the law returns true; each argument reads behind the call as it read before'; 0 by the template 'total and deterministic' (their statements: YtgkfgichilclgaaTotals.lean).
  GIVEN WITH THE SEED: the statements are not yours to turn. If you find one false, say at which input.
  Laid BY PROGRAM, IN A SANDBOX (cutbox-rows.mjs): the forced cells as the released guide's own fill.sh prints them over the translation b1a685b0e98eddaa… (all of the seat's roots in one cut). By AI agents, Wed Nov 11 2026. No macro, syntax, notation, axiom, sorry.
-/
import Derived.Test.YtgkfgichilclgaaChecked
import GoSem.Claim
import GoSem.ClaimJoined
import GoSem.ClaimMapViews
import Derived.JoinedTies
import Derived.KernelRfl
namespace Go.Proofs.Ytgkfgichilclgaa
/- THE CELL 'sum', in the pinned program and in every row, IS THE sha256 OF THE DUMP (.gsa) THAT YtgkfgichilclgaaProg.lean LOADS. Nothing in Lean hashes anything: it is a label: what it is worth is what the hold of that sum in a sandbox is worth. -/
noncomputable def Try.pinned : Pinned := { name := "ytgkfgichilclgaa", sum := "b1a685b0e98eddaa76705c9e2fb912557358fd16e86664cb26cedc5ac794e593", checked := Try.checked }
namespace Rows
def none {H : Type} : Left H := { results := [], args := [] }

/-- 'laws.FnExactRuleOk': WHATEVER THE INPUT: true; the input reads as it did. -/
def fnExactRuleOkSpec : ChangeSpec := { name := "fnExactRuleOk", fn := fun _ => fun
  | [d] => { results := [.lit (.bool true)], args := [d] }
  | _ => none }
def fnExactRuleOkRow : OpenClaim := { program := "ytgkfgichilclgaa", sum := "b1a685b0e98eddaa76705c9e2fb912557358fd16e86664cb26cedc5ac794e593", func := "loop.example/g00655/laws.FnExactRuleOk", spec := "fnExactRuleOk", apart := false }
def FnExactRuleOkSaid : Prop := fnExactRuleOkRow.holds Try.pinned (OpenSpec.ofChange fnExactRuleOkSpec)

/-- ITS FALSE NEIGHBOUR: 'it returns false'. Refute it at one input. -/
def fnExactRuleOkWrong : ChangeSpec := { name := "fnExactRuleOk", fn := fun _ => fun
  | [d] => { results := [.lit (.bool false)], args := [d] }
  | _ => none }
def FnExactRuleOkWrongFalsely : Prop := fnExactRuleOkRow.holds Try.pinned (OpenSpec.ofChange fnExactRuleOkWrong)

/-- 'laws.FnExactSixRead': WHATEVER THE INPUT: true; the input reads as it did. -/
def fnExactSixReadSpec : ChangeSpec := { name := "fnExactSixRead", fn := fun _ => fun
  | [d] => { results := [.lit (.bool true)], args := [d] }
  | _ => none }
def fnExactSixReadRow : OpenClaim := { program := "ytgkfgichilclgaa", sum := "b1a685b0e98eddaa76705c9e2fb912557358fd16e86664cb26cedc5ac794e593", func := "loop.example/g00655/laws.FnExactSixRead", spec := "fnExactSixRead", apart := false }
def FnExactSixReadSaid : Prop := fnExactSixReadRow.holds Try.pinned (OpenSpec.ofChange fnExactSixReadSpec)

/-- ITS FALSE NEIGHBOUR: 'it returns false'. Refute it at one input. -/
def fnExactSixReadWrong : ChangeSpec := { name := "fnExactSixRead", fn := fun _ => fun
  | [d] => { results := [.lit (.bool false)], args := [d] }
  | _ => none }
def FnExactSixReadWrongFalsely : Prop := fnExactSixReadRow.holds Try.pinned (OpenSpec.ofChange fnExactSixReadWrong)

/-- 'laws.FnExactRuleCovers': WHATEVER THE INPUT: true; the input reads as it did. -/
def fnExactRuleCoversSpec : ChangeSpec := { name := "fnExactRuleCovers", fn := fun _ => fun
  | [d1, d2] => { results := [.lit (.bool true)], args := [d1, d2] }
  | _ => none }
def fnExactRuleCoversRow : OpenClaim := { program := "ytgkfgichilclgaa", sum := "b1a685b0e98eddaa76705c9e2fb912557358fd16e86664cb26cedc5ac794e593", func := "loop.example/g00655/laws.FnExactRuleCovers", spec := "fnExactRuleCovers", apart := false }
def FnExactRuleCoversSaid : Prop := fnExactRuleCoversRow.holds Try.pinned (OpenSpec.ofChange fnExactRuleCoversSpec)

/-- ITS FALSE NEIGHBOUR: 'it returns false'. Refute it at one input. -/
def fnExactRuleCoversWrong : ChangeSpec := { name := "fnExactRuleCovers", fn := fun _ => fun
  | [d1, d2] => { results := [.lit (.bool false)], args := [d1, d2] }
  | _ => none }
def FnExactRuleCoversWrongFalsely : Prop := fnExactRuleCoversRow.holds Try.pinned (OpenSpec.ofChange fnExactRuleCoversWrong)

/-- 'laws.FnExactRuleHas': WHATEVER THE INPUT: true; the input reads as it did. -/
def fnExactRuleHasSpec : ChangeSpec := { name := "fnExactRuleHas", fn := fun _ => fun
  | [d1, d2] => { results := [.lit (.bool true)], args := [d1, d2] }
  | _ => none }
def fnExactRuleHasRow : OpenClaim := { program := "ytgkfgichilclgaa", sum := "b1a685b0e98eddaa76705c9e2fb912557358fd16e86664cb26cedc5ac794e593", func := "loop.example/g00655/laws.FnExactRuleHas", spec := "fnExactRuleHas", apart := false }
def FnExactRuleHasSaid : Prop := fnExactRuleHasRow.holds Try.pinned (OpenSpec.ofChange fnExactRuleHasSpec)

/-- ITS FALSE NEIGHBOUR: 'it returns false'. Refute it at one input. -/
def fnExactRuleHasWrong : ChangeSpec := { name := "fnExactRuleHas", fn := fun _ => fun
  | [d1, d2] => { results := [.lit (.bool false)], args := [d1, d2] }
  | _ => none }
def FnExactRuleHasWrongFalsely : Prop := fnExactRuleHasRow.holds Try.pinned (OpenSpec.ofChange fnExactRuleHasWrong)

/-- 'laws.FnExactHeadSum': WHATEVER THE INPUT: true; the input reads as it did. -/
def fnExactHeadSumSpec : ChangeSpec := { name := "fnExactHeadSum", fn := fun _ => fun
  | [d] => { results := [.lit (.bool true)], args := [d] }
  | _ => none }
def fnExactHeadSumRow : OpenClaim := { program := "ytgkfgichilclgaa", sum := "b1a685b0e98eddaa76705c9e2fb912557358fd16e86664cb26cedc5ac794e593", func := "loop.example/g00655/laws.FnExactHeadSum", spec := "fnExactHeadSum", apart := false }
def FnExactHeadSumSaid : Prop := fnExactHeadSumRow.holds Try.pinned (OpenSpec.ofChange fnExactHeadSumSpec)

/-- ITS FALSE NEIGHBOUR: 'it returns false'. Refute it at one input. -/
def fnExactHeadSumWrong : ChangeSpec := { name := "fnExactHeadSum", fn := fun _ => fun
  | [d] => { results := [.lit (.bool false)], args := [d] }
  | _ => none }
def FnExactHeadSumWrongFalsely : Prop := fnExactHeadSumRow.holds Try.pinned (OpenSpec.ofChange fnExactHeadSumWrong)

/-- 'laws.FnExactFourBytes': WHATEVER THE INPUT: true; the input reads as it did. -/
def fnExactFourBytesSpec : ChangeSpec := { name := "fnExactFourBytes", fn := fun _ => fun
  | [d] => { results := [.lit (.bool true)], args := [d] }
  | _ => none }
def fnExactFourBytesRow : OpenClaim := { program := "ytgkfgichilclgaa", sum := "b1a685b0e98eddaa76705c9e2fb912557358fd16e86664cb26cedc5ac794e593", func := "loop.example/g00655/laws.FnExactFourBytes", spec := "fnExactFourBytes", apart := false }
def FnExactFourBytesSaid : Prop := fnExactFourBytesRow.holds Try.pinned (OpenSpec.ofChange fnExactFourBytesSpec)

/-- ITS FALSE NEIGHBOUR: 'it returns false'. Refute it at one input. -/
def fnExactFourBytesWrong : ChangeSpec := { name := "fnExactFourBytes", fn := fun _ => fun
  | [d] => { results := [.lit (.bool false)], args := [d] }
  | _ => none }
def FnExactFourBytesWrongFalsely : Prop := fnExactFourBytesRow.holds Try.pinned (OpenSpec.ofChange fnExactFourBytesWrong)

/-- 'laws.FnExactSixBytes': WHATEVER THE INPUT: true; the input reads as it did. -/
def fnExactSixBytesSpec : ChangeSpec := { name := "fnExactSixBytes", fn := fun _ => fun
  | [d] => { results := [.lit (.bool true)], args := [d] }
  | _ => none }
def fnExactSixBytesRow : OpenClaim := { program := "ytgkfgichilclgaa", sum := "b1a685b0e98eddaa76705c9e2fb912557358fd16e86664cb26cedc5ac794e593", func := "loop.example/g00655/laws.FnExactSixBytes", spec := "fnExactSixBytes", unfollowed := true, recurses := true, apart := false }
def FnExactSixBytesSaid : Prop := fnExactSixBytesRow.holds Try.pinned (OpenSpec.ofChange fnExactSixBytesSpec)

/-- ITS FALSE NEIGHBOUR: 'it returns false'. Refute it at one input. -/
def fnExactSixBytesWrong : ChangeSpec := { name := "fnExactSixBytes", fn := fun _ => fun
  | [d] => { results := [.lit (.bool false)], args := [d] }
  | _ => none }
def FnExactSixBytesWrongFalsely : Prop := fnExactSixBytesRow.holds Try.pinned (OpenSpec.ofChange fnExactSixBytesWrong)

/-- 'laws.FnExactFourRead': WHATEVER THE INPUT: true; the input reads as it did. -/
def fnExactFourReadSpec : ChangeSpec := { name := "fnExactFourRead", fn := fun _ => fun
  | [d] => { results := [.lit (.bool true)], args := [d] }
  | _ => none }
def fnExactFourReadRow : OpenClaim := { program := "ytgkfgichilclgaa", sum := "b1a685b0e98eddaa76705c9e2fb912557358fd16e86664cb26cedc5ac794e593", func := "loop.example/g00655/laws.FnExactFourRead", spec := "fnExactFourRead", apart := false }
def FnExactFourReadSaid : Prop := fnExactFourReadRow.holds Try.pinned (OpenSpec.ofChange fnExactFourReadSpec)

/-- ITS FALSE NEIGHBOUR: 'it returns false'. Refute it at one input. -/
def fnExactFourReadWrong : ChangeSpec := { name := "fnExactFourRead", fn := fun _ => fun
  | [d] => { results := [.lit (.bool false)], args := [d] }
  | _ => none }
def FnExactFourReadWrongFalsely : Prop := fnExactFourReadRow.holds Try.pinned (OpenSpec.ofChange fnExactFourReadWrong)

/-- 'laws.FnExactUpperBytes': WHATEVER THE INPUT: true; the input reads as it did. -/
def fnExactUpperBytesSpec : ChangeSpec := { name := "fnExactUpperBytes", fn := fun _ => fun
  | [d1, d2, d3] => { results := [.lit (.bool true)], args := [d1, d2, d3] }
  | _ => none }
def fnExactUpperBytesRow : OpenClaim := { program := "ytgkfgichilclgaa", sum := "b1a685b0e98eddaa76705c9e2fb912557358fd16e86664cb26cedc5ac794e593", func := "loop.example/g00655/laws.FnExactUpperBytes", spec := "fnExactUpperBytes", unfollowed := true, recurses := true, apart := false }
def FnExactUpperBytesSaid : Prop := fnExactUpperBytesRow.holds Try.pinned (OpenSpec.ofChange fnExactUpperBytesSpec)

/-- ITS FALSE NEIGHBOUR: 'it returns false'. Refute it at one input. -/
def fnExactUpperBytesWrong : ChangeSpec := { name := "fnExactUpperBytes", fn := fun _ => fun
  | [d1, d2, d3] => { results := [.lit (.bool false)], args := [d1, d2, d3] }
  | _ => none }
def FnExactUpperBytesWrongFalsely : Prop := fnExactUpperBytesRow.holds Try.pinned (OpenSpec.ofChange fnExactUpperBytesWrong)

/-- 'laws.FnExactUpperRead': WHATEVER THE INPUT: true; the input reads as it did. -/
def fnExactUpperReadSpec : ChangeSpec := { name := "fnExactUpperRead", fn := fun _ => fun
  | [d1, d2, d3, d4] => { results := [.lit (.bool true)], args := [d1, d2, d3, d4] }
  | _ => none }
def fnExactUpperReadRow : OpenClaim := { program := "ytgkfgichilclgaa", sum := "b1a685b0e98eddaa76705c9e2fb912557358fd16e86664cb26cedc5ac794e593", func := "loop.example/g00655/laws.FnExactUpperRead", spec := "fnExactUpperRead", unfollowed := true, recurses := true, apart := false }
def FnExactUpperReadSaid : Prop := fnExactUpperReadRow.holds Try.pinned (OpenSpec.ofChange fnExactUpperReadSpec)

/-- ITS FALSE NEIGHBOUR: 'it returns false'. Refute it at one input. -/
def fnExactUpperReadWrong : ChangeSpec := { name := "fnExactUpperRead", fn := fun _ => fun
  | [d1, d2, d3, d4] => { results := [.lit (.bool false)], args := [d1, d2, d3, d4] }
  | _ => none }
def FnExactUpperReadWrongFalsely : Prop := fnExactUpperReadRow.holds Try.pinned (OpenSpec.ofChange fnExactUpperReadWrong)

/- THE SECOND FORM. 'bulk': how many values and letters a reading holds, each counted each time it is reached (what is shared counts as often as it is met; a slice's spare places count too). A statement '..UptoSaid' is the law's where the arguments, and the package variables that the reading takes, are together of bulk at most 1048576: NARROWER than '..Said'. Prove '..Said' where nothing that the law and all that it calls make is longer than what came in: it says more and counts as full. Else prove '..UptoSaid'. A law counts once. -/
mutual
def uptoBulk {H : Type} : DataW H → Nat
  | .lit (.string bytes) => bytes.length + 1
  | .lit _ => 1
  | .nil => 1
  | .ptr d => uptoBulk d + 1
  | .slice elems spare => uptoBulkAll elems + uptoBulkAll spare + 1
  | .agg parts => uptoBulkAll parts + 1
  | .iface _ d => uptoBulk d + 1
  | .map entries => uptoBulkEntries entries + 1
  | .held _ => 1
def uptoBulkAll {H : Type} : List (DataW H) → Nat
  | [] => 0
  | d :: r => uptoBulk d + uptoBulkAll r
def uptoBulkEntries {H : Type} : List (Lit × DataW H) → Nat
  | [] => 0
  | x :: r => uptoBulkEntry x + uptoBulkEntries r
def uptoBulkEntry {H : Type} : Lit × DataW H → Nat
  | (.string bytes, d) => bytes.length + uptoBulk d + 1
  | (_, d) => uptoBulk d + 1
 end
def uptoSmall : (H : Type) → List (DataW H) → Bool := fun _ ds => decide (uptoBulkAll ds ≤ 1048576)
def OpenSpec.upto (s : _root_.Go.ChangeSpec) : _root_.Go.OpenSpec := { _root_.Go.OpenSpec.ofChange s with cond := some uptoSmall }

/-- 'laws.FnExactRuleOk', WHERE WHAT IT READS IS OF BULK AT MOST 1048576: true; the input reads as it did. -/
def fnExactRuleOkUptoRow : OpenClaim := { program := "ytgkfgichilclgaa", sum := "b1a685b0e98eddaa76705c9e2fb912557358fd16e86664cb26cedc5ac794e593", func := "loop.example/g00655/laws.FnExactRuleOk", spec := "fnExactRuleOk", apart := false, narrowed := true }
def FnExactRuleOkUptoSaid : Prop := fnExactRuleOkUptoRow.holds Try.pinned (OpenSpec.upto fnExactRuleOkSpec)

/-- 'laws.FnExactSixRead', WHERE WHAT IT READS IS OF BULK AT MOST 1048576: true; the input reads as it did. -/
def fnExactSixReadUptoRow : OpenClaim := { program := "ytgkfgichilclgaa", sum := "b1a685b0e98eddaa76705c9e2fb912557358fd16e86664cb26cedc5ac794e593", func := "loop.example/g00655/laws.FnExactSixRead", spec := "fnExactSixRead", apart := false, narrowed := true }
def FnExactSixReadUptoSaid : Prop := fnExactSixReadUptoRow.holds Try.pinned (OpenSpec.upto fnExactSixReadSpec)

/-- 'laws.FnExactRuleCovers', WHERE WHAT IT READS IS OF BULK AT MOST 1048576: true; the input reads as it did. -/
def fnExactRuleCoversUptoRow : OpenClaim := { program := "ytgkfgichilclgaa", sum := "b1a685b0e98eddaa76705c9e2fb912557358fd16e86664cb26cedc5ac794e593", func := "loop.example/g00655/laws.FnExactRuleCovers", spec := "fnExactRuleCovers", apart := false, narrowed := true }
def FnExactRuleCoversUptoSaid : Prop := fnExactRuleCoversUptoRow.holds Try.pinned (OpenSpec.upto fnExactRuleCoversSpec)

/-- 'laws.FnExactRuleHas', WHERE WHAT IT READS IS OF BULK AT MOST 1048576: true; the input reads as it did. -/
def fnExactRuleHasUptoRow : OpenClaim := { program := "ytgkfgichilclgaa", sum := "b1a685b0e98eddaa76705c9e2fb912557358fd16e86664cb26cedc5ac794e593", func := "loop.example/g00655/laws.FnExactRuleHas", spec := "fnExactRuleHas", apart := false, narrowed := true }
def FnExactRuleHasUptoSaid : Prop := fnExactRuleHasUptoRow.holds Try.pinned (OpenSpec.upto fnExactRuleHasSpec)

/-- 'laws.FnExactHeadSum', WHERE WHAT IT READS IS OF BULK AT MOST 1048576: true; the input reads as it did. -/
def fnExactHeadSumUptoRow : OpenClaim := { program := "ytgkfgichilclgaa", sum := "b1a685b0e98eddaa76705c9e2fb912557358fd16e86664cb26cedc5ac794e593", func := "loop.example/g00655/laws.FnExactHeadSum", spec := "fnExactHeadSum", apart := false, narrowed := true }
def FnExactHeadSumUptoSaid : Prop := fnExactHeadSumUptoRow.holds Try.pinned (OpenSpec.upto fnExactHeadSumSpec)

/-- 'laws.FnExactFourBytes', WHERE WHAT IT READS IS OF BULK AT MOST 1048576: true; the input reads as it did. -/
def fnExactFourBytesUptoRow : OpenClaim := { program := "ytgkfgichilclgaa", sum := "b1a685b0e98eddaa76705c9e2fb912557358fd16e86664cb26cedc5ac794e593", func := "loop.example/g00655/laws.FnExactFourBytes", spec := "fnExactFourBytes", apart := false, narrowed := true }
def FnExactFourBytesUptoSaid : Prop := fnExactFourBytesUptoRow.holds Try.pinned (OpenSpec.upto fnExactFourBytesSpec)

/-- 'laws.FnExactSixBytes', WHERE WHAT IT READS IS OF BULK AT MOST 1048576: true; the input reads as it did. -/
def fnExactSixBytesUptoRow : OpenClaim := { program := "ytgkfgichilclgaa", sum := "b1a685b0e98eddaa76705c9e2fb912557358fd16e86664cb26cedc5ac794e593", func := "loop.example/g00655/laws.FnExactSixBytes", spec := "fnExactSixBytes", unfollowed := true, recurses := true, apart := false, narrowed := true }
def FnExactSixBytesUptoSaid : Prop := fnExactSixBytesUptoRow.holds Try.pinned (OpenSpec.upto fnExactSixBytesSpec)

/-- 'laws.FnExactFourRead', WHERE WHAT IT READS IS OF BULK AT MOST 1048576: true; the input reads as it did. -/
def fnExactFourReadUptoRow : OpenClaim := { program := "ytgkfgichilclgaa", sum := "b1a685b0e98eddaa76705c9e2fb912557358fd16e86664cb26cedc5ac794e593", func := "loop.example/g00655/laws.FnExactFourRead", spec := "fnExactFourRead", apart := false, narrowed := true }
def FnExactFourReadUptoSaid : Prop := fnExactFourReadUptoRow.holds Try.pinned (OpenSpec.upto fnExactFourReadSpec)

/-- 'laws.FnExactUpperBytes', WHERE WHAT IT READS IS OF BULK AT MOST 1048576: true; the input reads as it did. -/
def fnExactUpperBytesUptoRow : OpenClaim := { program := "ytgkfgichilclgaa", sum := "b1a685b0e98eddaa76705c9e2fb912557358fd16e86664cb26cedc5ac794e593", func := "loop.example/g00655/laws.FnExactUpperBytes", spec := "fnExactUpperBytes", unfollowed := true, recurses := true, apart := false, narrowed := true }
def FnExactUpperBytesUptoSaid : Prop := fnExactUpperBytesUptoRow.holds Try.pinned (OpenSpec.upto fnExactUpperBytesSpec)

/-- 'laws.FnExactUpperRead', WHERE WHAT IT READS IS OF BULK AT MOST 1048576: true; the input reads as it did. -/
def fnExactUpperReadUptoRow : OpenClaim := { program := "ytgkfgichilclgaa", sum := "b1a685b0e98eddaa76705c9e2fb912557358fd16e86664cb26cedc5ac794e593", func := "loop.example/g00655/laws.FnExactUpperRead", spec := "fnExactUpperRead", unfollowed := true, recurses := true, apart := false, narrowed := true }
def FnExactUpperReadUptoSaid : Prop := fnExactUpperReadUptoRow.holds Try.pinned (OpenSpec.upto fnExactUpperReadSpec)

end Rows
end Go.Proofs.Ytgkfgichilclgaa
