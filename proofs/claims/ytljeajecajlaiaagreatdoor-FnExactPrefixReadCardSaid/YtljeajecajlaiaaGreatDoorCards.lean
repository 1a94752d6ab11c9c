/-
  DERIVED. GIVEN WITH THE SEED: THE CARDS: each row of YtljeajecajlaiaaGreatDoorRows.lean that lists a variable, with what it lists TIED to the program's text (the seventh form; the later family's looks); each row that meets fmt, with fmt's text TOLD by the authors' own Lean function (tested against real Go, not proved from fmt's source: count such statements apart). THE CARD IS WHAT COUNTS. Prove the row's statement (the work); the ties are given (YtljeajecajlaiaaGreatDoorTie.lean); close each card by the builder's one call (the guide's Derived/Test/ToyasCard.lean, 'card_holds'). Laid BY PROGRAM, IN A SANDBOX (cutbox-door.mjs). By AI agents, Wed Nov 11 2026. No macro, syntax, notation, axiom, sorry.
-/
import Derived.Test.YtljeajecajlaiaaGreatDoorRows
import GoSem.ClaimSeven
namespace Go.Proofs.YtljeajecajlaiaaGreatDoor
namespace Rows

/-- THE TIED CARD OF 'laws.FnExactPrefixRead'. -/
def fnExactPrefixReadCard : Claim7 := { stood := { row := fnExactPrefixReadRow, standIns := [], harness := (true, "9285cbf4129c7a16624a4442728e34463b1c8322e7f0ed2d08d8f850eec75c06"), looks := true }, kinds := [], alts := [], laidByText := true, laidKinds := [.data, .data, .data, .data, .sentinel, .sentinel, .pinned], laidTests := true, laidLooks := .later }
def FnExactPrefixReadCardSaid : Prop := Claim7.holds Tryz.pinned (.plain (OpenSpec.ofChange fnExactPrefixReadSpec)) fnExactPrefixReadCard

/-- THE SECOND FORM's CARD OF 'laws.FnExactPrefixRead'. -/
def fnExactPrefixReadUptoCard : Claim7 := { stood := { row := fnExactPrefixReadUptoRow, standIns := [], harness := (true, "9285cbf4129c7a16624a4442728e34463b1c8322e7f0ed2d08d8f850eec75c06"), looks := true }, kinds := [], alts := [], laidByText := true, laidKinds := [.data, .data, .data, .data, .sentinel, .sentinel, .pinned], laidTests := true, laidLooks := .later }
def FnExactPrefixReadUptoCardSaid : Prop := Claim7.holds Tryz.pinned (.plain (OpenSpec.upto fnExactPrefixReadSpec)) fnExactPrefixReadUptoCard
end Rows
end Go.Proofs.YtljeajecajlaiaaGreatDoor
