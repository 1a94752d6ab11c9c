/-
  DERIVED. GIVEN WITH THE SEED: THE CARDS: each row of YtgkfgichilclgaaDoorRows.lean that lists a variable, with what it lists TIED to the program's text (the seventh form; the later family's looks); each row that meets fmt, with fmt's text TOLD by the authors' own Lean function (tested against real Go, not proved from fmt's source: count such statements apart). THE CARD IS WHAT COUNTS. Prove the row's statement (the work); the ties are given (YtgkfgichilclgaaDoorTie.lean); close each card by the builder's one call (the guide's Derived/Test/ToyasCard.lean, 'card_holds'). Laid BY PROGRAM, IN A SANDBOX (cutbox-door.mjs). By AI agents, Wed Nov 11 2026. No macro, syntax, notation, axiom, sorry.
-/
import Derived.Test.YtgkfgichilclgaaDoorRows
import GoSem.ClaimSeven
namespace Go.Proofs.YtgkfgichilclgaaDoor
namespace Rows

/-- THE TIED CARD OF 'laws.FnExactHexRead'. -/
def fnExactHexReadCard : Claim7 := { stood := { row := fnExactHexReadRow, standIns := [], harness := (true, "90a672461f72538157c770cd6e2e6b1547446b2bdca717e96b56e3c2ceb19d8c"), looks := false }, kinds := [], alts := [], laidByText := true, laidKinds := [.data, .pinned], laidTests := true, laidLooks := .later }
def FnExactHexReadCardSaid : Prop := Claim7.holds Tryd.pinned (.plain (OpenSpec.ofChange fnExactHexReadSpec)) fnExactHexReadCard

/-- THE SECOND FORM's CARD OF 'laws.FnExactHexRead'. -/
def fnExactHexReadUptoCard : Claim7 := { stood := { row := fnExactHexReadUptoRow, standIns := [], harness := (true, "90a672461f72538157c770cd6e2e6b1547446b2bdca717e96b56e3c2ceb19d8c"), looks := false }, kinds := [], alts := [], laidByText := true, laidKinds := [.data, .pinned], laidTests := true, laidLooks := .later }
def FnExactHexReadUptoCardSaid : Prop := Claim7.holds Tryd.pinned (.plain (OpenSpec.upto fnExactHexReadSpec)) fnExactHexReadUptoCard
end Rows
end Go.Proofs.YtgkfgichilclgaaDoor
