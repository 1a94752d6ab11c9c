/-
  DERIVED. GIVEN WITH THE SEED: THE CARDS: each row of YtljeajecajlaiaaDoorRows.lean that lists a variable, with what it lists TIED to the program's text (the seventh form; the later family's looks); each row that meets fmt, with fmt's text TOLD by the authors' own Lean function (tested against real Go, not proved from fmt's source: count such statements apart). THE CARD IS WHAT COUNTS. Prove the row's statement (the work); the ties are given (YtljeajecajlaiaaDoorTie.lean); close each card by the builder's one call (the guide's Derived/Test/ToyasCard.lean, 'card_holds'). Laid BY PROGRAM, IN A SANDBOX (cutbox-door.mjs). By AI agents, Wed Nov 11 2026. No macro, syntax, notation, axiom, sorry.
-/
import Derived.Test.YtljeajecajlaiaaDoorRows
import GoSem.ClaimSeven
namespace Go.Proofs.YtljeajecajlaiaaDoor
namespace Rows

/-- THE TIED CARD OF 'laws.FnExactAddrText'. -/
def fnExactAddrTextCard : Claim7 := { stood := { row := fnExactAddrTextRow, standIns := [], harness := (true, "3ce171f72b3c8f405e7ce534eaf40ca0e81f538e618e3bfa591a3a51e0288bbd"), looks := true }, kinds := [], alts := [], laidByText := true, laidKinds := [.data, .data, .data], laidTests := true, laidLooks := .later }
def FnExactAddrTextCardSaid : Prop := Claim7.holds Tryd.pinned (.plain (OpenSpec.ofChange fnExactAddrTextSpec)) fnExactAddrTextCard

/-- THE TIED CARD OF 'laws.FnExactPrefixText'. -/
def fnExactPrefixTextCard : Claim7 := { stood := { row := fnExactPrefixTextRow, standIns := [], harness := (true, "3ce171f72b3c8f405e7ce534eaf40ca0e81f538e618e3bfa591a3a51e0288bbd"), looks := true }, kinds := [], alts := [], laidByText := true, laidKinds := [.data, .data, .data], laidTests := true, laidLooks := .later }
def FnExactPrefixTextCardSaid : Prop := Claim7.holds Tryd.pinned (.plain (OpenSpec.ofChange fnExactPrefixTextSpec)) fnExactPrefixTextCard

/-- THE TIED CARD OF 'laws.FnExactAddrRead'. -/
def fnExactAddrReadCard : Claim7 := { stood := { row := fnExactAddrReadRow, standIns := [], harness := (true, "3ce171f72b3c8f405e7ce534eaf40ca0e81f538e618e3bfa591a3a51e0288bbd"), looks := true }, kinds := [], alts := [], laidByText := true, laidKinds := [.data, .data, .data, .data, .sentinel, .sentinel, .pinned], laidTests := true, laidLooks := .later }
def FnExactAddrReadCardSaid : Prop := Claim7.holds Tryd.pinned (.plain (OpenSpec.ofChange fnExactAddrReadSpec)) fnExactAddrReadCard

/-- THE SECOND FORM's CARD OF 'laws.FnExactAddrText'. -/
def fnExactAddrTextUptoCard : Claim7 := { stood := { row := fnExactAddrTextUptoRow, standIns := [], harness := (true, "3ce171f72b3c8f405e7ce534eaf40ca0e81f538e618e3bfa591a3a51e0288bbd"), looks := true }, kinds := [], alts := [], laidByText := true, laidKinds := [.data, .data, .data], laidTests := true, laidLooks := .later }
def FnExactAddrTextUptoCardSaid : Prop := Claim7.holds Tryd.pinned (.plain (OpenSpec.upto fnExactAddrTextSpec)) fnExactAddrTextUptoCard

/-- THE SECOND FORM's CARD OF 'laws.FnExactPrefixText'. -/
def fnExactPrefixTextUptoCard : Claim7 := { stood := { row := fnExactPrefixTextUptoRow, standIns := [], harness := (true, "3ce171f72b3c8f405e7ce534eaf40ca0e81f538e618e3bfa591a3a51e0288bbd"), looks := true }, kinds := [], alts := [], laidByText := true, laidKinds := [.data, .data, .data], laidTests := true, laidLooks := .later }
def FnExactPrefixTextUptoCardSaid : Prop := Claim7.holds Tryd.pinned (.plain (OpenSpec.upto fnExactPrefixTextSpec)) fnExactPrefixTextUptoCard

/-- THE SECOND FORM's CARD OF 'laws.FnExactAddrRead'. -/
def fnExactAddrReadUptoCard : Claim7 := { stood := { row := fnExactAddrReadUptoRow, standIns := [], harness := (true, "3ce171f72b3c8f405e7ce534eaf40ca0e81f538e618e3bfa591a3a51e0288bbd"), looks := true }, kinds := [], alts := [], laidByText := true, laidKinds := [.data, .data, .data, .data, .sentinel, .sentinel, .pinned], laidTests := true, laidLooks := .later }
def FnExactAddrReadUptoCardSaid : Prop := Claim7.holds Tryd.pinned (.plain (OpenSpec.upto fnExactAddrReadSpec)) fnExactAddrReadUptoCard
end Rows
end Go.Proofs.YtljeajecajlaiaaDoor
