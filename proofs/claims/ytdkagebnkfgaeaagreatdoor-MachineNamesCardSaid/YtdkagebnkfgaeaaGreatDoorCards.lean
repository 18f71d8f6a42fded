/-
  DERIVED. GIVEN WITH THE SEED: THE CARDS: each row of YtdkagebnkfgaeaaGreatDoorRows.lean that lists a variable, with what it lists TIED to the program's text (the seventh form; the later family's looks); each row that meets fmt, with fmt's text TOLD by the authors' own Lean function (tested against real Go, not proved from fmt's source: count such statements apart). THE CARD IS WHAT COUNTS. Prove the row's statement (the work); the ties are given (YtdkagebnkfgaeaaGreatDoorTie.lean); close each card by the builder's one call (the guide's Derived/Test/ToyasCard.lean, 'card_holds'). Laid BY PROGRAM, IN A SANDBOX (cutbox-door.mjs). By AI agents, Wed Nov 11 2026. No macro, syntax, notation, axiom, sorry.
-/
import Derived.Test.YtdkagebnkfgaeaaGreatDoorRows
import GoSem.ClaimSeven
namespace Go.Proofs.YtdkagebnkfgaeaaGreatDoor
namespace Rows

/-- THE TIED CARD OF 'cantileverlaw19.ExtendNames'. -/
def extendNamesCard : Claim7 := { stood := { row := extendNamesRow, standIns := [], harness := (true, "76a4c79c20a6aa13f51e46a1663fde1aad3a7ba26b8aa0bce9b11fc6c4ed5600"), looks := true }, kinds := [], alts := [], laidByText := true, laidKinds := [.data, .data, .data, .sentinel, .sentinel, .data], laidTests := true, laidLooks := .later }
def ExtendNamesCardSaid : Prop := Claim7.holds Tryz.pinned (.plain (OpenSpec.ofChange extendNamesSpec)) extendNamesCard

/-- THE TIED CARD OF 'cantileverlaw23.MachineNames'. -/
def machineNamesCard : Claim7 := { stood := { row := machineNamesRow, standIns := [], harness := (true, "76a4c79c20a6aa13f51e46a1663fde1aad3a7ba26b8aa0bce9b11fc6c4ed5600"), looks := true }, kinds := [], alts := [], laidByText := true, laidKinds := [.data, .data, .data, .sentinel, .sentinel, .data], laidTests := true, laidLooks := .later }
def MachineNamesCardSaid : Prop := Claim7.holds Tryz.pinned (.plain (OpenSpec.ofChange machineNamesSpec)) machineNamesCard

/-- THE TIED CARD OF 'cantileverlaw24.WitnessNames'. -/
def witnessNamesCard : Claim7 := { stood := { row := witnessNamesRow, standIns := [], harness := (true, "76a4c79c20a6aa13f51e46a1663fde1aad3a7ba26b8aa0bce9b11fc6c4ed5600"), looks := true }, kinds := [], alts := [], laidByText := true, laidKinds := [.data, .data, .data, .sentinel, .sentinel, .data], laidTests := true, laidLooks := .later }
def WitnessNamesCardSaid : Prop := Claim7.holds Tryz.pinned (.plain (OpenSpec.ofChange witnessNamesSpec)) witnessNamesCard

/-- THE SECOND FORM's CARD OF 'cantileverlaw19.ExtendNames'. -/
def extendNamesUptoCard : Claim7 := { stood := { row := extendNamesUptoRow, standIns := [], harness := (true, "76a4c79c20a6aa13f51e46a1663fde1aad3a7ba26b8aa0bce9b11fc6c4ed5600"), looks := true }, kinds := [], alts := [], laidByText := true, laidKinds := [.data, .data, .data, .sentinel, .sentinel, .data], laidTests := true, laidLooks := .later }
def ExtendNamesUptoCardSaid : Prop := Claim7.holds Tryz.pinned (.plain (OpenSpec.upto extendNamesSpec)) extendNamesUptoCard

/-- THE SECOND FORM's CARD OF 'cantileverlaw23.MachineNames'. -/
def machineNamesUptoCard : Claim7 := { stood := { row := machineNamesUptoRow, standIns := [], harness := (true, "76a4c79c20a6aa13f51e46a1663fde1aad3a7ba26b8aa0bce9b11fc6c4ed5600"), looks := true }, kinds := [], alts := [], laidByText := true, laidKinds := [.data, .data, .data, .sentinel, .sentinel, .data], laidTests := true, laidLooks := .later }
def MachineNamesUptoCardSaid : Prop := Claim7.holds Tryz.pinned (.plain (OpenSpec.upto machineNamesSpec)) machineNamesUptoCard

/-- THE SECOND FORM's CARD OF 'cantileverlaw24.WitnessNames'. -/
def witnessNamesUptoCard : Claim7 := { stood := { row := witnessNamesUptoRow, standIns := [], harness := (true, "76a4c79c20a6aa13f51e46a1663fde1aad3a7ba26b8aa0bce9b11fc6c4ed5600"), looks := true }, kinds := [], alts := [], laidByText := true, laidKinds := [.data, .data, .data, .sentinel, .sentinel, .data], laidTests := true, laidLooks := .later }
def WitnessNamesUptoCardSaid : Prop := Claim7.holds Tryz.pinned (.plain (OpenSpec.upto witnessNamesSpec)) witnessNamesUptoCard
end Rows
end Go.Proofs.YtdkagebnkfgaeaaGreatDoor
