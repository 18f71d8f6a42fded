/-
  DERIVED. GIVEN WITH THE SEED: THE CARDS: each row of YtjaikahfdnlakaaGreatDoorRows.lean that lists a variable, with what it lists TIED to the program's text (the seventh form; the later family's looks); each row that meets fmt, with fmt's text TOLD by the authors' own Lean function (tested against real Go, not proved from fmt's source: count such statements apart). THE CARD IS WHAT COUNTS. Prove the row's statement (the work); the ties are given (YtjaikahfdnlakaaGreatDoorTie.lean); close each card by the builder's one call (the guide's Derived/Test/ToyasCard.lean, 'card_holds'). Laid BY PROGRAM, IN A SANDBOX (cutbox-door.mjs). By AI agents, Wed Nov 11 2026. No macro, syntax, notation, axiom, sorry.
-/
import Derived.Test.YtjaikahfdnlakaaGreatDoorRows
import GoSem.ClaimSeven
namespace Go.Proofs.YtjaikahfdnlakaaGreatDoor
namespace Rows

/-- THE TIED CARD OF 'cantileverlaw22.BruteNames'. -/
def bruteNamesCard : Claim7 := { stood := { row := bruteNamesRow, standIns := [], harness := (true, "ef3c4e170dacfde115042c25ac957d1ed336ba39c77ad76095487575968d9735"), looks := true }, kinds := [], alts := [], laidByText := true, laidKinds := [.data, .data, .data, .sentinel, .sentinel, .data], laidTests := true, laidLooks := .later }
def BruteNamesCardSaid : Prop := Claim7.holds Tryz.pinned (.plain (OpenSpec.ofChange bruteNamesSpec)) bruteNamesCard

/-- THE TIED CARD OF 'cantileverlaw26.SpinNames'. -/
def spinNamesCard : Claim7 := { stood := { row := spinNamesRow, standIns := [], harness := (true, "ef3c4e170dacfde115042c25ac957d1ed336ba39c77ad76095487575968d9735"), looks := true }, kinds := [], alts := [], laidByText := true, laidKinds := [.data, .data, .data, .sentinel, .sentinel, .data, .data], laidTests := true, laidLooks := .later }
def SpinNamesCardSaid : Prop := Claim7.holds Tryz.pinned (.plain (OpenSpec.ofChange spinNamesSpec)) spinNamesCard

/-- THE SECOND FORM's CARD OF 'cantileverlaw22.BruteNames'. -/
def bruteNamesUptoCard : Claim7 := { stood := { row := bruteNamesUptoRow, standIns := [], harness := (true, "ef3c4e170dacfde115042c25ac957d1ed336ba39c77ad76095487575968d9735"), looks := true }, kinds := [], alts := [], laidByText := true, laidKinds := [.data, .data, .data, .sentinel, .sentinel, .data], laidTests := true, laidLooks := .later }
def BruteNamesUptoCardSaid : Prop := Claim7.holds Tryz.pinned (.plain (OpenSpec.upto bruteNamesSpec)) bruteNamesUptoCard

/-- THE SECOND FORM's CARD OF 'cantileverlaw26.SpinNames'. -/
def spinNamesUptoCard : Claim7 := { stood := { row := spinNamesUptoRow, standIns := [], harness := (true, "ef3c4e170dacfde115042c25ac957d1ed336ba39c77ad76095487575968d9735"), looks := true }, kinds := [], alts := [], laidByText := true, laidKinds := [.data, .data, .data, .sentinel, .sentinel, .data, .data], laidTests := true, laidLooks := .later }
def SpinNamesUptoCardSaid : Prop := Claim7.holds Tryz.pinned (.plain (OpenSpec.upto spinNamesSpec)) spinNamesUptoCard
end Rows
end Go.Proofs.YtjaikahfdnlakaaGreatDoor
