/-
  DERIVED. GIVEN WITH THE SEED: THE CARDS: each row of YtnchkcbckgcejaaGreatDoorRows.lean that lists a variable, with what it lists TIED to the program's text (the seventh form; the later family's looks); each row that meets fmt, with fmt's text TOLD by the authors' own Lean function (tested against real Go, not proved from fmt's source: count such statements apart). THE CARD IS WHAT COUNTS. Prove the row's statement (the work); the ties are given (YtnchkcbckgcejaaGreatDoorTie.lean); close each card by the builder's one call (the guide's Derived/Test/ToyasCard.lean, 'card_holds'). Laid BY PROGRAM, IN A SANDBOX (cutbox-door.mjs). By AI agents, Wed Nov 11 2026. No macro, syntax, notation, axiom, sorry.
-/
import Derived.Test.YtnchkcbckgcejaaGreatDoorRows
import GoSem.ClaimSeven
namespace Go.Proofs.YtnchkcbckgcejaaGreatDoor
namespace Rows

/-- THE TIED CARD OF 'cantileverlaw22.BruteOf'. -/
def bruteOfCard : Claim7 := { stood := { row := bruteOfRow, standIns := [], harness := (true, "107c0b9f089cfd5ebf928ab720f30f7e9e9038521ea56a4573ea0ab237adbdf1"), looks := true }, kinds := [], alts := [], laidByText := true, laidKinds := [.data, .data, .data, .sentinel, .sentinel, .data], laidTests := true, laidLooks := .later }
def BruteOfCardSaid : Prop := Claim7.holds Tryz.pinned (.plain (OpenSpec.ofChange bruteOfSpec)) bruteOfCard

/-- THE SECOND FORM's CARD OF 'cantileverlaw22.BruteOf'. -/
def bruteOfUptoCard : Claim7 := { stood := { row := bruteOfUptoRow, standIns := [], harness := (true, "107c0b9f089cfd5ebf928ab720f30f7e9e9038521ea56a4573ea0ab237adbdf1"), looks := true }, kinds := [], alts := [], laidByText := true, laidKinds := [.data, .data, .data, .sentinel, .sentinel, .data], laidTests := true, laidLooks := .later }
def BruteOfUptoCardSaid : Prop := Claim7.holds Tryz.pinned (.plain (OpenSpec.upto bruteOfSpec)) bruteOfUptoCard
end Rows
end Go.Proofs.YtnchkcbckgcejaaGreatDoor
