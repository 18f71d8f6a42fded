/-
  DERIVED. GIVEN WITH THE SEED: THE CARDS: each row of YtmeiccifbpehaaaGreatDoorRows.lean that lists a variable, with what it lists TIED to the program's text (the seventh form; the later family's looks); each row that meets fmt, with fmt's text TOLD by the authors' own Lean function (tested against real Go, not proved from fmt's source: count such statements apart). THE CARD IS WHAT COUNTS. Prove the row's statement (the work); the ties are given (YtmeiccifbpehaaaGreatDoorTie.lean); close each card by the builder's one call (the guide's Derived/Test/ToyasCard.lean, 'card_holds'). Laid BY PROGRAM, IN A SANDBOX (cutbox-door.mjs). By AI agents, Wed Nov 11 2026. No macro, syntax, notation, axiom, sorry.
-/
import Derived.Test.YtmeiccifbpehaaaGreatDoorRows
import GoSem.ClaimSeven
namespace Go.Proofs.YtmeiccifbpehaaaGreatDoor
namespace Rows

/-- THE TIED CARD OF 'cantileverlaw22.BruteWeaker'. -/
def bruteWeakerCard : Claim7 := { stood := { row := bruteWeakerRow, standIns := [], harness := (true, "4aca68b4d4a584e03016d4c345b725f96422dce827152bccab0174f5ac591a46"), looks := true }, kinds := [], alts := [], laidByText := true, laidKinds := [.data, .data, .data, .sentinel, .sentinel, .data], laidTests := true, laidLooks := .later }
def BruteWeakerCardSaid : Prop := Claim7.holds Tryz.pinned (.plain (OpenSpec.ofChange bruteWeakerSpec)) bruteWeakerCard

/-- THE SECOND FORM's CARD OF 'cantileverlaw22.BruteWeaker'. -/
def bruteWeakerUptoCard : Claim7 := { stood := { row := bruteWeakerUptoRow, standIns := [], harness := (true, "4aca68b4d4a584e03016d4c345b725f96422dce827152bccab0174f5ac591a46"), looks := true }, kinds := [], alts := [], laidByText := true, laidKinds := [.data, .data, .data, .sentinel, .sentinel, .data], laidTests := true, laidLooks := .later }
def BruteWeakerUptoCardSaid : Prop := Claim7.holds Tryz.pinned (.plain (OpenSpec.upto bruteWeakerSpec)) bruteWeakerUptoCard
end Rows
end Go.Proofs.YtmeiccifbpehaaaGreatDoor
