/-
  DERIVED. GIVEN WITH THE SEED: THE CARDS: each row of YtfgjpmipnjjkpaaGreatDoorRows.lean that lists a variable, with what it lists TIED to the program's text (the seventh form; the later family's looks); each row that meets fmt, with fmt's text TOLD by the authors' own Lean function (tested against real Go, not proved from fmt's source: count such statements apart). THE CARD IS WHAT COUNTS. Prove the row's statement (the work); the ties are given (YtfgjpmipnjjkpaaGreatDoorTie.lean); close each card by the builder's one call (the guide's Derived/Test/ToyasCard.lean, 'card_holds'). Laid BY PROGRAM, IN A SANDBOX (cutbox-door.mjs). By AI agents, Wed Nov 11 2026. No macro, syntax, notation, axiom, sorry.
-/
import Derived.Test.YtfgjpmipnjjkpaaGreatDoorRows
import GoSem.ClaimSeven
namespace Go.Proofs.YtfgjpmipnjjkpaaGreatDoor
namespace Rows

/-- THE TIED CARD OF 'cantileverlaw20.RevisitNames'. -/
def revisitNamesCard : Claim7 := { stood := { row := revisitNamesRow, standIns := [], harness := (true, "fd3038d8a74e461d666b311b8fb1f4799d21b9f6266d9f94cc49c85fd6f23314"), looks := true }, kinds := [], alts := [], laidByText := true, laidKinds := [.data, .data, .data, .sentinel, .sentinel, .data], laidTests := true, laidLooks := .later }
def RevisitNamesCardSaid : Prop := Claim7.holds Tryz.pinned (.plain (OpenSpec.ofChange revisitNamesSpec)) revisitNamesCard

/-- THE TIED CARD OF 'cantileverlaw21.ExploreNames'. -/
def exploreNamesCard : Claim7 := { stood := { row := exploreNamesRow, standIns := [], harness := (true, "fd3038d8a74e461d666b311b8fb1f4799d21b9f6266d9f94cc49c85fd6f23314"), looks := true }, kinds := [], alts := [], laidByText := true, laidKinds := [.data, .data, .data, .sentinel, .sentinel, .data], laidTests := true, laidLooks := .later }
def ExploreNamesCardSaid : Prop := Claim7.holds Tryz.pinned (.plain (OpenSpec.ofChange exploreNamesSpec)) exploreNamesCard

/-- THE SECOND FORM's CARD OF 'cantileverlaw20.RevisitNames'. -/
def revisitNamesUptoCard : Claim7 := { stood := { row := revisitNamesUptoRow, standIns := [], harness := (true, "fd3038d8a74e461d666b311b8fb1f4799d21b9f6266d9f94cc49c85fd6f23314"), looks := true }, kinds := [], alts := [], laidByText := true, laidKinds := [.data, .data, .data, .sentinel, .sentinel, .data], laidTests := true, laidLooks := .later }
def RevisitNamesUptoCardSaid : Prop := Claim7.holds Tryz.pinned (.plain (OpenSpec.upto revisitNamesSpec)) revisitNamesUptoCard

/-- THE SECOND FORM's CARD OF 'cantileverlaw21.ExploreNames'. -/
def exploreNamesUptoCard : Claim7 := { stood := { row := exploreNamesUptoRow, standIns := [], harness := (true, "fd3038d8a74e461d666b311b8fb1f4799d21b9f6266d9f94cc49c85fd6f23314"), looks := true }, kinds := [], alts := [], laidByText := true, laidKinds := [.data, .data, .data, .sentinel, .sentinel, .data], laidTests := true, laidLooks := .later }
def ExploreNamesUptoCardSaid : Prop := Claim7.holds Tryz.pinned (.plain (OpenSpec.upto exploreNamesSpec)) exploreNamesUptoCard
end Rows
end Go.Proofs.YtfgjpmipnjjkpaaGreatDoor
