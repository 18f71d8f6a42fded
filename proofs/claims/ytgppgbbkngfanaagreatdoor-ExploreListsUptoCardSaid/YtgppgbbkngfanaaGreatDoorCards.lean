/-
  DERIVED. GIVEN WITH THE SEED: THE CARDS: each row of YtgppgbbkngfanaaGreatDoorRows.lean that lists a variable, with what it lists TIED to the program's text (the seventh form; the later family's looks); each row that meets fmt, with fmt's text TOLD by the authors' own Lean function (tested against real Go, not proved from fmt's source: count such statements apart). THE CARD IS WHAT COUNTS. Prove the row's statement (the work); the ties are given (YtgppgbbkngfanaaGreatDoorTie.lean); close each card by the builder's one call (the guide's Derived/Test/ToyasCard.lean, 'card_holds'). Laid BY PROGRAM, IN A SANDBOX (cutbox-door.mjs). By AI agents, Wed Nov 11 2026. No macro, syntax, notation, axiom, sorry.
-/
import Derived.Test.YtgppgbbkngfanaaGreatDoorRows
import GoSem.ClaimSeven
namespace Go.Proofs.YtgppgbbkngfanaaGreatDoor
namespace Rows

/-- THE TIED CARD OF 'cantileverlaw21.ExploreLists'. -/
def exploreListsCard : Claim7 := { stood := { row := exploreListsRow, standIns := [], harness := (true, "4726363c6fa4dab57bc2ba3ce3cbfab9f3dcf9aec128f0dff4fc0d2ed1eed539"), looks := true }, kinds := [], alts := [], laidByText := true, laidKinds := [.data, .data, .data, .sentinel, .sentinel, .data], laidTests := true, laidLooks := .later }
def ExploreListsCardSaid : Prop := Claim7.holds Tryz.pinned (.plain (OpenSpec.ofChange exploreListsSpec)) exploreListsCard

/-- THE SECOND FORM's CARD OF 'cantileverlaw21.ExploreLists'. -/
def exploreListsUptoCard : Claim7 := { stood := { row := exploreListsUptoRow, standIns := [], harness := (true, "4726363c6fa4dab57bc2ba3ce3cbfab9f3dcf9aec128f0dff4fc0d2ed1eed539"), looks := true }, kinds := [], alts := [], laidByText := true, laidKinds := [.data, .data, .data, .sentinel, .sentinel, .data], laidTests := true, laidLooks := .later }
def ExploreListsUptoCardSaid : Prop := Claim7.holds Tryz.pinned (.plain (OpenSpec.upto exploreListsSpec)) exploreListsUptoCard
end Rows
end Go.Proofs.YtgppgbbkngfanaaGreatDoor
