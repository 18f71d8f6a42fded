/-
  DERIVED. GIVEN WITH THE SEED: THE CARDS: each row of YtgcfkfkededmoaaGreatDoorRows.lean that lists a variable, with what it lists TIED to the program's text (the seventh form; the later family's looks); each row that meets fmt, with fmt's text TOLD by the authors' own Lean function (tested against real Go, not proved from fmt's source: count such statements apart). THE CARD IS WHAT COUNTS. Prove the row's statement (the work); the ties are given (YtgcfkfkededmoaaGreatDoorTie.lean); close each card by the builder's one call (the guide's Derived/Test/ToyasCard.lean, 'card_holds'). Laid BY PROGRAM, IN A SANDBOX (cutbox-door.mjs). By AI agents, Wed Nov 11 2026. No macro, syntax, notation, axiom, sorry.
-/
import Derived.Test.YtgcfkfkededmoaaGreatDoorRows
import GoSem.ClaimSeven
namespace Go.Proofs.YtgcfkfkededmoaaGreatDoor
namespace Rows

/-- THE TIED CARD OF 'cantileverlaw14.GraphNames'. -/
def graphNamesCard : Claim7 := { stood := { row := graphNamesRow, standIns := [], harness := (true, "01b795b725e1f20f38885185a733a9aa6546cfc23a8665a88ddf98996aa4046e"), looks := true }, kinds := [], alts := [], laidByText := true, laidKinds := [.data, .data, .data, .sentinel, .sentinel, .data], laidTests := true, laidLooks := .later }
def GraphNamesCardSaid : Prop := Claim7.holds Tryz.pinned (.plain (OpenSpec.ofChange graphNamesSpec)) graphNamesCard

/-- THE SECOND FORM's CARD OF 'cantileverlaw14.GraphNames'. -/
def graphNamesUptoCard : Claim7 := { stood := { row := graphNamesUptoRow, standIns := [], harness := (true, "01b795b725e1f20f38885185a733a9aa6546cfc23a8665a88ddf98996aa4046e"), looks := true }, kinds := [], alts := [], laidByText := true, laidKinds := [.data, .data, .data, .sentinel, .sentinel, .data], laidTests := true, laidLooks := .later }
def GraphNamesUptoCardSaid : Prop := Claim7.holds Tryz.pinned (.plain (OpenSpec.upto graphNamesSpec)) graphNamesUptoCard
end Rows
end Go.Proofs.YtgcfkfkededmoaaGreatDoor
