/-
  DERIVED. GIVEN WITH THE SEED: THE CARDS: each row of YtjnonkhfgnihfaaGreatDoorRows.lean that lists a variable, with what it lists TIED to the program's text (the seventh form; the later family's looks); each row that meets fmt, with fmt's text TOLD by the authors' own Lean function (tested against real Go, not proved from fmt's source: count such statements apart). THE CARD IS WHAT COUNTS. Prove the row's statement (the work); the ties are given (YtjnonkhfgnihfaaGreatDoorTie.lean); close each card by the builder's one call (the guide's Derived/Test/ToyasCard.lean, 'card_holds'). Laid BY PROGRAM, IN A SANDBOX (cutbox-door.mjs). By AI agents, Wed Nov 11 2026. No macro, syntax, notation, axiom, sorry.
-/
import Derived.Test.YtjnonkhfgnihfaaGreatDoorRows
import GoSem.ClaimSeven
namespace Go.Proofs.YtjnonkhfgnihfaaGreatDoor
namespace Rows

/-- THE TIED CARD OF 'cantileverlaw19.ExtendForward'. -/
def extendForwardCard : Claim7 := { stood := { row := extendForwardRow, standIns := [], harness := (true, "e9da13369b1e4fdb7e20c281127dc34732dc044ffb37352851647afd17da205b"), looks := true }, kinds := [], alts := [], laidByText := true, laidKinds := [.data, .data, .data, .sentinel, .sentinel, .data], laidTests := true, laidLooks := .later }
def ExtendForwardCardSaid : Prop := Claim7.holds Tryz.pinned (.plain (OpenSpec.ofChange extendForwardSpec)) extendForwardCard

/-- THE TIED CARD OF 'cantileverlaw19.ExtendGoes'. -/
def extendGoesCard : Claim7 := { stood := { row := extendGoesRow, standIns := [], harness := (true, "e9da13369b1e4fdb7e20c281127dc34732dc044ffb37352851647afd17da205b"), looks := true }, kinds := [], alts := [], laidByText := true, laidKinds := [.data, .data, .data, .sentinel, .sentinel, .data], laidTests := true, laidLooks := .later }
def ExtendGoesCardSaid : Prop := Claim7.holds Tryz.pinned (.plain (OpenSpec.ofChange extendGoesSpec)) extendGoesCard

/-- THE TIED CARD OF 'cantileverlaw24.WitnessShows'. -/
def witnessShowsCard : Claim7 := { stood := { row := witnessShowsRow, standIns := [], harness := (true, "e9da13369b1e4fdb7e20c281127dc34732dc044ffb37352851647afd17da205b"), looks := true }, kinds := [], alts := [], laidByText := true, laidKinds := [.data, .data, .data, .sentinel, .sentinel, .data], laidTests := true, laidLooks := .later }
def WitnessShowsCardSaid : Prop := Claim7.holds Tryz.pinned (.plain (OpenSpec.ofChange witnessShowsSpec)) witnessShowsCard

/-- THE TIED CARD OF 'cantileverlaw24.WitnessCalls'. -/
def witnessCallsCard : Claim7 := { stood := { row := witnessCallsRow, standIns := [], harness := (true, "e9da13369b1e4fdb7e20c281127dc34732dc044ffb37352851647afd17da205b"), looks := true }, kinds := [], alts := [], laidByText := true, laidKinds := [.data, .data, .data, .sentinel, .sentinel, .data], laidTests := true, laidLooks := .later }
def WitnessCallsCardSaid : Prop := Claim7.holds Tryz.pinned (.plain (OpenSpec.ofChange witnessCallsSpec)) witnessCallsCard

/-- THE SECOND FORM's CARD OF 'cantileverlaw19.ExtendForward'. -/
def extendForwardUptoCard : Claim7 := { stood := { row := extendForwardUptoRow, standIns := [], harness := (true, "e9da13369b1e4fdb7e20c281127dc34732dc044ffb37352851647afd17da205b"), looks := true }, kinds := [], alts := [], laidByText := true, laidKinds := [.data, .data, .data, .sentinel, .sentinel, .data], laidTests := true, laidLooks := .later }
def ExtendForwardUptoCardSaid : Prop := Claim7.holds Tryz.pinned (.plain (OpenSpec.upto extendForwardSpec)) extendForwardUptoCard

/-- THE SECOND FORM's CARD OF 'cantileverlaw19.ExtendGoes'. -/
def extendGoesUptoCard : Claim7 := { stood := { row := extendGoesUptoRow, standIns := [], harness := (true, "e9da13369b1e4fdb7e20c281127dc34732dc044ffb37352851647afd17da205b"), looks := true }, kinds := [], alts := [], laidByText := true, laidKinds := [.data, .data, .data, .sentinel, .sentinel, .data], laidTests := true, laidLooks := .later }
def ExtendGoesUptoCardSaid : Prop := Claim7.holds Tryz.pinned (.plain (OpenSpec.upto extendGoesSpec)) extendGoesUptoCard

/-- THE SECOND FORM's CARD OF 'cantileverlaw24.WitnessShows'. -/
def witnessShowsUptoCard : Claim7 := { stood := { row := witnessShowsUptoRow, standIns := [], harness := (true, "e9da13369b1e4fdb7e20c281127dc34732dc044ffb37352851647afd17da205b"), looks := true }, kinds := [], alts := [], laidByText := true, laidKinds := [.data, .data, .data, .sentinel, .sentinel, .data], laidTests := true, laidLooks := .later }
def WitnessShowsUptoCardSaid : Prop := Claim7.holds Tryz.pinned (.plain (OpenSpec.upto witnessShowsSpec)) witnessShowsUptoCard

/-- THE SECOND FORM's CARD OF 'cantileverlaw24.WitnessCalls'. -/
def witnessCallsUptoCard : Claim7 := { stood := { row := witnessCallsUptoRow, standIns := [], harness := (true, "e9da13369b1e4fdb7e20c281127dc34732dc044ffb37352851647afd17da205b"), looks := true }, kinds := [], alts := [], laidByText := true, laidKinds := [.data, .data, .data, .sentinel, .sentinel, .data], laidTests := true, laidLooks := .later }
def WitnessCallsUptoCardSaid : Prop := Claim7.holds Tryz.pinned (.plain (OpenSpec.upto witnessCallsSpec)) witnessCallsUptoCard
end Rows
end Go.Proofs.YtjnonkhfgnihfaaGreatDoor
