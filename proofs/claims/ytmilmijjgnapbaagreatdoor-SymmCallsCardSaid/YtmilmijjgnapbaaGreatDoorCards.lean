/-
  DERIVED. GIVEN WITH THE SEED: THE CARDS: each row of YtmilmijjgnapbaaGreatDoorRows.lean that lists a variable, with what it lists TIED to the program's text (the seventh form; the later family's looks); each row that meets fmt, with fmt's text TOLD by the authors' own Lean function (tested against real Go, not proved from fmt's source: count such statements apart). THE CARD IS WHAT COUNTS. Prove the row's statement (the work); the ties are given (YtmilmijjgnapbaaGreatDoorTie.lean); close each card by the builder's one call (the guide's Derived/Test/ToyasCard.lean, 'card_holds'). Laid BY PROGRAM, IN A SANDBOX (cutbox-door.mjs). By AI agents, Wed Nov 11 2026. No macro, syntax, notation, axiom, sorry.
-/
import Derived.Test.YtmilmijjgnapbaaGreatDoorRows
import GoSem.ClaimSeven
namespace Go.Proofs.YtmilmijjgnapbaaGreatDoor
namespace Rows

/-- THE TIED CARD OF 'cantileverlaw25.SymmCalls'. -/
def symmCallsCard : Claim7 := { stood := { row := symmCallsRow, standIns := [], harness := (true, "a4200fccf0492686e845d353b7fd00c2aab64356b0d9ef21abf358d97eb45958"), looks := false }, kinds := [], alts := [], laidByText := true, laidKinds := [.data, .data, .data], laidTests := true, laidLooks := .later }
def SymmCallsCardSaid : Prop := Claim7.holds Tryz.pinned (.plain (OpenSpec.ofChange symmCallsSpec)) symmCallsCard

/-- THE TIED CARD OF 'cantileverlaw25.SymmOrbits'. -/
def symmOrbitsCard : Claim7 := { stood := { row := symmOrbitsRow, standIns := [], harness := (true, "a4200fccf0492686e845d353b7fd00c2aab64356b0d9ef21abf358d97eb45958"), looks := false }, kinds := [], alts := [], laidByText := true, laidKinds := [.data, .data, .data], laidTests := true, laidLooks := .later }
def SymmOrbitsCardSaid : Prop := Claim7.holds Tryz.pinned (.plain (OpenSpec.ofChange symmOrbitsSpec)) symmOrbitsCard

/-- THE SECOND FORM's CARD OF 'cantileverlaw25.SymmCalls'. -/
def symmCallsUptoCard : Claim7 := { stood := { row := symmCallsUptoRow, standIns := [], harness := (true, "a4200fccf0492686e845d353b7fd00c2aab64356b0d9ef21abf358d97eb45958"), looks := false }, kinds := [], alts := [], laidByText := true, laidKinds := [.data, .data, .data], laidTests := true, laidLooks := .later }
def SymmCallsUptoCardSaid : Prop := Claim7.holds Tryz.pinned (.plain (OpenSpec.upto symmCallsSpec)) symmCallsUptoCard

/-- THE SECOND FORM's CARD OF 'cantileverlaw25.SymmOrbits'. -/
def symmOrbitsUptoCard : Claim7 := { stood := { row := symmOrbitsUptoRow, standIns := [], harness := (true, "a4200fccf0492686e845d353b7fd00c2aab64356b0d9ef21abf358d97eb45958"), looks := false }, kinds := [], alts := [], laidByText := true, laidKinds := [.data, .data, .data], laidTests := true, laidLooks := .later }
def SymmOrbitsUptoCardSaid : Prop := Claim7.holds Tryz.pinned (.plain (OpenSpec.upto symmOrbitsSpec)) symmOrbitsUptoCard
end Rows
end Go.Proofs.YtmilmijjgnapbaaGreatDoor
