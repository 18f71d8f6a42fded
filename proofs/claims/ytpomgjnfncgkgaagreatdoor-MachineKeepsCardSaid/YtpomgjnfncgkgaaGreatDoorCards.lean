/-
  DERIVED. GIVEN WITH THE SEED: THE CARDS: each row of YtpomgjnfncgkgaaGreatDoorRows.lean that lists a variable, with what it lists TIED to the program's text (the seventh form; the later family's looks); each row that meets fmt, with fmt's text TOLD by the authors' own Lean function (tested against real Go, not proved from fmt's source: count such statements apart). THE CARD IS WHAT COUNTS. Prove the row's statement (the work); the ties are given (YtpomgjnfncgkgaaGreatDoorTie.lean); close each card by the builder's one call (the guide's Derived/Test/ToyasCard.lean, 'card_holds'). Laid BY PROGRAM, IN A SANDBOX (cutbox-door.mjs). By AI agents, Wed Nov 11 2026. No macro, syntax, notation, axiom, sorry.
-/
import Derived.Test.YtpomgjnfncgkgaaGreatDoorRows
import GoSem.ClaimSeven
namespace Go.Proofs.YtpomgjnfncgkgaaGreatDoor
namespace Rows

/-- THE TIED CARD OF 'cantileverlaw14.GraphFits'. -/
def graphFitsCard : Claim7 := { stood := { row := graphFitsRow, standIns := [], harness := (true, "988d1ea55d74eb6cfd830a1a3164e4f5c1b04ebf6deed026c66f21bdeb42d92c"), looks := true }, kinds := [], alts := [], laidByText := true, laidKinds := [.data, .data, .data, .sentinel, .sentinel, .data], laidTests := true, laidLooks := .later }
def GraphFitsCardSaid : Prop := Claim7.holds Tryz.pinned (.plain (OpenSpec.ofChange graphFitsSpec)) graphFitsCard

/-- THE TIED CARD OF 'cantileverlaw23.MachineSteps'. -/
def machineStepsCard : Claim7 := { stood := { row := machineStepsRow, standIns := [], harness := (true, "988d1ea55d74eb6cfd830a1a3164e4f5c1b04ebf6deed026c66f21bdeb42d92c"), looks := true }, kinds := [], alts := [], laidByText := true, laidKinds := [.data, .data, .data, .sentinel, .sentinel, .data], laidTests := true, laidLooks := .later }
def MachineStepsCardSaid : Prop := Claim7.holds Tryz.pinned (.plain (OpenSpec.ofChange machineStepsSpec)) machineStepsCard

/-- THE TIED CARD OF 'cantileverlaw23.MachineTwo'. -/
def machineTwoCard : Claim7 := { stood := { row := machineTwoRow, standIns := [], harness := (true, "988d1ea55d74eb6cfd830a1a3164e4f5c1b04ebf6deed026c66f21bdeb42d92c"), looks := true }, kinds := [], alts := [], laidByText := true, laidKinds := [.data, .data, .data, .sentinel, .sentinel, .data], laidTests := true, laidLooks := .later }
def MachineTwoCardSaid : Prop := Claim7.holds Tryz.pinned (.plain (OpenSpec.ofChange machineTwoSpec)) machineTwoCard

/-- THE TIED CARD OF 'cantileverlaw23.MachineSwaps'. -/
def machineSwapsCard : Claim7 := { stood := { row := machineSwapsRow, standIns := [], harness := (true, "988d1ea55d74eb6cfd830a1a3164e4f5c1b04ebf6deed026c66f21bdeb42d92c"), looks := true }, kinds := [], alts := [], laidByText := true, laidKinds := [.data, .data, .data, .sentinel, .sentinel, .data], laidTests := true, laidLooks := .later }
def MachineSwapsCardSaid : Prop := Claim7.holds Tryz.pinned (.plain (OpenSpec.ofChange machineSwapsSpec)) machineSwapsCard

/-- THE TIED CARD OF 'cantileverlaw23.MachineKeeps'. -/
def machineKeepsCard : Claim7 := { stood := { row := machineKeepsRow, standIns := [], harness := (true, "988d1ea55d74eb6cfd830a1a3164e4f5c1b04ebf6deed026c66f21bdeb42d92c"), looks := true }, kinds := [], alts := [], laidByText := true, laidKinds := [.data, .data, .data, .sentinel, .sentinel, .data], laidTests := true, laidLooks := .later }
def MachineKeepsCardSaid : Prop := Claim7.holds Tryz.pinned (.plain (OpenSpec.ofChange machineKeepsSpec)) machineKeepsCard

/-- THE TIED CARD OF 'cantileverlaw23.MachinePlays'. -/
def machinePlaysCard : Claim7 := { stood := { row := machinePlaysRow, standIns := [], harness := (true, "988d1ea55d74eb6cfd830a1a3164e4f5c1b04ebf6deed026c66f21bdeb42d92c"), looks := true }, kinds := [], alts := [], laidByText := true, laidKinds := [.data, .data, .data, .sentinel, .sentinel, .data], laidTests := true, laidLooks := .later }
def MachinePlaysCardSaid : Prop := Claim7.holds Tryz.pinned (.plain (OpenSpec.ofChange machinePlaysSpec)) machinePlaysCard

/-- THE SECOND FORM's CARD OF 'cantileverlaw14.GraphFits'. -/
def graphFitsUptoCard : Claim7 := { stood := { row := graphFitsUptoRow, standIns := [], harness := (true, "988d1ea55d74eb6cfd830a1a3164e4f5c1b04ebf6deed026c66f21bdeb42d92c"), looks := true }, kinds := [], alts := [], laidByText := true, laidKinds := [.data, .data, .data, .sentinel, .sentinel, .data], laidTests := true, laidLooks := .later }
def GraphFitsUptoCardSaid : Prop := Claim7.holds Tryz.pinned (.plain (OpenSpec.upto graphFitsSpec)) graphFitsUptoCard

/-- THE SECOND FORM's CARD OF 'cantileverlaw23.MachineSteps'. -/
def machineStepsUptoCard : Claim7 := { stood := { row := machineStepsUptoRow, standIns := [], harness := (true, "988d1ea55d74eb6cfd830a1a3164e4f5c1b04ebf6deed026c66f21bdeb42d92c"), looks := true }, kinds := [], alts := [], laidByText := true, laidKinds := [.data, .data, .data, .sentinel, .sentinel, .data], laidTests := true, laidLooks := .later }
def MachineStepsUptoCardSaid : Prop := Claim7.holds Tryz.pinned (.plain (OpenSpec.upto machineStepsSpec)) machineStepsUptoCard

/-- THE SECOND FORM's CARD OF 'cantileverlaw23.MachineTwo'. -/
def machineTwoUptoCard : Claim7 := { stood := { row := machineTwoUptoRow, standIns := [], harness := (true, "988d1ea55d74eb6cfd830a1a3164e4f5c1b04ebf6deed026c66f21bdeb42d92c"), looks := true }, kinds := [], alts := [], laidByText := true, laidKinds := [.data, .data, .data, .sentinel, .sentinel, .data], laidTests := true, laidLooks := .later }
def MachineTwoUptoCardSaid : Prop := Claim7.holds Tryz.pinned (.plain (OpenSpec.upto machineTwoSpec)) machineTwoUptoCard

/-- THE SECOND FORM's CARD OF 'cantileverlaw23.MachineSwaps'. -/
def machineSwapsUptoCard : Claim7 := { stood := { row := machineSwapsUptoRow, standIns := [], harness := (true, "988d1ea55d74eb6cfd830a1a3164e4f5c1b04ebf6deed026c66f21bdeb42d92c"), looks := true }, kinds := [], alts := [], laidByText := true, laidKinds := [.data, .data, .data, .sentinel, .sentinel, .data], laidTests := true, laidLooks := .later }
def MachineSwapsUptoCardSaid : Prop := Claim7.holds Tryz.pinned (.plain (OpenSpec.upto machineSwapsSpec)) machineSwapsUptoCard

/-- THE SECOND FORM's CARD OF 'cantileverlaw23.MachineKeeps'. -/
def machineKeepsUptoCard : Claim7 := { stood := { row := machineKeepsUptoRow, standIns := [], harness := (true, "988d1ea55d74eb6cfd830a1a3164e4f5c1b04ebf6deed026c66f21bdeb42d92c"), looks := true }, kinds := [], alts := [], laidByText := true, laidKinds := [.data, .data, .data, .sentinel, .sentinel, .data], laidTests := true, laidLooks := .later }
def MachineKeepsUptoCardSaid : Prop := Claim7.holds Tryz.pinned (.plain (OpenSpec.upto machineKeepsSpec)) machineKeepsUptoCard

/-- THE SECOND FORM's CARD OF 'cantileverlaw23.MachinePlays'. -/
def machinePlaysUptoCard : Claim7 := { stood := { row := machinePlaysUptoRow, standIns := [], harness := (true, "988d1ea55d74eb6cfd830a1a3164e4f5c1b04ebf6deed026c66f21bdeb42d92c"), looks := true }, kinds := [], alts := [], laidByText := true, laidKinds := [.data, .data, .data, .sentinel, .sentinel, .data], laidTests := true, laidLooks := .later }
def MachinePlaysUptoCardSaid : Prop := Claim7.holds Tryz.pinned (.plain (OpenSpec.upto machinePlaysSpec)) machinePlaysUptoCard
end Rows
end Go.Proofs.YtpomgjnfncgkgaaGreatDoor
