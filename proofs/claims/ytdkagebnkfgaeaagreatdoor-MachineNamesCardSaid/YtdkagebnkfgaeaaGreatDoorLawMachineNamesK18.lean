/- MachineNames: a part of the proof that the call of the law returns true: the evaluator's answers, reckoned by the kernel. -/
import Derived.Test.YtdkagebnkfgaeaaGreatDoorLawMachineNamesA
namespace Go.Proofs.YtdkagebnkfgaeaaGreatDoor.lawMachineNames
open Go.ChangeShapes Go.WideShapes Go.ChangeAt Go.RowKit

noncomputable def K18 : Go.Ev.Cx := ⟨6, isOv, isFork, fun _ _ => none, laidL, [], fun _ _ _ => none⟩
theorem ok_K18 : Go.Ev.CxOK Tryz.prog K18 := by
  refine ⟨ovs, ?_, (fun e h => by cases h)⟩
  exact fun f args v h => by cases h
theorem said18 (E : Nat → TypeId) : Go.Ev.saysTrue (Go.Ev.evalF Tryz.prog K18 2000 18 [] (Go.Ev.σG 6 laidL E)) = true := by kernel_rfl
theorem known18 : Go.Ev.Known Tryz.prog 6 laidL 18 [] (.bool true) := Go.Ev.known_true (G := K18) drawn ok_K18 wf said18
noncomputable def tbl1 (f : Nat) (args : List Go.Ev.AV) : Option Go.Ev.AV := bif (bif Nat.beq f 18 then true else false) then (match args with | [] => some (.bool true) | _ => none) else none
end Go.Proofs.YtdkagebnkfgaeaaGreatDoor.lawMachineNames
