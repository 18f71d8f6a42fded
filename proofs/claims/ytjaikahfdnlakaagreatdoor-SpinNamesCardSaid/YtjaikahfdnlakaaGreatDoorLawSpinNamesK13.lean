/- SpinNames: a part of the proof that the call of the law returns true: the evaluator's answers, reckoned by the kernel. -/
import Derived.Test.YtjaikahfdnlakaaGreatDoorLawSpinNamesA
namespace Go.Proofs.YtjaikahfdnlakaaGreatDoor.lawSpinNames
open Go.ChangeShapes Go.WideShapes Go.ChangeAt Go.RowKit

noncomputable def K13 : Go.Ev.Cx := ⟨7, isOv, isFork, fun _ _ => none, laidL, [], fun _ _ _ => none⟩
theorem ok_K13 : Go.Ev.CxOK Tryz.prog K13 := by
  refine ⟨ovs, ?_, (fun e h => by cases h)⟩
  exact fun f args v h => by cases h
theorem said13 (E : Nat → TypeId) : Go.Ev.saysTrue (Go.Ev.evalF Tryz.prog K13 2000 13 [] (Go.Ev.σG 7 laidL E)) = true := by kernel_rfl
theorem known13 : Go.Ev.Known Tryz.prog 7 laidL 13 [] (.bool true) := Go.Ev.known_true (G := K13) drawn ok_K13 wf said13
noncomputable def tbl1 (f : Nat) (args : List Go.Ev.AV) : Option Go.Ev.AV := bif (bif Nat.beq f 13 then true else false) then (match args with | [] => some (.bool true) | _ => none) else none
end Go.Proofs.YtjaikahfdnlakaaGreatDoor.lawSpinNames
