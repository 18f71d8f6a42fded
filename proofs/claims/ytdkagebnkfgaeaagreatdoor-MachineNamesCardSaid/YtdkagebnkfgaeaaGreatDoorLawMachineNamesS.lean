/- MachineNames: a part of the proof that the call of the law returns true: the evaluator's answers, reckoned by the kernel. -/
import Derived.Test.YtdkagebnkfgaeaaGreatDoorLawMachineNamesK18
namespace Go.Proofs.YtdkagebnkfgaeaaGreatDoor.lawMachineNames
open Go.ChangeShapes Go.WideShapes Go.ChangeAt Go.RowKit

noncomputable def GF : Go.Ev.Cx := ⟨6, isOv, isFork, tbl1, laidL, [], fun _ _ _ => none⟩
theorem ok_GF : Go.Ev.CxOK Tryz.prog GF := by
  refine ⟨ovs, ?_, (fun e h => by cases h)⟩
  exact fun f args v h => by
    have h : tbl1 f args = some v := h
    show Go.Ev.Known Tryz.prog 6 laidL f args v
    unfold tbl1 at h
    cases h18 : Nat.beq f 18 with
    | true =>
      rw [h18] at h
      simp only [cond_true] at h
      cases args with
      | nil => cases h; rw [Nat.eq_of_beq_eq_true h18]; exact known18
      | cons _ _ => cases h
    | false =>
      rw [h18] at h
      simp only [cond_false] at h
      cases h
theorem says (E : Nat → TypeId) : Go.Ev.saysTrue (Go.Ev.evalF Tryz.prog GF 2000 4 [] (Go.Ev.σG 6 laidL E)) = true := by kernel_rfl
end Go.Proofs.YtdkagebnkfgaeaaGreatDoor.lawMachineNames
