/- ExploreNames: a part of the proof that the call of the law returns true: the evaluator's answers, reckoned by the kernel. -/
import Derived.Test.YtfgjpmipnjjkpaaGreatDoorLawExploreNamesK16
namespace Go.Proofs.YtfgjpmipnjjkpaaGreatDoor.lawExploreNames
open Go.ChangeShapes Go.WideShapes Go.ChangeAt Go.RowKit

noncomputable def GF : Go.Ev.Cx := ⟨2, isOv, isFork, tbl1, laidL, [], fun _ _ _ => none⟩
theorem ok_GF : Go.Ev.CxOK Tryz.prog GF := by
  refine ⟨ovs, ?_, (fun e h => by cases h)⟩
  exact fun f args v h => by
    have h : tbl1 f args = some v := h
    show Go.Ev.Known Tryz.prog 2 laidL f args v
    unfold tbl1 at h
    cases h16 : Nat.beq f 16 with
    | true =>
      rw [h16] at h
      simp only [cond_true] at h
      cases args with
      | nil => cases h; rw [Nat.eq_of_beq_eq_true h16]; exact known16
      | cons _ _ => cases h
    | false =>
      rw [h16] at h
      simp only [cond_false] at h
      cases h
theorem says (E : Nat → TypeId) : Go.Ev.saysTrue (Go.Ev.evalF Tryz.prog GF 2000 4 [] (Go.Ev.σG 2 laidL E)) = true := by kernel_rfl
end Go.Proofs.YtfgjpmipnjjkpaaGreatDoor.lawExploreNames
