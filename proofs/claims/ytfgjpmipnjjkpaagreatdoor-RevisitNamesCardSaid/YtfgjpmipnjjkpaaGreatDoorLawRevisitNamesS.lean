/- RevisitNames: a part of the proof that the call of the law returns true: the evaluator's answers, reckoned by the kernel. -/
import Derived.Test.YtfgjpmipnjjkpaaGreatDoorLawRevisitNamesMl0
import Derived.Test.YtfgjpmipnjjkpaaGreatDoorLawRevisitNamesMl14
import Derived.Test.YtfgjpmipnjjkpaaGreatDoorLawRevisitNamesMl15
import Derived.Test.YtfgjpmipnjjkpaaGreatDoorLawRevisitNamesMl16
import Derived.Test.YtfgjpmipnjjkpaaGreatDoorLawRevisitNamesMl17
import Derived.Test.YtfgjpmipnjjkpaaGreatDoorLawRevisitNamesMl18
import Derived.Test.YtfgjpmipnjjkpaaGreatDoorLawRevisitNamesK12
namespace Go.Proofs.YtfgjpmipnjjkpaaGreatDoor.lawRevisitNames
open Go.ChangeShapes Go.WideShapes Go.ChangeAt Go.RowKit

noncomputable def GF : Go.Ev.Cx := ⟨2, isOv, isFork, tbl1, laidL, [l0, l14, l15, l16, l17, l18], fun _ _ _ => none⟩
theorem ok_GF : Go.Ev.CxOK Tryz.prog GF := by
  refine ⟨ovs, ?_, fun e h => by
    have h : e ∈ [l0, l14, l15, l16, l17, l18] := h
    simp only [List.mem_cons, List.not_mem_nil, or_false] at h
    rcases h with rfl | rfl | rfl | rfl | rfl | rfl
    · exact ans_l0
    · exact ans_l14
    · exact ans_l15
    · exact ans_l16
    · exact ans_l17
    · exact ans_l18⟩
  exact fun f args v h => by
    have h : tbl1 f args = some v := h
    show Go.Ev.Known Tryz.prog 2 laidL f args v
    unfold tbl1 at h
    cases h12 : Nat.beq f 12 with
    | true =>
      rw [h12] at h
      simp only [cond_true] at h
      cases args with
      | nil => cases h; rw [Nat.eq_of_beq_eq_true h12]; exact known12
      | cons _ _ => cases h
    | false =>
      rw [h12] at h
      simp only [cond_false] at h
      cases h
theorem says (E : Nat → TypeId) : Go.Ev.saysTrue (Go.Ev.evalF Tryz.prog GF 2000 3 [] (Go.Ev.σG 2 laidL E)) = true := by kernel_rfl
end Go.Proofs.YtfgjpmipnjjkpaaGreatDoor.lawRevisitNames
