/- RevisitNames: a part of the proof that the call of the law returns true: the evaluator's answers, reckoned by the kernel. -/
import Derived.Test.YtfgjpmipnjjkpaaGreatDoorLawRevisitNamesMl0
import Derived.Test.YtfgjpmipnjjkpaaGreatDoorLawRevisitNamesMl9
import Derived.Test.YtfgjpmipnjjkpaaGreatDoorLawRevisitNamesMl10
import Derived.Test.YtfgjpmipnjjkpaaGreatDoorLawRevisitNamesMl11
import Derived.Test.YtfgjpmipnjjkpaaGreatDoorLawRevisitNamesMl12
import Derived.Test.YtfgjpmipnjjkpaaGreatDoorLawRevisitNamesA
namespace Go.Proofs.YtfgjpmipnjjkpaaGreatDoor.lawRevisitNames
open Go.ChangeShapes Go.WideShapes Go.ChangeAt Go.RowKit

noncomputable def K12 : Go.Ev.Cx := ⟨2, isOv, isFork, fun _ _ => none, laidL, [l0, l9, l10, l11, l12], fun _ _ _ => none⟩
theorem ok_K12 : Go.Ev.CxOK Tryz.prog K12 := by
  refine ⟨ovs, ?_, fun e h => by
    have h : e ∈ [l0, l9, l10, l11, l12] := h
    simp only [List.mem_cons, List.not_mem_nil, or_false] at h
    rcases h with rfl | rfl | rfl | rfl | rfl
    · exact ans_l0
    · exact ans_l9
    · exact ans_l10
    · exact ans_l11
    · exact ans_l12⟩
  exact fun f args v h => by cases h
theorem said12 (E : Nat → TypeId) : Go.Ev.saysTrue (Go.Ev.evalF Tryz.prog K12 2000 12 [] (Go.Ev.σG 2 laidL E)) = true := by kernel_rfl
theorem known12 : Go.Ev.Known Tryz.prog 2 laidL 12 [] (.bool true) := Go.Ev.known_true (G := K12) drawn ok_K12 wf said12
noncomputable def tbl1 (f : Nat) (args : List Go.Ev.AV) : Option Go.Ev.AV := bif (bif Nat.beq f 12 then true else false) then (match args with | [] => some (.bool true) | _ => none) else none
end Go.Proofs.YtfgjpmipnjjkpaaGreatDoor.lawRevisitNames
