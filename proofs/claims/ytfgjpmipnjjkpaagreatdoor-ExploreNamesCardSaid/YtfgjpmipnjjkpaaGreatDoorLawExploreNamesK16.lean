/- ExploreNames: a part of the proof that the call of the law returns true: the evaluator's answers, reckoned by the kernel. -/
import Derived.Test.YtfgjpmipnjjkpaaGreatDoorLawExploreNamesMm0
import Derived.Test.YtfgjpmipnjjkpaaGreatDoorLawExploreNamesMm1
import Derived.Test.YtfgjpmipnjjkpaaGreatDoorLawExploreNamesMm2
import Derived.Test.YtfgjpmipnjjkpaaGreatDoorLawExploreNamesMm3
import Derived.Test.YtfgjpmipnjjkpaaGreatDoorLawExploreNamesMm4
import Derived.Test.YtfgjpmipnjjkpaaGreatDoorLawExploreNamesMm5
import Derived.Test.YtfgjpmipnjjkpaaGreatDoorLawExploreNamesMm6
import Derived.Test.YtfgjpmipnjjkpaaGreatDoorLawExploreNamesMm7
import Derived.Test.YtfgjpmipnjjkpaaGreatDoorLawExploreNamesA
namespace Go.Proofs.YtfgjpmipnjjkpaaGreatDoor.lawExploreNames
open Go.ChangeShapes Go.WideShapes Go.ChangeAt Go.RowKit

noncomputable def K16 : Go.Ev.Cx := ⟨2, isOv, isFork, fun _ _ => none, laidL, [m0, m1, m2, m3, m4, m5, m6, m7], fun _ _ _ => none⟩
theorem ok_K16 : Go.Ev.CxOK Tryz.prog K16 := by
  refine ⟨ovs, ?_, fun e h => by
    have h : e ∈ [m0, m1, m2, m3, m4, m5, m6, m7] := h
    simp only [List.mem_cons, List.not_mem_nil, or_false] at h
    rcases h with rfl | rfl | rfl | rfl | rfl | rfl | rfl | rfl
    · exact ans_m0
    · exact ans_m1
    · exact ans_m2
    · exact ans_m3
    · exact ans_m4
    · exact ans_m5
    · exact ans_m6
    · exact ans_m7⟩
  exact fun f args v h => by cases h
theorem said16 (E : Nat → TypeId) : Go.Ev.saysTrue (Go.Ev.evalF Tryz.prog K16 2000 16 [] (Go.Ev.σG 2 laidL E)) = true := by kernel_rfl
theorem known16 : Go.Ev.Known Tryz.prog 2 laidL 16 [] (.bool true) := Go.Ev.known_true (G := K16) drawn ok_K16 wf said16
noncomputable def tbl1 (f : Nat) (args : List Go.Ev.AV) : Option Go.Ev.AV := bif (bif Nat.beq f 16 then true else false) then (match args with | [] => some (.bool true) | _ => none) else none
end Go.Proofs.YtfgjpmipnjjkpaaGreatDoor.lawExploreNames
