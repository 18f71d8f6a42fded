/- RevisitNames: a part of the proof that the call of the law returns true: the evaluator's answers, reckoned by the kernel. -/
import Derived.Test.YtfgjpmipnjjkpaaGreatDoorLawRevisitNamesMl1
import Derived.Test.YtfgjpmipnjjkpaaGreatDoorLawRevisitNamesMl5
namespace Go.Proofs.YtfgjpmipnjjkpaaGreatDoor.lawRevisitNames
open Go.ChangeShapes Go.WideShapes Go.ChangeAt Go.RowKit

noncomputable def C_l0 : Go.Ev.Cx := ⟨2, isOv, isFork, fun _ _ => none, laidL, [l1, l5], fun _ _ _ => none⟩
theorem ok_C_l0 : Go.Ev.CxOK Tryz.prog C_l0 := by
  refine ⟨ovs, (fun f args v h => by cases h), fun e h => by
    have h : e ∈ [l1, l5] := h
    simp only [List.mem_cons, List.not_mem_nil, or_false] at h
    rcases h with rfl | rfl
    · exact ans_l1
    · exact ans_l5⟩
noncomputable def l0 : Go.Ev.ME := ⟨5, [], 2, [], .agg [.slice 1451 0 2 (.upto 1), .slice 1459 0 2 (.upto 1), .slice 1466 0 2 (.upto 1), .slice 1472 0 2 (.upto 1), .slice 1533 0 2 (.upto 3), .int .i64 (.ofNat 0)], 1994, [(1451, .row [.int .i64 (.ofNat 0), .int .i64 (.ofNat 0)] 2 false), (1457, .row [] 57 false), (1459, .row [.slice 1476 0 2 (.upto 5), .slice 1457 0 0 (.known 0)] 86 false), (1464, .row [] 37 false), (1466, .row [.slice 1478 0 2 (.upto 2), .slice 1464 0 0 (.known 0)] 41 false), (1467, .row [] 37 false), (1472, .row [.slice 1467 0 0 (.known 0), .slice 1486 0 1 (.upto 2)] 41 false), (1476, .row [.int .i64 (.ofNat 1), .int .i64 (.ofNat 0), .int .i64 (.ofNat 3), .int .i64 (.ofNat 0), .int .i64 (.ofNat 0), .int .i64 (.ofNat 2), .int .i64 (.ofNat 1), .int .i64 (.ofNat 2), .int .i64 (.ofNat 0), .int .i64 (.ofNat 1)] 57 false), (1478, .row [.int .i64 (.ofNat 0), .int .i64 (.ofNat 0), .int .i64 (.ofNat 0), .int .i64 (.ofNat 0)] 37 false), (1486, .row [.int .i64 (.ofNat 1), .int .i64 (.ofNat 1)] 37 false), (1533, .row [.int .i64 (.ofNat 1), .int .i64 (.ofNat 0), .bool false, .int .i64 (.ofNat 1), .int .i64 (.ofNat 1), .bool true] 40 false)]⟩
theorem wf_l0 : Go.Ev.wfM 2 laidL l0 = true := by kernel_rfl
theorem good_l0 (E : Nat → TypeId) : Go.Ev.goodM Tryz.prog C_l0 2000 E l0 = true := by kernel_rfl
theorem ans_l0 : Go.Ev.Ans Tryz.prog 2 laidL l0 := Go.Ev.ans_of (G := C_l0) drawn ok_C_l0 wf_l0 good_l0
end Go.Proofs.YtfgjpmipnjjkpaaGreatDoor.lawRevisitNames
