/- RevisitNames: a part of the proof that the call of the law returns true: the evaluator's answers, reckoned by the kernel. -/
import Derived.Test.YtfgjpmipnjjkpaaGreatDoorLawRevisitNamesA
namespace Go.Proofs.YtfgjpmipnjjkpaaGreatDoor.lawRevisitNames
open Go.ChangeShapes Go.WideShapes Go.ChangeAt Go.RowKit

noncomputable def C_l4 : Go.Ev.Cx := ⟨2, isOv, isFork, fun _ _ => none, laidL, [], fun _ _ _ => none⟩
theorem ok_C_l4 : Go.Ev.CxOK Tryz.prog C_l4 := by
  refine ⟨ovs, (fun f args v h => by cases h), (fun e h => by cases h)⟩
noncomputable def l4 : Go.Ev.ME := ⟨86, [.int .i64 (.ofNat 2), .agg [.slice 437 0 2 (.upto 1), .slice 444 0 2 (.upto 1), .slice 450 0 2 (.upto 1), .slice 456 0 2 (.upto 1)]], 498, [(437, .row [.int .i64 (.ofNat 0), .int .i64 (.ofNat 0)] 2 false), (442, .row [] 57 false), (444, .row [.slice 460 0 1 (.upto 5), .slice 442 0 0 (.known 0)] 86 false), (448, .row [] 37 false), (450, .row [.slice 462 0 1 (.upto 2), .slice 448 0 0 (.known 0)] 41 false), (451, .row [] 37 false), (454, .row [] 37 false), (456, .row [.slice 451 0 0 (.known 0), .slice 454 0 0 (.known 0)] 41 false), (460, .row [.int .i64 (.ofNat 1), .int .i64 (.ofNat 0), .int .i64 (.ofNat 3), .int .i64 (.ofNat 0), .int .i64 (.ofNat 0)] 57 false), (462, .row [.int .i64 (.ofNat 0), .int .i64 (.ofNat 0)] 37 false)], .tuple [.bool true, .int .i64 (.ofNat 0)], 885, [(437, .row [.int .i64 (.ofNat 0), .int .i64 (.ofNat 0)] 2 false), (442, .row [] 57 false), (444, .row [.slice 460 0 1 (.upto 5), .slice 442 0 0 (.known 0)] 86 false), (448, .row [] 37 false), (450, .row [.slice 462 0 1 (.upto 2), .slice 448 0 0 (.known 0)] 41 false), (451, .row [] 37 false), (454, .row [] 37 false), (456, .row [.slice 451 0 0 (.known 0), .slice 454 0 0 (.known 0)] 41 false), (460, .row [.int .i64 (.ofNat 1), .int .i64 (.ofNat 0), .int .i64 (.ofNat 3), .int .i64 (.ofNat 0), .int .i64 (.ofNat 0)] 57 false), (462, .row [.int .i64 (.ofNat 0), .int .i64 (.ofNat 0)] 37 false)]⟩
theorem wf_l4 : Go.Ev.wfM 2 laidL l4 = true := by kernel_rfl
theorem good_l4 (E : Nat → TypeId) : Go.Ev.goodM Tryz.prog C_l4 2000 E l4 = true := by kernel_rfl
theorem ans_l4 : Go.Ev.Ans Tryz.prog 2 laidL l4 := Go.Ev.ans_of (G := C_l4) drawn ok_C_l4 wf_l4 good_l4
end Go.Proofs.YtfgjpmipnjjkpaaGreatDoor.lawRevisitNames
