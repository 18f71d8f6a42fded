/- Part of the proof: an evaluator of the model's code, rules for walks on it, walks. Without conditions. -/
import Derived.Test.YtgppgbbkngfanaaGreatDoorEe
set_option linter.unusedSectionVars false
set_option linter.unusedVariables false
set_option linter.unusedSimpArgs false
noncomputable section
namespace Go.Ev
variable [Env]
open Go.Proofs
set_option maxRecDepth 100000
set_option maxHeartbeats 8000000
def m9 : ME := ⟨92, [.int .i64 (.ofNat 1), .slice 5362 0 2 (.known 2), .agg [.slice 5480 0 1 (.upto 1), .slice 5476 0 2 (.known 2), .slice 5477 0 2 (.known 2), .slice 5478 0 1 (.known 1), .nilSlice, .int .i64 (.ofNat 0)]], 5995, [(5357, .row [.int .i64 (.ofNat 1), .int .i64 (.ofNat 1), .str [], .nilSlice] 63 false), (5358, .row [.int .i64 (.ofNat 3), .int .i64 (.ofNat 0), .int .i64 (.ofNat 0), .int .i64 (.ofNat 4), .int .i64 (.ofNat 0), .slice 5357 0 1 (.known 1), .int .i64 (.ofNat 13), .int .i64 (.ofNat 0), .int .i64 (.ofNat 0), .int .i64 (.ofNat 0), .int .i64 (.ofNat 0), .nilSlice] 66 false), (5360, .row [.int .i64 (.ofNat 2), .int .i64 (.ofNat 0), .int .i64 (.ofNat 0), .int .i64 (.ofNat 3), .int .i64 (.ofNat 0), .nilSlice, .int .i64 (.ofNat 13), .int .i64 (.ofNat 0), .int .i64 (.ofNat 0), .int .i64 (.ofNat 0), .int .i64 (.ofNat 0), .nilSlice] 66 false), (5362, .row [.int .i64 (.ofNat 1), .slice 5360 0 2 (.known 2), .int .i64 (.ofNat 0), .slice 5358 0 2 (.known 2)] 69 false), (5476, .row [.nilSlice, .nilSlice] 70 false), (5477, .row [.nilSlice, .nilSlice] 71 false), (5478, .row [.nilSlice] 71 false), (5480, .row [.int .i64 (.ofNat 0)] 2 false)], .tuple [.nilSlice, .int .i64 (.ofNat 2)], 6115, [(5357, .row [.int .i64 (.ofNat 1), .int .i64 (.ofNat 1), .str [], .nilSlice] 63 false), (5358, .row [.int .i64 (.ofNat 3), .int .i64 (.ofNat 0), .int .i64 (.ofNat 0), .int .i64 (.ofNat 4), .int .i64 (.ofNat 0), .slice 5357 0 1 (.known 1), .int .i64 (.ofNat 13), .int .i64 (.ofNat 0), .int .i64 (.ofNat 0), .int .i64 (.ofNat 0), .int .i64 (.ofNat 0), .nilSlice] 66 false), (5360, .row [.int .i64 (.ofNat 2), .int .i64 (.ofNat 0), .int .i64 (.ofNat 0), .int .i64 (.ofNat 3), .int .i64 (.ofNat 0), .nilSlice, .int .i64 (.ofNat 13), .int .i64 (.ofNat 0), .int .i64 (.ofNat 0), .int .i64 (.ofNat 0), .int .i64 (.ofNat 0), .nilSlice] 66 false), (5362, .row [.int .i64 (.ofNat 1), .slice 5360 0 2 (.known 2), .int .i64 (.ofNat 0), .slice 5358 0 2 (.known 2)] 69 false), (5476, .row [.nilSlice, .nilSlice] 70 false), (5477, .row [.nilSlice, .nilSlice] 71 false), (5478, .row [.nilSlice] 71 false), (5480, .row [.int .i64 (.ofNat 0)] 2 false)]⟩
theorem wf_m9 : wfM 6 laidL m9 = true := by kernel_rfl
theorem good_m9 (E : Nat → TypeId) : goodM Tryz.prog GL 2000 E m9 = true := by kernel_rfl
theorem ans_m9 : Ans Tryz.prog 6 laidL m9 := ans_of (G := GL) drawnM okGL wf_m9 good_m9
end Go.Ev
end
