/- Part of the proof: an evaluator of the model's code, rules for walks on it, walks. Without conditions. -/
import Derived.Test.YtgppgbbkngfanaaGreatDoorEe
set_option linter.unusedSectionVars false
set_option linter.unusedVariables false
set_option linter.unusedSimpArgs false
noncomputable section
namespace Go.Ev
variable [Env]
open Go.Proofs
set_option maxRecDepth 100000
set_option maxHeartbeats 8000000
def m1 : ME := ⟨92, [.int .i64 (.ofNat 2), .slice 13 0 2 (.known 2), .agg [.slice 131 0 1 (.upto 1), .slice 127 0 2 (.known 2), .slice 128 0 2 (.known 2), .slice 129 0 1 (.known 1), .nilSlice, .int .i64 (.ofNat 0)]], 645, [(8, .row [.int .i64 (.ofNat 1), .int .i64 (.ofNat 1), .str [], .nilSlice] 63 false), (9, .row [.int .i64 (.ofNat 3), .int .i64 (.ofNat 0), .int .i64 (.ofNat 0), .int .i64 (.ofNat 4), .int .i64 (.ofNat 0), .slice 8 0 1 (.known 1), .int .i64 (.ofNat 13), .int .i64 (.ofNat 0), .int .i64 (.ofNat 0), .int .i64 (.ofNat 0), .int .i64 (.ofNat 0), .nilSlice] 66 false), (11, .row [.int .i64 (.ofNat 2), .int .i64 (.ofNat 0), .int .i64 (.ofNat 0), .int .i64 (.ofNat 3), .int .i64 (.ofNat 0), .nilSlice, .int .i64 (.ofNat 13), .int .i64 (.ofNat 0), .int .i64 (.ofNat 0), .int .i64 (.ofNat 0), .int .i64 (.ofNat 0), .nilSlice] 66 false), (13, .row [.int .i64 (.ofNat 0), .slice 9 0 2 (.known 2), .int .i64 (.ofNat 1), .slice 11 0 2 (.known 2)] 69 false), (127, .row [.nilSlice, .nilSlice] 70 false), (128, .row [.nilSlice, .nilSlice] 71 false), (129, .row [.nilSlice] 71 false), (131, .row [.int .i64 (.ofNat 0)] 2 false)], .tuple [.nilSlice, .int .i64 (.ofNat 0)], 927, [(8, .row [.int .i64 (.ofNat 1), .int .i64 (.ofNat 1), .str [], .nilSlice] 63 false), (9, .row [.int .i64 (.ofNat 3), .int .i64 (.ofNat 0), .int .i64 (.ofNat 0), .int .i64 (.ofNat 4), .int .i64 (.ofNat 0), .slice 8 0 1 (.known 1), .int .i64 (.ofNat 13), .int .i64 (.ofNat 0), .int .i64 (.ofNat 0), .int .i64 (.ofNat 0), .int .i64 (.ofNat 0), .nilSlice] 66 false), (11, .row [.int .i64 (.ofNat 2), .int .i64 (.ofNat 0), .int .i64 (.ofNat 0), .int .i64 (.ofNat 3), .int .i64 (.ofNat 0), .nilSlice, .int .i64 (.ofNat 13), .int .i64 (.ofNat 0), .int .i64 (.ofNat 0), .int .i64 (.ofNat 0), .int .i64 (.ofNat 0), .nilSlice] 66 false), (13, .row [.int .i64 (.ofNat 0), .slice 9 0 2 (.known 2), .int .i64 (.ofNat 1), .slice 11 0 2 (.known 2)] 69 false), (127, .row [.nilSlice, .nilSlice] 70 false), (128, .row [.nilSlice, .nilSlice] 71 false), (129, .row [.nilSlice] 71 false), (131, .row [.int .i64 (.ofNat 0)] 2 false)]⟩
theorem wf_m1 : wfM 6 laidL m1 = true := by kernel_rfl
theorem good_m1 (E : Nat → TypeId) : goodM Tryz.prog GL 2000 E m1 = true := by kernel_rfl
theorem ans_m1 : Ans Tryz.prog 6 laidL m1 := ans_of (G := GL) drawnM okGL wf_m1 good_m1
end Go.Ev
end
