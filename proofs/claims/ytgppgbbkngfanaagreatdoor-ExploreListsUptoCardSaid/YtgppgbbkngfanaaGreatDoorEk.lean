/- Part of the proof: an evaluator of the model's code, rules for walks on it, walks. Without conditions. -/
import Derived.Test.YtgppgbbkngfanaaGreatDoorEe
set_option linter.unusedSectionVars false
set_option linter.unusedVariables false
set_option linter.unusedSimpArgs false
noncomputable section
namespace Go.Ev
variable [Env]
open Go.Proofs
set_option maxRecDepth 100000
set_option maxHeartbeats 8000000
def m5 : ME := ⟨92, [.int .i64 (.ofNat 2), .slice 2872 0 2 (.known 2), .agg [.slice 2990 0 1 (.upto 1), .slice 2986 0 2 (.known 2), .slice 2987 0 2 (.known 2), .slice 2988 0 1 (.known 1), .nilSlice, .int .i64 (.ofNat 0)]], 3504, [(2867, .row [.int .i64 (.ofNat 1), .int .i64 (.ofNat 1), .str [], .nilSlice] 63 false), (2868, .row [.int .i64 (.ofNat 3), .int .i64 (.ofNat 0), .int .i64 (.ofNat 0), .int .i64 (.ofNat 4), .int .i64 (.ofNat 0), .slice 2867 0 1 (.known 1), .int .i64 (.ofNat 13), .int .i64 (.ofNat 0), .int .i64 (.ofNat 0), .int .i64 (.ofNat 0), .int .i64 (.ofNat 0), .nilSlice] 66 false), (2870, .row [.int .i64 (.ofNat 2), .int .i64 (.ofNat 0), .int .i64 (.ofNat 0), .int .i64 (.ofNat 3), .int .i64 (.ofNat 0), .nilSlice, .int .i64 (.ofNat 13), .int .i64 (.ofNat 0), .int .i64 (.ofNat 0), .int .i64 (.ofNat 0), .int .i64 (.ofNat 0), .nilSlice] 66 false), (2872, .row [.int .i64 (.ofNat 0), .slice 2868 0 2 (.known 2), .int .i64 (.ofNat 1), .slice 2870 0 2 (.known 2)] 69 false), (2986, .row [.nilSlice, .nilSlice] 70 false), (2987, .row [.nilSlice, .nilSlice] 71 false), (2988, .row [.nilSlice] 71 false), (2990, .row [.int .i64 (.ofNat 0)] 2 false)], .tuple [.nilSlice, .int .i64 (.ofNat 0)], 3786, [(2867, .row [.int .i64 (.ofNat 1), .int .i64 (.ofNat 1), .str [], .nilSlice] 63 false), (2868, .row [.int .i64 (.ofNat 3), .int .i64 (.ofNat 0), .int .i64 (.ofNat 0), .int .i64 (.ofNat 4), .int .i64 (.ofNat 0), .slice 2867 0 1 (.known 1), .int .i64 (.ofNat 13), .int .i64 (.ofNat 0), .int .i64 (.ofNat 0), .int .i64 (.ofNat 0), .int .i64 (.ofNat 0), .nilSlice] 66 false), (2870, .row [.int .i64 (.ofNat 2), .int .i64 (.ofNat 0), .int .i64 (.ofNat 0), .int .i64 (.ofNat 3), .int .i64 (.ofNat 0), .nilSlice, .int .i64 (.ofNat 13), .int .i64 (.ofNat 0), .int .i64 (.ofNat 0), .int .i64 (.ofNat 0), .int .i64 (.ofNat 0), .nilSlice] 66 false), (2872, .row [.int .i64 (.ofNat 0), .slice 2868 0 2 (.known 2), .int .i64 (.ofNat 1), .slice 2870 0 2 (.known 2)] 69 false), (2986, .row [.nilSlice, .nilSlice] 70 false), (2987, .row [.nilSlice, .nilSlice] 71 false), (2988, .row [.nilSlice] 71 false), (2990, .row [.int .i64 (.ofNat 0)] 2 false)]⟩
theorem wf_m5 : wfM 6 laidL m5 = true := by kernel_rfl
theorem good_m5 (E : Nat → TypeId) : goodM Tryz.prog GL 2000 E m5 = true := by kernel_rfl
theorem ans_m5 : Ans Tryz.prog 6 laidL m5 := ans_of (G := GL) drawnM okGL wf_m5 good_m5
end Go.Ev
end
