/- Walks and runs: what functions of the program come to, on the evaluator. Without conditions. -/
import Derived.Test.YtgmdncbbcgiomaaPb
import Derived.KernelRfl
set_option linter.unusedSectionVars false
set_option linter.unusedVariables false
set_option linter.unusedSimpArgs false
namespace Go.Ev
variable [Env]
open Go.Proofs
set_option maxRecDepth 4000

theorem run0 (c e : Nat) : saysTrue (evalF Try.prog (GQ 1 false [0]) 2000 3 [.slice 0 0 1 (.known c)] (σT (.tok 0 :: .tok 1 :: []) e)) = true := by kernel_rfl
theorem run00 (c e : Nat) : saysTrue (evalF Try.prog (GQ 2 false [0, 0]) 2000 3 [.slice 0 0 2 (.known c)] (σT (.tok 0 :: .tok 1 :: .tok 2 :: .tok 3 :: []) e)) = true := by kernel_rfl
theorem run01 (c e : Nat) : saysTrue (evalF Try.prog (GQ 2 false [0, 1]) 2000 3 [.slice 0 0 2 (.known c)] (σT (.tok 0 :: .tok 1 :: .tok 2 :: .tok 3 :: []) e)) = true := by kernel_rfl
theorem run000 (c e : Nat) : saysTrue (evalF Try.prog (GQ 3 false [0, 0, 0]) 2000 3 [.slice 0 0 3 (.known c)] (σT (.tok 0 :: .tok 1 :: .tok 2 :: .tok 3 :: .tok 4 :: .tok 5 :: []) e)) = true := by kernel_rfl
theorem run002 (c e : Nat) : saysTrue (evalF Try.prog (GQ 3 false [0, 0, 2]) 2000 3 [.slice 0 0 3 (.known c)] (σT (.tok 0 :: .tok 1 :: .tok 2 :: .tok 3 :: .tok 4 :: .tok 5 :: []) e)) = true := by kernel_rfl
theorem run010 (c e : Nat) : saysTrue (evalF Try.prog (GQ 3 false [0, 1, 0]) 2000 3 [.slice 0 0 3 (.known c)] (σT (.tok 0 :: .tok 1 :: .tok 2 :: .tok 3 :: .tok 4 :: .tok 5 :: []) e)) = true := by kernel_rfl
theorem run011 (c e : Nat) : saysTrue (evalF Try.prog (GQ 3 false [0, 1, 1]) 2000 3 [.slice 0 0 3 (.known c)] (σT (.tok 0 :: .tok 1 :: .tok 2 :: .tok 3 :: .tok 4 :: .tok 5 :: []) e)) = true := by kernel_rfl
theorem run012 (c e : Nat) : saysTrue (evalF Try.prog (GQ 3 false [0, 1, 2]) 2000 3 [.slice 0 0 3 (.known c)] (σT (.tok 0 :: .tok 1 :: .tok 2 :: .tok 3 :: .tok 4 :: .tok 5 :: []) e)) = true := by kernel_rfl
theorem run0000 (c e : Nat) : saysTrue (evalF Try.prog (GQ 4 false [0, 0, 0, 0]) 2000 3 [.slice 0 0 4 (.known c)] (σT (.tok 0 :: .tok 1 :: .tok 2 :: .tok 3 :: .tok 4 :: .tok 5 :: .tok 6 :: .tok 7 :: []) e)) = true := by kernel_rfl
theorem run0003 (c e : Nat) : saysTrue (evalF Try.prog (GQ 4 false [0, 0, 0, 3]) 2000 3 [.slice 0 0 4 (.known c)] (σT (.tok 0 :: .tok 1 :: .tok 2 :: .tok 3 :: .tok 4 :: .tok 5 :: .tok 6 :: .tok 7 :: []) e)) = true := by kernel_rfl
theorem run0020 (c e : Nat) : saysTrue (evalF Try.prog (GQ 4 false [0, 0, 2, 0]) 2000 3 [.slice 0 0 4 (.known c)] (σT (.tok 0 :: .tok 1 :: .tok 2 :: .tok 3 :: .tok 4 :: .tok 5 :: .tok 6 :: .tok 7 :: []) e)) = true := by kernel_rfl
theorem run0022 (c e : Nat) : saysTrue (evalF Try.prog (GQ 4 false [0, 0, 2, 2]) 2000 3 [.slice 0 0 4 (.known c)] (σT (.tok 0 :: .tok 1 :: .tok 2 :: .tok 3 :: .tok 4 :: .tok 5 :: .tok 6 :: .tok 7 :: []) e)) = true := by kernel_rfl
theorem run0023 (c e : Nat) : saysTrue (evalF Try.prog (GQ 4 false [0, 0, 2, 3]) 2000 3 [.slice 0 0 4 (.known c)] (σT (.tok 0 :: .tok 1 :: .tok 2 :: .tok 3 :: .tok 4 :: .tok 5 :: .tok 6 :: .tok 7 :: []) e)) = true := by kernel_rfl
theorem run0100 (c e : Nat) : saysTrue (evalF Try.prog (GQ 4 false [0, 1, 0, 0]) 2000 3 [.slice 0 0 4 (.known c)] (σT (.tok 0 :: .tok 1 :: .tok 2 :: .tok 3 :: .tok 4 :: .tok 5 :: .tok 6 :: .tok 7 :: []) e)) = true := by kernel_rfl
theorem run0101 (c e : Nat) : saysTrue (evalF Try.prog (GQ 4 false [0, 1, 0, 1]) 2000 3 [.slice 0 0 4 (.known c)] (σT (.tok 0 :: .tok 1 :: .tok 2 :: .tok 3 :: .tok 4 :: .tok 5 :: .tok 6 :: .tok 7 :: []) e)) = true := by kernel_rfl
theorem run0103 (c e : Nat) : saysTrue (evalF Try.prog (GQ 4 false [0, 1, 0, 3]) 2000 3 [.slice 0 0 4 (.known c)] (σT (.tok 0 :: .tok 1 :: .tok 2 :: .tok 3 :: .tok 4 :: .tok 5 :: .tok 6 :: .tok 7 :: []) e)) = true := by kernel_rfl
theorem run0110 (c e : Nat) : saysTrue (evalF Try.prog (GQ 4 false [0, 1, 1, 0]) 2000 3 [.slice 0 0 4 (.known c)] (σT (.tok 0 :: .tok 1 :: .tok 2 :: .tok 3 :: .tok 4 :: .tok 5 :: .tok 6 :: .tok 7 :: []) e)) = true := by kernel_rfl
theorem run0111 (c e : Nat) : saysTrue (evalF Try.prog (GQ 4 false [0, 1, 1, 1]) 2000 3 [.slice 0 0 4 (.known c)] (σT (.tok 0 :: .tok 1 :: .tok 2 :: .tok 3 :: .tok 4 :: .tok 5 :: .tok 6 :: .tok 7 :: []) e)) = true := by kernel_rfl
theorem run0113 (c e : Nat) : saysTrue (evalF Try.prog (GQ 4 false [0, 1, 1, 3]) 2000 3 [.slice 0 0 4 (.known c)] (σT (.tok 0 :: .tok 1 :: .tok 2 :: .tok 3 :: .tok 4 :: .tok 5 :: .tok 6 :: .tok 7 :: []) e)) = true := by kernel_rfl
theorem run0120 (c e : Nat) : saysTrue (evalF Try.prog (GQ 4 false [0, 1, 2, 0]) 2000 3 [.slice 0 0 4 (.known c)] (σT (.tok 0 :: .tok 1 :: .tok 2 :: .tok 3 :: .tok 4 :: .tok 5 :: .tok 6 :: .tok 7 :: []) e)) = true := by kernel_rfl
theorem run0121 (c e : Nat) : saysTrue (evalF Try.prog (GQ 4 false [0, 1, 2, 1]) 2000 3 [.slice 0 0 4 (.known c)] (σT (.tok 0 :: .tok 1 :: .tok 2 :: .tok 3 :: .tok 4 :: .tok 5 :: .tok 6 :: .tok 7 :: []) e)) = true := by kernel_rfl
theorem run0122 (c e : Nat) : saysTrue (evalF Try.prog (GQ 4 false [0, 1, 2, 2]) 2000 3 [.slice 0 0 4 (.known c)] (σT (.tok 0 :: .tok 1 :: .tok 2 :: .tok 3 :: .tok 4 :: .tok 5 :: .tok 6 :: .tok 7 :: []) e)) = true := by kernel_rfl
theorem run0123 (c e : Nat) : saysTrue (evalF Try.prog (GQ 4 false [0, 1, 2, 3]) 2000 3 [.slice 0 0 4 (.known c)] (σT (.tok 0 :: .tok 1 :: .tok 2 :: .tok 3 :: .tok 4 :: .tok 5 :: .tok 6 :: .tok 7 :: []) e)) = true := by kernel_rfl
theorem runDark0 (m c e : Nat) : saysTrue (evalF Try.prog (GQ 0 true []) 2000 3 [.slice 0 0 (m + 1) (.known c)] (σT (.tok 0 :: .tok 1 :: []) e)) = true := by kernel_rfl
theorem runDark1 (m c e : Nat) : saysTrue (evalF Try.prog (GQ 1 true []) 2000 3 [.slice 0 0 (m + 2) (.known c)] (σT (.tok 0 :: .tok 1 :: .tok 2 :: .tok 3 :: []) e)) = true := by kernel_rfl
theorem runDark2 (m c e : Nat) : saysTrue (evalF Try.prog (GQ 2 true []) 2000 3 [.slice 0 0 (m + 3) (.known c)] (σT (.tok 0 :: .tok 1 :: .tok 2 :: .tok 3 :: .tok 4 :: .tok 5 :: []) e)) = true := by kernel_rfl
theorem runDark3 (m c e : Nat) : saysTrue (evalF Try.prog (GQ 3 true []) 2000 3 [.slice 0 0 (m + 4) (.known c)] (σT (.tok 0 :: .tok 1 :: .tok 2 :: .tok 3 :: .tok 4 :: .tok 5 :: .tok 6 :: .tok 7 :: []) e)) = true := by kernel_rfl
theorem runDark4 (m c e : Nat) : saysTrue (evalF Try.prog (GQ 4 true []) 2000 3 [.slice 0 0 (m + 5) (.known c)] (σT (.tok 0 :: .tok 1 :: .tok 2 :: .tok 3 :: .tok 4 :: .tok 5 :: .tok 6 :: .tok 7 :: .tok 8 :: .tok 9 :: []) e)) = true := by kernel_rfl
theorem runDark5 (m c e : Nat) : saysTrue (evalF Try.prog (GQ 5 true []) 2000 3 [.slice 0 0 (m + 6) (.known c)] (σT (.tok 0 :: .tok 1 :: .tok 2 :: .tok 3 :: .tok 4 :: .tok 5 :: .tok 6 :: .tok 7 :: .tok 8 :: .tok 9 :: .tok 10 :: .tok 11 :: []) e)) = true := by kernel_rfl
theorem runFive (c e : Nat) : saysTrue (evalF Try.prog (GQ 5 false []) 2000 3 [.slice 0 0 5 (.known c)] (σT (.tok 0 :: .tok 1 :: .tok 2 :: .tok 3 :: .tok 4 :: .tok 5 :: .tok 6 :: .tok 7 :: .tok 8 :: .tok 9 :: []) e)) = true := by kernel_rfl
theorem runSix (c e : Nat) : saysTrue (evalF Try.prog (GQ 6 false []) 2000 3 [.slice 0 0 6 (.known c)] (σT (.tok 0 :: .tok 1 :: .tok 2 :: .tok 3 :: .tok 4 :: .tok 5 :: .tok 6 :: .tok 7 :: .tok 8 :: .tok 9 :: .tok 10 :: .tok 11 :: []) e)) = true := by kernel_rfl
theorem runLong (m c e : Nat) : saysTrue (evalF Try.prog (GQ 6 false []) 2000 3 [.slice 0 0 (m + 7) (.known c)] (σT (.tok 0 :: .tok 1 :: .tok 2 :: .tok 3 :: .tok 4 :: .tok 5 :: .tok 6 :: .tok 7 :: .tok 8 :: .tok 9 :: .tok 10 :: .tok 11 :: []) e)) = true := by kernel_rfl
theorem runZero (c : Cap) (e : Nat) : saysTrue (evalF Try.prog (GQ 0 false []) 2000 3 [.slice 0 0 0 c] (σT [] e)) = true := by kernel_rfl
theorem runNil : saysTrue (evalF Try.prog (GQ 0 false []) 2000 3 [.nilSlice] σ0) = true := by kernel_rfl
theorem runs (cls : List Nat) (h : cls ∈ patsL) (c e : Nat) : saysTrue (evalF Try.prog (GQ cls.length false cls) 2000 3 [.slice 0 0 cls.length (.known c)] (σT (toks cls.length []) e)) = true := by
  simp only [patsL, List.mem_cons, List.not_mem_nil, or_false] at h
  rcases h with rfl | rfl | rfl | rfl | rfl | rfl | rfl | rfl | rfl | rfl | rfl | rfl | rfl | rfl | rfl | rfl | rfl | rfl | rfl | rfl | rfl | rfl | rfl
  · exact run0 c e
  · exact run00 c e
  · exact run01 c e
  · exact run000 c e
  · exact run002 c e
  · exact run010 c e
  · exact run011 c e
  · exact run012 c e
  · exact run0000 c e
  · exact run0003 c e
  · exact run0020 c e
  · exact run0022 c e
  · exact run0023 c e
  · exact run0100 c e
  · exact run0101 c e
  · exact run0103 c e
  · exact run0110 c e
  · exact run0111 c e
  · exact run0113 c e
  · exact run0120 c e
  · exact run0121 c e
  · exact run0122 c e
  · exact run0123 c e
end Go.Ev

