/- BruteNames: a part of the proof that the call of the law returns true: the evaluator's answers, reckoned by the kernel. -/
import Derived.Test.YtjaikahfdnlakaaGreatDoorLawBruteNamesS
namespace Go.Proofs.YtjaikahfdnlakaaGreatDoor.lawBruteNames
open Go.ChangeShapes Go.WideShapes Go.ChangeAt Go.RowKit

theorem cellsAre0 : (Go.Ev.flatD Tryz.prog 10 239 Rows.laid_cantilever_ir_shapes).bind (Go.Ev.allSome Go.Ev.ofLeaf) = some cells0 := by kernel_rfl
theorem cellsAre6 : (Go.Ev.flatD Tryz.prog 10 436 Rows.laid_math_bits_deBruijn64tab).bind (Go.Ev.allSome Go.Ev.ofLeaf) = some cells6 := by kernel_rfl

theorem walk {W : World} (hL : laidMetH Tryz.prog Rows.bruteNamesRow.laid W) : Calls Tryz.prog 3 #[] W fun e w' => e = .returned (.bool true) ∧ Go.Ev.Keeps W w' := by
  obtain ⟨vs0, hf0, hv0⟩ := Option.bind_eq_some_iff.1 cellsAre0
  obtain ⟨e0, fr0, hb0⟩ := Go.Ev.laid_block (P := Tryz.prog) (m := 10) "cantilever/ir.shapes" hL (d := Rows.laid_cantilever_ir_shapes) (by rfl) (by rfl) (g := 0) (t := 239) (by kernel_rfl) (by kernel_rfl) hf0
  obtain ⟨vs6, hf6, hv6⟩ := Option.bind_eq_some_iff.1 cellsAre6
  obtain ⟨e6, fr6, hb6⟩ := Go.Ev.laid_block (P := Tryz.prog) (m := 10) "math/bits.deBruijn64tab" hL (d := Rows.laid_math_bits_deBruijn64tab) (by rfl) (by rfl) (g := 6) (t := 436) (by kernel_rfl) (by kernel_rfl) hf6
  have hsz : 7 ≤ W.heap.size := by
    have := (Array.getElem?_eq_some_iff.1 hb6).1
    omega
  refine Go.Ev.calls_true (G := G1) drawn ok1 hsz wf (fun x hx => ?_) says
  have hx : x ∈ laidL := hx
  simp only [laidL, List.mem_cons, List.not_mem_nil, or_false] at hx
  rcases hx with rfl | rfl
  · exact Go.Ev.LaidIs.of hb0 hv0
  · exact Go.Ev.LaidIs.of hb6 hv6

theorem door_met (os : Os) (args : Array Value) : laidMetH Tryz.prog Rows.bruteNamesRow.laid ((World.doorLaid Tryz.prog 101 os).forCall (fun _ _ => 0) ⟨#[], args, []⟩).memory :=
  laidMetH_of_parts3 (fuel := 8) (laidMet_of_run' 8 (by kernel_rfl) (by kernel_rfl)) (by kernel_rfl) (by kernel_rfl)


end Go.Proofs.YtjaikahfdnlakaaGreatDoor.lawBruteNames
