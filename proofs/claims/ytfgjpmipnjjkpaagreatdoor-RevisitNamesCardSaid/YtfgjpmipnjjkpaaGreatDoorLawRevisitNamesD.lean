/- RevisitNames: a part of the proof that the call of the law returns true: the evaluator's answers, reckoned by the kernel. -/
import Derived.Test.YtfgjpmipnjjkpaaGreatDoorLawRevisitNamesS
namespace Go.Proofs.YtfgjpmipnjjkpaaGreatDoor.lawRevisitNames
open Go.ChangeShapes Go.WideShapes Go.ChangeAt Go.RowKit

theorem cellsAre0 : (Go.Ev.flatD Tryz.prog 10 219 Rows.laid_cantilever_ir_shapes).bind (Go.Ev.allSome Go.Ev.ofLeaf) = some cells0 := by kernel_rfl
theorem cellsAre1 : (Go.Ev.flatD Tryz.prog 10 245 Rows.laid_math_bits_deBruijn64tab).bind (Go.Ev.allSome Go.Ev.ofLeaf) = some cells1 := by kernel_rfl

theorem walk {W : World} (hL : laidMetH Tryz.prog Rows.revisitNamesRow.laid W) : Calls Tryz.prog 3 #[] W fun e w' => e = .returned (.bool true) ∧ Go.Ev.Keeps W w' := by
  obtain ⟨vs0, hf0, hv0⟩ := Option.bind_eq_some_iff.1 cellsAre0
  obtain ⟨e0, fr0, hb0⟩ := Go.Ev.laid_block (P := Tryz.prog) (m := 10) "cantilever/ir.shapes" hL (d := Rows.laid_cantilever_ir_shapes) (by rfl) (by rfl) (g := 0) (t := 219) (by kernel_rfl) (by kernel_rfl) hf0
  obtain ⟨vs1, hf1, hv1⟩ := Option.bind_eq_some_iff.1 cellsAre1
  obtain ⟨e1, fr1, hb1⟩ := Go.Ev.laid_block (P := Tryz.prog) (m := 10) "math/bits.deBruijn64tab" hL (d := Rows.laid_math_bits_deBruijn64tab) (by rfl) (by rfl) (g := 1) (t := 245) (by kernel_rfl) (by kernel_rfl) hf1
  have hsz : 2 ≤ W.heap.size := by
    have := (Array.getElem?_eq_some_iff.1 hb1).1
    omega
  refine Go.Ev.calls_true (G := GF) drawn ok_GF hsz wf (fun x hx => ?_) says
  have hx : x ∈ laidL := hx
  simp only [laidL, List.mem_cons, List.not_mem_nil, or_false] at hx
  rcases hx with rfl | rfl
  · exact Go.Ev.LaidIs.of hb0 hv0
  · exact Go.Ev.LaidIs.of hb1 hv1

theorem door_met (os : Os) (args : Array Value) : laidMetH Tryz.prog Rows.revisitNamesRow.laid ((World.doorLaid Tryz.prog 80 os).forCall (fun _ _ => 0) ⟨#[], args, []⟩).memory :=
  laidMetH_of_parts3 (fuel := 8) (laidMet_of_run' 8 (by kernel_rfl) (by kernel_rfl)) (by kernel_rfl) (by kernel_rfl)


end Go.Proofs.YtfgjpmipnjjkpaaGreatDoor.lawRevisitNames
