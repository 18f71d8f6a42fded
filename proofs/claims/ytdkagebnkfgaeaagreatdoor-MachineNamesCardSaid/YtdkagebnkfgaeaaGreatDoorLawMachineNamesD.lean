/- MachineNames: a part of the proof that the call of the law returns true: the evaluator's answers, reckoned by the kernel. -/
import Derived.Test.YtdkagebnkfgaeaaGreatDoorLawMachineNamesS
namespace Go.Proofs.YtdkagebnkfgaeaaGreatDoor.lawMachineNames
open Go.ChangeShapes Go.WideShapes Go.ChangeAt Go.RowKit

theorem cellsAre0 : (Go.Ev.flatD Tryz.prog 10 346 Rows.laid_cantilever_ir_shapes).bind (Go.Ev.allSome Go.Ev.ofLeaf) = some cells0 := by kernel_rfl
theorem cellsAre1 : (Go.Ev.flatD Tryz.prog 10 356 Rows.laid_internal_strconv_uint64pow10).bind (Go.Ev.allSome Go.Ev.ofLeaf) = some cells1 := by kernel_rfl
theorem cellsAre2 : (Go.Ev.flatD Tryz.prog 10 361 Rows.laid_math_bits_deBruijn64tab).bind (Go.Ev.allSome Go.Ev.ofLeaf) = some cells2 := by kernel_rfl
theorem cellsAre5 : (Go.Ev.flatD Tryz.prog 10 376 Rows.laid_math_bits_deBruijn32tab).bind (Go.Ev.allSome Go.Ev.ofLeaf) = some cells5 := by kernel_rfl

theorem walk {W : World} (hL : laidMetH Tryz.prog Rows.machineNamesRow.laid W) : Calls Tryz.prog 4 #[] W fun e w' => e = .returned (.bool true) ∧ Go.Ev.Keeps W w' := by
  obtain ⟨vs0, hf0, hv0⟩ := Option.bind_eq_some_iff.1 cellsAre0
  obtain ⟨e0, fr0, hb0⟩ := Go.Ev.laid_block (P := Tryz.prog) (m := 10) "cantilever/ir.shapes" hL (d := Rows.laid_cantilever_ir_shapes) (by rfl) (by rfl) (g := 0) (t := 346) (by kernel_rfl) (by kernel_rfl) hf0
  obtain ⟨vs1, hf1, hv1⟩ := Option.bind_eq_some_iff.1 cellsAre1
  obtain ⟨e1, fr1, hb1⟩ := Go.Ev.laid_block (P := Tryz.prog) (m := 10) "internal/strconv.uint64pow10" hL (d := Rows.laid_internal_strconv_uint64pow10) (by rfl) (by rfl) (g := 1) (t := 356) (by kernel_rfl) (by kernel_rfl) hf1
  obtain ⟨vs2, hf2, hv2⟩ := Option.bind_eq_some_iff.1 cellsAre2
  obtain ⟨e2, fr2, hb2⟩ := Go.Ev.laid_block (P := Tryz.prog) (m := 10) "math/bits.deBruijn64tab" hL (d := Rows.laid_math_bits_deBruijn64tab) (by rfl) (by rfl) (g := 2) (t := 361) (by kernel_rfl) (by kernel_rfl) hf2
  obtain ⟨vs5, hf5, hv5⟩ := Option.bind_eq_some_iff.1 cellsAre5
  obtain ⟨e5, fr5, hb5⟩ := Go.Ev.laid_block (P := Tryz.prog) (m := 10) "math/bits.deBruijn32tab" hL (d := Rows.laid_math_bits_deBruijn32tab) (by rfl) (by rfl) (g := 5) (t := 376) (by kernel_rfl) (by kernel_rfl) hf5
  have hsz : 6 ≤ W.heap.size := by
    have := (Array.getElem?_eq_some_iff.1 hb5).1
    omega
  refine Go.Ev.calls_true (G := GF) drawn ok_GF hsz wf (fun x hx => ?_) says
  have hx : x ∈ laidL := hx
  simp only [laidL, List.mem_cons, List.not_mem_nil, or_false] at hx
  rcases hx with rfl | rfl | rfl | rfl
  · exact Go.Ev.LaidIs.of hb0 hv0
  · exact Go.Ev.LaidIs.of hb1 hv1
  · exact Go.Ev.LaidIs.of hb2 hv2
  · exact Go.Ev.LaidIs.of hb5 hv5

theorem door_met (os : Os) (args : Array Value) : laidMetH Tryz.prog Rows.machineNamesRow.laid ((World.doorLaid Tryz.prog 80 os).forCall (fun _ _ => 0) ⟨#[], args, []⟩).memory :=
  laidMetH_of_parts3 (fuel := 8) (laidMet_of_run' 8 (by kernel_rfl) (by kernel_rfl)) (by kernel_rfl) (by kernel_rfl)


end Go.Proofs.YtdkagebnkfgaeaaGreatDoor.lawMachineNames
