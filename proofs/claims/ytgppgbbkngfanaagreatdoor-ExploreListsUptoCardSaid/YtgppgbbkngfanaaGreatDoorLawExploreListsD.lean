/- Part of the proof: an evaluator of the model's code, rules for walks on it, walks. Without conditions. -/
import Derived.Test.YtgppgbbkngfanaaGreatDoorEe
import Derived.Test.YtgppgbbkngfanaaGreatDoorEt
import Derived.Test.YtgppgbbkngfanaaGreatDoorRows
import Derived.Test.YtgppgbbkngfanaaGreatDoorCards
import Derived.Test.YtgppgbbkngfanaaGreatDoorTie
import Derived.SevenTiedAt
import Derived.LaidMore
import Derived.ProofKit
import Derived.OpenShut
import Derived.JoinedCond
import Derived.Stop.Joined
import Derived.Deep.DeepHandedRow
import Derived.Deep.DeepWitnessRowRef
set_option linter.unusedSectionVars false
set_option linter.unusedVariables false
set_option linter.unusedSimpArgs false
namespace Go.Proofs.YtgppgbbkngfanaaGreatDoor.lawExploreLists
open Go.ChangeShapes Go.WideShapes Go.ChangeAt Go.RowKit
set_option maxHeartbeats 8000000
set_option maxRecDepth 100000
theorem own : ownKnob Tryz.prog.godebug = none := by kernel_rfl
theorem cellsAre0 : (Go.Ev.flatD Tryz.prog 10 196 Rows.laid_cantilever_ir_shapes).bind (Go.Ev.allSome Go.Ev.ofLeaf) = some Go.Ev.cells0 := by kernel_rfl
theorem cellsAre1 : (Go.Ev.flatD Tryz.prog 10 321 Rows.laid_math_bits_deBruijn64tab).bind (Go.Ev.allSome Go.Ev.ofLeaf) = some Go.Ev.cells1 := by kernel_rfl
theorem cellsAre4 : (Go.Ev.flatD Tryz.prog 10 355 Rows.laid_internal_strconv_uint64pow10).bind (Go.Ev.allSome Go.Ev.ofLeaf) = some Go.Ev.cells4 := by kernel_rfl
theorem cellsAre5 : (Go.Ev.flatD Tryz.prog 10 357 Rows.laid_math_bits_deBruijn32tab).bind (Go.Ev.allSome Go.Ev.ofLeaf) = some Go.Ev.cells5 := by kernel_rfl
theorem laid_is [Go.Ev.Env] {W : World} (hL : laidMetH Tryz.prog Rows.exploreListsUptoRow.laid W) : 6 ≤ W.heap.size ∧ ∀ x ∈ Go.Ev.laidL, Go.Ev.LaidIs W x := by
  obtain ⟨vs0, hf0, hv0⟩ := Option.bind_eq_some_iff.1 cellsAre0
  obtain ⟨e0, fr0, hb0⟩ := Go.Ev.laid_block (P := Tryz.prog) (m := 10) "cantilever/ir.shapes" hL (d := Rows.laid_cantilever_ir_shapes) (by rfl) (by rfl) (g := 0) (t := 196) (by kernel_rfl) (by kernel_rfl) hf0
  obtain ⟨vs1, hf1, hv1⟩ := Option.bind_eq_some_iff.1 cellsAre1
  obtain ⟨e1, fr1, hb1⟩ := Go.Ev.laid_block (P := Tryz.prog) (m := 10) "math/bits.deBruijn64tab" hL (d := Rows.laid_math_bits_deBruijn64tab) (by rfl) (by rfl) (g := 1) (t := 321) (by kernel_rfl) (by kernel_rfl) hf1
  obtain ⟨vs4, hf4, hv4⟩ := Option.bind_eq_some_iff.1 cellsAre4
  obtain ⟨e4, fr4, hb4⟩ := Go.Ev.laid_block (P := Tryz.prog) (m := 10) "internal/strconv.uint64pow10" hL (d := Rows.laid_internal_strconv_uint64pow10) (by rfl) (by rfl) (g := 4) (t := 355) (by kernel_rfl) (by kernel_rfl) hf4
  obtain ⟨vs5, hf5, hv5⟩ := Option.bind_eq_some_iff.1 cellsAre5
  obtain ⟨e5, fr5, hb5⟩ := Go.Ev.laid_block (P := Tryz.prog) (m := 10) "math/bits.deBruijn32tab" hL (d := Rows.laid_math_bits_deBruijn32tab) (by rfl) (by rfl) (g := 5) (t := 357) (by kernel_rfl) (by kernel_rfl) hf5
  refine ⟨by have := (Array.getElem?_eq_some_iff.1 hb5).1; omega, fun x hx => ?_⟩
  simp only [Go.Ev.laidL, List.mem_cons, List.not_mem_nil, or_false] at hx
  rcases hx with rfl | rfl | rfl | rfl
  · exact Go.Ev.LaidIs.of hb0 hv0
  · exact Go.Ev.LaidIs.of hb1 hv1
  · exact Go.Ev.LaidIs.of hb4 hv4
  · exact Go.Ev.LaidIs.of hb5 hv5
theorem vr_head [Go.Ev.Env] {ρ : Go.Ev.Ren} {a : Go.Ev.AV} {v : Value} (h : Go.Ev.VRs ρ [a] [v]) : Go.Ev.VR ρ a v ∧ True := by
  obtain ⟨y, r, h1, h2, _⟩ := h.cons_inv
  cases h1
  exact ⟨h2, trivial⟩
theorem walked {H : Type} {enc : TypeId × Value → H} {w : World} (hL : laidMetH Tryz.prog Rows.exploreListsUptoRow.laid w) {Fu : Nat} {v0 : Value} {x0 : DataW H × List MemPlace}
    (t0 : DataW.trod enc Tryz.prog w 0 (fun _ => true) true (Fu + 6) 22 [v0] = some x0) (hb : Rows.uptoBulk x0.1 ≤ 1048576) :
    Calls Tryz.prog 3 #[v0] w fun e w' => e = .returned (.bool true) ∧ Go.Ev.Keeps w w' := by
  letI : Go.Ev.Env := ⟨fun _ => .bool false, w.heap.size, w.heap⟩
  have ho : Go.Ev.OldW w := ⟨Nat.le_refl _, fun _ _ => rfl⟩
  obtain ⟨hgl, hl⟩ := laid_is hL
  obtain ⟨ρ, σ, a0, hi, hro, hgr, hv0, s0, hk⟩ := Go.Ev.lay_args1 (enc := enc) ho hgl hl t0
  replace hv0 := vr_head hv0
  obtain ⟨hF, hn⟩ := Go.Ev.fewZs_of (Go.Ev.fit_of_trod _ _ _ _ x0.2 t0) hb
  refine (Go.Ev.calls_of_ev (P := Tryz.prog) (G := Go.Ev.GC) (args := [a0]) Go.Ev.drawnM Go.Ev.okGC hi hgr hro (by exact Go.Ev.VRs.cons hv0.1 Go.Ev.VRs.nil) (Go.Ev.w_ExploreLists Go.Ev.srtGC rfl hk.laid s0 hF hn (Go.Ev.St.of σ))).mono fun e w' h => ?_
  obtain ⟨v, x, σ', ρ', rfl, hk, hv, rfl⟩ := h
  simp only [Go.Ev.VR] at hv
  subst hv
  exact ⟨rfl, hk⟩
theorem slice_value {w : World} {t e : TypeId} {base : Nat} {v : Value} (hu : Tryz.prog.underlying t = some (.slice e)) (hok : Value.okWide Tryz.prog w .any base t v) : v.cells.toList = [v] := by
  letI : Go.Ev.Env := ⟨fun _ => .bool false, 0, #[]⟩
  unfold Value.okWide at hok
  rw [hu] at hok
  rcases Go.Ev.nilOr_of hu hok with rfl | ⟨a, len, cap, c, e, fr, rfl, _⟩ <;> rfl
theorem door_met (os : Os) (args : Array Value) : laidMetH Tryz.prog Rows.exploreListsUptoRow.laid ((World.doorLaid Tryz.prog 80 os).forCall (fun _ _ => 0) ⟨#[], args, []⟩).memory :=
  laidMetH_of_parts3 (fuel := 8) (laidMet_of_run' 8 (by kernel_rfl) (by kernel_rfl)) (by kernel_rfl) (by kernel_rfl)
end Go.Proofs.YtgppgbbkngfanaaGreatDoor.lawExploreLists
