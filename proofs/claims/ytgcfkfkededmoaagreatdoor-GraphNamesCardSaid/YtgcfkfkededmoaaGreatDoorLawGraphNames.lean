/- GraphNames: whatever the world, the call of the law returns true and what lay in memory lies as it lay. Without conditions beyond the statement's own. The evaluator's answer is reckoned by the kernel; the evaluator is the machine's (the texts Ea, Eb). -/
import Derived.Test.YtgcfkfkededmoaaGreatDoorRows
import Derived.Test.YtgcfkfkededmoaaGreatDoorCards
import Derived.Test.YtgcfkfkededmoaaGreatDoorTie
import Derived.SevenTiedAt
import Derived.LaidMore
import Derived.ProofKit
import Derived.OpenShut
import Derived.Stop.Joined
import Derived.Test.YtgcfkfkededmoaaGreatDoorEb
namespace Go.Proofs.YtgcfkfkededmoaaGreatDoor.lawGraphNames
open Go.ChangeShapes Go.WideShapes Go.ChangeAt Go.RowKit

theorem own : ownKnob Tryz.prog.godebug = none := by kernel_rfl
theorem drawn : Tryz.prog.follows .mixedOrders = true := by kernel_rfl

def isOv (g : Nat) : Bool := (bif Nat.beq g 47 then true else false)
def isFork (g : Nat) : Bool := (bif Nat.beq g 18 then true else false)
theorem ov47 : Go.Ev.OvFact Tryz.prog 47 := by
  obtain ⟨j, hj⟩ : ∃ j, Tryz.prog.info? 35 = some j := Option.isSome_iff_exists.1 (by kernel_rfl)
  exact ⟨Tryz.f47, 50, 4, 35, j, Tryz.func47, by kernel_rfl, by kernel_rfl, by kernel_rfl, by kernel_rfl, by kernel_rfl, hj⟩
theorem ovs (g : Nat) (h : isOv g = true) : Go.Ev.OvFact Tryz.prog g := by
  unfold isOv at h
  cases h47 : Nat.beq g 47 with
  | true => rw [Nat.eq_of_beq_eq_true h47]; exact ov47
  | false =>
    rw [h47] at h
    simp only [cond_false] at h
    cases h
noncomputable def G0 : Go.Ev.Cx := ⟨0, isOv, isFork, fun _ _ => none⟩
theorem ok0 : Go.Ev.CxOK Tryz.prog G0 := ⟨ovs, fun f args v h => by cases h⟩
noncomputable def G : Go.Ev.Cx := ⟨1, isOv, isFork, fun _ _ => none⟩
theorem ok : Go.Ev.CxOK Tryz.prog G := ⟨ovs, fun f args v h => by cases h⟩
def cells0 : List Go.Ev.AV := [.bool false, .bool false, .bool false, .bool false, .int .i64 0, .bool true, .bool false, .bool false, .bool false, .int .i64 1, .bool true, .bool true, .bool true, .bool false, .int .i64 0, .bool false, .bool true, .bool true, .bool false, .int .i64 1, .bool true, .bool true, .bool true, .bool false, .int .i64 2, .bool true, .bool true, .bool true, .bool false, .int .i64 1, .bool true, .bool true, .bool true, .bool false, .int .i64 1, .bool false, .bool false, .bool true, .bool false, .int .i64 0, .bool false, .bool false, .bool false, .bool false, .int .i64 1, .bool false, .bool false, .bool false, .bool false, .int .i64 1, .bool false, .bool false, .bool false, .bool true, .int .i64 0, .bool false, .bool false, .bool false, .bool true, .int .i64 1, .bool false, .bool false, .bool false, .bool false, .int .i64 0, .bool false, .bool false, .bool false, .bool false, .int .i64 0]
theorem says (e0 : TypeId) : Go.Ev.saysTrue (Go.Ev.evalF Tryz.prog G 1000 3 [] (Go.Ev.σG 1 [(0, cells0, e0)])) = true := by kernel_rfl

theorem cellsAre0 : (Go.Ev.flatD Tryz.prog 10 140 Rows.laid_cantilever_ir_shapes).bind (Go.Ev.allSome Go.Ev.ofLeaf) = some cells0 := by kernel_rfl
theorem walk {W : World} (hL : laidMetH Tryz.prog Rows.graphNamesRow.laid W) : Calls Tryz.prog 3 #[] W fun e w' => e = .returned (.bool true) ∧ Go.Ev.Keeps W w' := by
  obtain ⟨vs0, hf0, hv0⟩ := Option.bind_eq_some_iff.1 cellsAre0
  obtain ⟨e0, fr0, hb0⟩ := Go.Ev.laid_block (P := Tryz.prog) (m := 10) "cantilever/ir.shapes" hL (d := Rows.laid_cantilever_ir_shapes) (by rfl) (by rfl) (g := 0) (t := 140) (by kernel_rfl) (by kernel_rfl) hf0
  have hsz : 1 ≤ W.heap.size := by
    have := (Array.getElem?_eq_some_iff.1 hb0).1
    omega
  refine Go.Ev.calls_true (G := G) drawn ok hsz (fun x hx => ?_) (says e0)
  simp only [List.mem_cons, List.not_mem_nil, or_false] at hx
  subst hx
  exact ⟨(by decide : 0 < 1), vs0, fr0, hb0, hv0⟩

theorem door_met (os : Os) (args : Array Value) : laidMetH Tryz.prog Rows.graphNamesRow.laid ((World.doorLaid Tryz.prog 400 os).forCall (fun _ _ => 0) ⟨#[], args, []⟩).memory :=
  laidMetH_of_parts3 (fuel := 8) (laidMet_of_run' 8 (by kernel_rfl) (by kernel_rfl)) (by kernel_rfl) (by kernel_rfl)

set_option maxRecDepth 100000 in
theorem lifted (os : Os) (started : os.Started) (H : Type) (enc : TypeId × Value → H) :
    ReturnsInHanded {} Tryz.checked os 3 .any (fun w args => (Rows.graphNamesSpec.pre enc Tryz.prog Tryz.f3 [] false w args ∧ laidMetH Tryz.prog Rows.graphNamesRow.laid w) ∧ sizedMet enc Tryz.prog Tryz.f3 (OpenSpec.ofChange Rows.graphNamesSpec) false w args)
      (Rows.graphNamesSpec.post enc Tryz.prog Tryz.f3 false true false false) := by
  refine returnsInHanded_of_change_and (C := Tryz.checked) (X := fun w _ => laidMetH Tryz.prog Rows.graphNamesRow.laid w) (fun _ _ _ hh h => h.of_heap hh) own started (by kernel_rfl) Tryz.func3
    (ChangeSpec.witness_shaped (enc := enc) (C := Tryz.checked) (os := os) (X := fun w _ => laidMetH Tryz.prog Rows.graphNamesRow.laid w) false (World.doorLaid Tryz.prog 400 os) #[] 8 rfl (World.shaped_of_RefB (by kernel_rfl) (by kernel_rfl)) (by kernel_rfl) (by kernel_rfl) (by kernel_rfl) (door_met os _)) ?_
  intro W base args ds gs before hval0 hW _ _ hL _
  have hW' := hW
  obtain ⟨p, q, hA0, hV, rfl, hfz, hnd⟩ := hW
  have hA : DataW.TrodAll enc Tryz.prog W 0 (fun _ => true) true Tryz.f3.params.toList args.toList ds p := hA0
  rw [Tryz.params3] at hA
  obtain ⟨hargs, rfl, rfl⟩ := trodAll_nil hA
  obtain rfl : args = #[] := by rw [← Array.toList_inj]; exact hargs
  obtain ⟨rfl, rfl⟩ := trodVars_none hV
  clear hA0 hval0
  simp only [List.append_nil] at hW'
  refine (walk hL).mono fun e W' ⟨he, hg⟩ => ?_
  subst he
  exact ⟨_, rfl, Go.Ev.post_keeps (pa := []) (pv := []) hW' (fun _ _ _ => trodAll_mk1 (shut_bool Tryz.underlying4 _)) (fun sp _ => trodAll_mk0) (fun _ _ => rfl) rfl
    hg (ok_one (by kernel_rfl) rfl (okWide_bool_mk Tryz.underlying4 _))⟩

theorem said : Rows.GraphNamesSaid :=
  OpenClaim.holds_of_wide 3 Tryz.f3 rfl rfl rfl rfl rfl rfl rfl ⟨rfl, rfl, rfl, rfl, rfl⟩ rfl rfl rfl rfl rfl (by kernel_rfl) Tryz.func3 (by kernel_rfl)
    (of_decide_eq_true (by kernel_rfl)) (by unfold Func.isWrapper; first | (rw [if_pos (by decide +kernel)]; kernel_rfl) | (rw [if_neg (by decide +kernel)]; exact ⟨rfl, rfl⟩))
    (fun os started H enc _ => lifted os started H enc)
theorem plain (f : FuncId) (fn : Func) (hf : Tryz.pinned.checked.prog.funcNamed Rows.graphNamesRow.func = some f) (hfn : Tryz.pinned.checked.prog.funcs[f]? = some fn) :
    Rows.graphNamesCard.stood.looks = Tryz.pinned.checked.prog.looks [] ∧ ∀ (j : Nat) t, fn.params[j]? = some t → Tryz.pinned.checked.prog.wantsStandIn t = false := by
  obtain rfl : f = 3 := Option.some.inj ((show Tryz.prog.funcNamed Rows.graphNamesRow.func = some 3 by kernel_rfl).symm.trans hf) |>.symm
  obtain rfl : fn = Tryz.f3 := (Option.some.inj (Tryz.func3.symm.trans hfn)).symm
  refine ⟨by kernel_rfl, fun j t ht => ?_⟩
  rw [Tryz.params3] at ht
  simp at ht

theorem proved : Rows.GraphNamesCardSaid :=
  Claim7.holds_tied_plain_at .later [] _ _ _ _ said (fun _ h => by cases h) (by kernel_rfl) (fun _ h => by cases h) graphNames_row_tie rfl ⟨rfl, rfl⟩ (by kernel_rfl) rfl plain (by kernel_rfl)
end Go.Proofs.YtgcfkfkededmoaaGreatDoor.lawGraphNames
