/- ExtendNames: whatever the world, the call of the law returns true and what lay in memory lies as it lay. Without conditions beyond the statement's own. The evaluator's answer is reckoned by the kernel; the evaluator is the machine's (the texts Ea, Eb). -/
import Derived.Test.YtdkagebnkfgaeaaGreatDoorRows
import Derived.Test.YtdkagebnkfgaeaaGreatDoorCards
import Derived.Test.YtdkagebnkfgaeaaGreatDoorTie
import Derived.SevenTiedAt
import Derived.LaidMore
import Derived.ProofKit
import Derived.OpenShut
import Derived.Stop.Joined
import Derived.Test.YtdkagebnkfgaeaaGreatDoorEb
namespace Go.Proofs.YtdkagebnkfgaeaaGreatDoor.lawExtendNames
open Go.ChangeShapes Go.WideShapes Go.ChangeAt Go.RowKit

theorem own : ownKnob Tryz.prog.godebug = none := by kernel_rfl
theorem drawn : Tryz.prog.follows .mixedOrders = true := by kernel_rfl

def isOv (g : Nat) : Bool := (bif Nat.beq g 159 then true else false)
def isFork (g : Nat) : Bool := (bif Nat.beq g 101 then true else false)
theorem ov159 : Go.Ev.OvFact Tryz.prog 159 := by
  obtain ⟨j, hj⟩ : ∃ j, Tryz.prog.info? 58 = some j := Option.isSome_iff_exists.1 (by kernel_rfl)
  exact ⟨Tryz.f159, 88, 4, 58, j, Tryz.func159, by kernel_rfl, by kernel_rfl, by kernel_rfl, by kernel_rfl, by kernel_rfl, hj⟩
theorem ovs (g : Nat) (h : isOv g = true) : Go.Ev.OvFact Tryz.prog g := by
  unfold isOv at h
  cases h159 : Nat.beq g 159 with
  | true => rw [Nat.eq_of_beq_eq_true h159]; exact ov159
  | false =>
    rw [h159] at h
    simp only [cond_false] at h
    cases h
noncomputable def G0 : Go.Ev.Cx := ⟨0, isOv, isFork, fun _ _ => none⟩
theorem ok0 : Go.Ev.CxOK Tryz.prog G0 := ⟨ovs, fun f args v h => by cases h⟩
noncomputable def G : Go.Ev.Cx := ⟨3, isOv, isFork, fun _ _ => none⟩
theorem ok : Go.Ev.CxOK Tryz.prog G := ⟨ovs, fun f args v h => by cases h⟩
def cells0 : List Go.Ev.AV := [.bool false, .bool false, .bool false, .bool false, .int .i64 0, .bool true, .bool false, .bool false, .bool false, .int .i64 1, .bool true, .bool true, .bool true, .bool false, .int .i64 0, .bool false, .bool true, .bool true, .bool false, .int .i64 1, .bool true, .bool true, .bool true, .bool false, .int .i64 2, .bool true, .bool true, .bool true, .bool false, .int .i64 1, .bool true, .bool true, .bool true, .bool false, .int .i64 1, .bool false, .bool false, .bool true, .bool false, .int .i64 0, .bool false, .bool false, .bool false, .bool false, .int .i64 1, .bool false, .bool false, .bool false, .bool false, .int .i64 1, .bool false, .bool false, .bool false, .bool true, .int .i64 0, .bool false, .bool false, .bool false, .bool true, .int .i64 1, .bool false, .bool false, .bool false, .bool false, .int .i64 0, .bool false, .bool false, .bool false, .bool false, .int .i64 0]
def cells2 : List Go.Ev.AV := [.int .u8 0, .int .u8 1, .int .u8 56, .int .u8 2, .int .u8 57, .int .u8 49, .int .u8 28, .int .u8 3, .int .u8 61, .int .u8 58, .int .u8 42, .int .u8 50, .int .u8 38, .int .u8 29, .int .u8 17, .int .u8 4, .int .u8 62, .int .u8 47, .int .u8 59, .int .u8 36, .int .u8 45, .int .u8 43, .int .u8 51, .int .u8 22, .int .u8 53, .int .u8 39, .int .u8 33, .int .u8 30, .int .u8 24, .int .u8 18, .int .u8 12, .int .u8 5, .int .u8 63, .int .u8 55, .int .u8 48, .int .u8 27, .int .u8 60, .int .u8 41, .int .u8 37, .int .u8 16, .int .u8 46, .int .u8 35, .int .u8 44, .int .u8 21, .int .u8 52, .int .u8 32, .int .u8 23, .int .u8 11, .int .u8 54, .int .u8 26, .int .u8 40, .int .u8 15, .int .u8 34, .int .u8 20, .int .u8 31, .int .u8 10, .int .u8 25, .int .u8 14, .int .u8 19, .int .u8 9, .int .u8 13, .int .u8 8, .int .u8 7, .int .u8 6]
theorem says (e0 e2 : TypeId) : Go.Ev.saysTrue (Go.Ev.evalF Tryz.prog G 2000 3 [] (Go.Ev.σG 3 [(0, cells0, e0), (2, cells2, e2)])) = true := by kernel_rfl

theorem cellsAre0 : (Go.Ev.flatD Tryz.prog 10 346 Rows.laid_cantilever_ir_shapes).bind (Go.Ev.allSome Go.Ev.ofLeaf) = some cells0 := by kernel_rfl
theorem cellsAre2 : (Go.Ev.flatD Tryz.prog 10 361 Rows.laid_math_bits_deBruijn64tab).bind (Go.Ev.allSome Go.Ev.ofLeaf) = some cells2 := by kernel_rfl
theorem walk {W : World} (hL : laidMetH Tryz.prog Rows.extendNamesRow.laid W) : Calls Tryz.prog 3 #[] W fun e w' => e = .returned (.bool true) ∧ Go.Ev.Keeps W w' := by
  obtain ⟨vs0, hf0, hv0⟩ := Option.bind_eq_some_iff.1 cellsAre0
  obtain ⟨e0, fr0, hb0⟩ := Go.Ev.laid_block (P := Tryz.prog) (m := 10) "cantilever/ir.shapes" hL (d := Rows.laid_cantilever_ir_shapes) (by rfl) (by rfl) (g := 0) (t := 346) (by kernel_rfl) (by kernel_rfl) hf0
  obtain ⟨vs2, hf2, hv2⟩ := Option.bind_eq_some_iff.1 cellsAre2
  obtain ⟨e2, fr2, hb2⟩ := Go.Ev.laid_block (P := Tryz.prog) (m := 10) "math/bits.deBruijn64tab" hL (d := Rows.laid_math_bits_deBruijn64tab) (by rfl) (by rfl) (g := 2) (t := 361) (by kernel_rfl) (by kernel_rfl) hf2
  have hsz : 3 ≤ W.heap.size := by
    have := (Array.getElem?_eq_some_iff.1 hb2).1
    omega
  refine Go.Ev.calls_true (G := G) drawn ok hsz (fun x hx => ?_) (says e0 e2)
  simp only [List.mem_cons, List.not_mem_nil, or_false] at hx
  rcases hx with rfl | rfl
  · exact ⟨(by decide : 0 < 3), vs0, fr0, hb0, hv0⟩
  · exact ⟨(by decide : 2 < 3), vs2, fr2, hb2, hv2⟩

theorem door_met (os : Os) (args : Array Value) : laidMetH Tryz.prog Rows.extendNamesRow.laid ((World.doorLaid Tryz.prog 400 os).forCall (fun _ _ => 0) ⟨#[], args, []⟩).memory :=
  laidMetH_of_parts3 (fuel := 8) (laidMet_of_run' 8 (by kernel_rfl) (by kernel_rfl)) (by kernel_rfl) (by kernel_rfl)

set_option maxRecDepth 100000 in
theorem lifted (os : Os) (started : os.Started) (H : Type) (enc : TypeId × Value → H) :
    ReturnsInHanded {} Tryz.checked os 3 .any (fun w args => (Rows.extendNamesSpec.pre enc Tryz.prog Tryz.f3 [] false w args ∧ laidMetH Tryz.prog Rows.extendNamesRow.laid w) ∧ sizedMet enc Tryz.prog Tryz.f3 (OpenSpec.ofChange Rows.extendNamesSpec) false w args)
      (Rows.extendNamesSpec.post enc Tryz.prog Tryz.f3 false true false false) := by
  refine returnsInHanded_of_change_and (C := Tryz.checked) (X := fun w _ => laidMetH Tryz.prog Rows.extendNamesRow.laid w) (fun _ _ _ hh h => h.of_heap hh) own started (by kernel_rfl) Tryz.func3
    (ChangeSpec.witness_shaped (enc := enc) (C := Tryz.checked) (os := os) (X := fun w _ => laidMetH Tryz.prog Rows.extendNamesRow.laid w) false (World.doorLaid Tryz.prog 400 os) #[] 8 rfl (World.shaped_of_RefB (by kernel_rfl) (by kernel_rfl)) (by kernel_rfl) (by kernel_rfl) (by kernel_rfl) (door_met os _)) ?_
  intro W base args ds gs before hval0 hW _ _ hL _
  have hW' := hW
  obtain ⟨p, q, hA0, hV, rfl, hfz, hnd⟩ := hW
  have hA : DataW.TrodAll enc Tryz.prog W 0 (fun _ => true) true Tryz.f3.params.toList args.toList ds p := hA0
  rw [Tryz.params3] at hA
  obtain ⟨hargs, rfl, rfl⟩ := trodAll_nil hA
  obtain rfl : args = #[] := by rw [← Array.toList_inj]; exact hargs
  obtain ⟨rfl, rfl⟩ := trodVars_none hV
  clear hA0 hval0
  simp only [List.append_nil] at hW'
  refine (walk hL).mono fun e W' ⟨he, hg⟩ => ?_
  subst he
  exact ⟨_, rfl, Go.Ev.post_keeps (pa := []) (pv := []) hW' (fun _ _ _ => trodAll_mk1 (shut_bool Tryz.underlying4 _)) (fun sp _ => trodAll_mk0) (fun _ _ => rfl) rfl
    hg (ok_one (by kernel_rfl) rfl (okWide_bool_mk Tryz.underlying4 _))⟩

theorem said : Rows.ExtendNamesSaid :=
  OpenClaim.holds_of_wide 3 Tryz.f3 rfl rfl rfl rfl rfl rfl rfl ⟨rfl, rfl, rfl, rfl, rfl⟩ rfl rfl rfl rfl rfl (by kernel_rfl) Tryz.func3 (by kernel_rfl)
    (of_decide_eq_true (by kernel_rfl)) (by unfold Func.isWrapper; first | (rw [if_pos (by decide +kernel)]; kernel_rfl) | (rw [if_neg (by decide +kernel)]; exact ⟨rfl, rfl⟩))
    (fun os started H enc _ => lifted os started H enc)
theorem plain (f : FuncId) (fn : Func) (hf : Tryz.pinned.checked.prog.funcNamed Rows.extendNamesRow.func = some f) (hfn : Tryz.pinned.checked.prog.funcs[f]? = some fn) :
    Rows.extendNamesCard.stood.looks = Tryz.pinned.checked.prog.looks [] ∧ ∀ (j : Nat) t, fn.params[j]? = some t → Tryz.pinned.checked.prog.wantsStandIn t = false := by
  obtain rfl : f = 3 := Option.some.inj ((show Tryz.prog.funcNamed Rows.extendNamesRow.func = some 3 by kernel_rfl).symm.trans hf) |>.symm
  obtain rfl : fn = Tryz.f3 := (Option.some.inj (Tryz.func3.symm.trans hfn)).symm
  refine ⟨by kernel_rfl, fun j t ht => ?_⟩
  rw [Tryz.params3] at ht
  simp at ht

theorem proved : Rows.ExtendNamesCardSaid :=
  Claim7.holds_tied_plain_at .later [] _ _ _ _ said (fun _ h => by cases h) (by kernel_rfl) (fun _ h => by cases h) extendNames_row_tie rfl ⟨rfl, rfl⟩ (by kernel_rfl) rfl plain (by kernel_rfl)
end Go.Proofs.YtdkagebnkfgaeaaGreatDoor.lawExtendNames
