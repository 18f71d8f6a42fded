/- SymmNamesSaid: whatever the world, the call of the law returns true and what lay in memory lies as it lay. Without conditions. The evaluator's answer is reckoned by the kernel; the evaluator is the machine's (the texts Ea, Eb). -/
import Derived.Test.YtgldkagjnalpfaaRows
import Derived.ProofKit
import Derived.Test.YtgldkagjnalpfaaEb
namespace Go.Proofs.Ytgldkagjnalpfaa.lawSymmNames
open Go.ChangeShapes Go.WideShapes Go.ChangeAt Go.RowKit

theorem own : ownKnob Try.prog.godebug = none := by kernel_rfl

def saysTrue : Go.Ev.KR → Bool
  | .ret (.bool true) _ => true
  | _ => false
theorem saysTrue_ret {r : Go.Ev.KR} (h : saysTrue r = true) : ∃ σ, r = .ret (.bool true) σ := by
  unfold saysTrue at h
  split at h
  · exact ⟨_, rfl⟩
  · cases h

theorem says : saysTrue (Go.Ev.evalCall Try.prog 0 1000 7 [] Go.Ev.σ0) = true := by kernel_rfl

theorem walk (w : World) : Calls Try.prog 7 #[] w fun e w' => e = .returned (.bool true) ∧ Go.Ev.Keeps w w' := by
  obtain ⟨σ, h⟩ := saysTrue_ret says
  refine Go.Ev.evalCall_sound (by kernel_rfl) h (Go.Ev.inv0 w) (fun g hg => by cases hg) Go.Ev.VRs.nil fun ρ' w' x _ st hv => ?_
  simp only [Go.Ev.VR] at hv
  exact ⟨by rw [hv], Go.Ev.Keeps.of_stp st⟩

set_option maxRecDepth 100000 in
theorem lifted (os : Os) (started : os.Started) (H : Type) (enc : TypeId × Value → H) :
    ReturnsInHanded {} Try.checked os 7 .any (Rows.symmNamesSpec.pre6 enc Try.prog Try.f7 Rows.symmNamesRow.domain false) (Rows.symmNamesSpec.post enc Try.prog Try.f7 false true false false) := by
  refine returnsInHanded_of_change (C := Try.checked) own started (by kernel_rfl) Try.func7
    (ChangeSpec.witness6 (enc := enc) (C := Try.checked) false ⟨#[], #[], []⟩ 8 (by kernel_rfl) (by kernel_rfl) (by kernel_rfl) (by kernel_rfl)) ?_
  intro W base args ds gs before hval0 hW hcnd _
  have hW' := hW
  obtain ⟨p, q, hA0, hV, rfl, hfz, hnd⟩ := hW
  have hA : DataW.TrodAll enc Try.prog W 0 (fun _ => true) true Try.f7.params.toList args.toList ds p := hA0
  rw [Try.params7] at hA
  obtain ⟨hargs, rfl, rfl⟩ := trodAll_nil hA
  obtain rfl : args = #[] := by rw [← Array.toList_inj]; exact hargs
  obtain ⟨rfl, rfl⟩ := trodVars_none hV
  clear hA0 hval0
  simp only [List.append_nil] at hW'
  refine (walk W).mono fun e W' ⟨he, hg⟩ => ?_
  subst he
  exact ⟨_, rfl, Go.Ev.post_keeps (pa := []) (pv := []) hW' (fun _ _ _ => trodAll_mk1 (shut_bool Try.underlying4 _)) (fun sp _ => trodAll_mk0) (fun _ _ => rfl) rfl
    hg (ok_one (by kernel_rfl) rfl (okWide_bool_mk Try.underlying4 _))⟩

theorem proved : Rows.SymmNamesSaid :=
  OpenClaim.holds_of_wide 7 Try.f7 rfl rfl rfl rfl rfl rfl rfl ⟨rfl, rfl, rfl, rfl, rfl⟩ rfl rfl rfl rfl rfl (by kernel_rfl) Try.func7 (by kernel_rfl)
    (of_decide_eq_true (by kernel_rfl)) (by unfold Func.isWrapper; first | (rw [if_pos (by decide +kernel)]; kernel_rfl) | (rw [if_neg (by decide +kernel)]; exact ⟨rfl, rfl⟩))
    (fun os started H enc _ => lifted os started H enc)
end Go.Proofs.Ytgldkagjnalpfaa.lawSymmNames
