/- Walks and runs: what functions of the program come to, on the evaluator. Without conditions. -/
import Derived.Test.YtgmdncbbcgiomaaPb
import Derived.Test.YtgmdncbbcgiomaaPc
import Derived.Test.YtgmdncbbcgiomaaEd
import Derived.Test.YtgmdncbbcgiomaaRows
import Derived.ProofKit
import Derived.OpenShut
import Derived.Stop.Joined
set_option linter.unusedSectionVars false
set_option linter.unusedVariables false
set_option linter.unusedSimpArgs false
namespace Go.Proofs.Ytgmdncbbcgiomaa.lawSymmGroup
open Go.ChangeShapes Go.WideShapes Go.ChangeAt Go.RowKit
set_option maxHeartbeats 8000000
theorem own : ownKnob Try.prog.godebug = none := by kernel_rfl
theorem runsGroup [Go.Ev.Env] : Go.Ev.Q.Runs 3 where
  pat cls h c e := Go.Ev.runs cls h c e
  dark k hk m c e := by
    obtain rfl | rfl | rfl | rfl | rfl | rfl : k = 0 ∨ k = 1 ∨ k = 2 ∨ k = 3 ∨ k = 4 ∨ k = 5 := by omega
    · exact Go.Ev.runDark0 m c e
    · exact Go.Ev.runDark1 m c e
    · exact Go.Ev.runDark2 m c e
    · exact Go.Ev.runDark3 m c e
    · exact Go.Ev.runDark4 m c e
    · exact Go.Ev.runDark5 m c e
  five := Go.Ev.runFive
  six := Go.Ev.runSix
  long := Go.Ev.runLong
  zero := Go.Ev.runZero
  nil := Go.Ev.runNil

set_option maxRecDepth 100000 in
theorem lifted (os : Os) (started : os.Started) (H : Type) (enc : TypeId × Value → H) :
    ReturnsInHanded {} Try.checked os 3 .any (Rows.symmGroupSpec.pre6 enc Try.prog Try.f3 Rows.symmGroupRow.domain false) (Rows.symmGroupSpec.post enc Try.prog Try.f3 false true false false) := by
  refine returnsInHanded_of_change (C := Try.checked) own started (by kernel_rfl) Try.func3
    (ChangeSpec.witness6 (enc := enc) (C := Try.checked) false ⟨#[], #[.slice none 0 0], []⟩ 8 (by kernel_rfl) (by kernel_rfl) (by kernel_rfl) (by kernel_rfl)) ?_
  intro W base args ds gs before hval0 hW hcnd _
  have hval : ∀ (j : Nat) t v, Try.f3.params[j]? = some t → args[j]? = some v → Value.okWide Try.prog W .any base t v := hval0
  have hW' := hW
  obtain ⟨p, q, hA0, hV, rfl, hfz, hnd⟩ := hW
  have hA : DataW.TrodAll enc Try.prog W 0 (fun _ => true) true Try.f3.params.toList args.toList ds p := hA0
  have hA1 := hA
  rw [Try.params3] at hA hval
  obtain ⟨v, d, rfl, rfl, h0⟩ := trodAll_one hA
  obtain ⟨rfl, rfl⟩ := trodVars_none hV
  have hok := hval 0 22 v rfl rfl
  have hone : v.cells.toList = [v] := by
    rcases Go.Ev.Q.codes_value hok with rfl | ⟨a, len, cap, c, e, fr, rfl, _⟩ <;> rfl
  obtain ⟨F, hf⟩ := h0
  rw [hone] at hf
  have hf' := DataW.trod_le (m := F + 5) (Nat.le_add_right _ _) hf
  clear hA0 hval0
  simp only [List.append_nil] at hW'
  refine (Go.Ev.Q.law_of_runs (f := 3) (fun {_} => runsGroup) hf' hok).mono fun e W' ⟨he, hk⟩ => ?_
  subst he
  letI : Go.Ev.Env := ⟨fun _ => .bool false, 0, #[]⟩
  exact ⟨_, rfl, Go.Ev.post_keeps (pa := p) (pv := []) hW' (fun _ _ _ => trodAll_mk1 (shut_bool Try.underlying4 _)) (fun sp hsp => Go.Ev.reads_again (by kernel_rfl) (by kernel_rfl) (by kernel_rfl) hk (by kernel_rfl) hA1 hsp) (fun _ _ => rfl) (List.append_nil p).symm
    hk (ok_one (by kernel_rfl) rfl (okWide_bool_mk Try.underlying4 _))⟩

theorem and_true_of {a b : Bool} (ha : a = true) (hb : b = true) : (a && b) = true := by rw [ha, hb]; rfl
theorem closed : joinedFacts Try.pinned.checked.prog 3 Try.f3 Rows.symmGroupSpec Rows.symmGroupRow = true := by
  unfold joinedFacts
  repeat' (with_reducible refine and_true_of ?_ ?_)
  all_goals (as_aux_lemma => kernel_rfl)

theorem proved : Rows.SymmGroupSaid :=
  OpenClaim.holds_of_wide 3 Try.f3 rfl rfl rfl rfl rfl rfl rfl ⟨rfl, rfl, rfl, rfl, rfl⟩ rfl rfl rfl rfl rfl (by kernel_rfl) Try.func3 closed
    (of_decide_eq_true (by kernel_rfl)) (by unfold Func.isWrapper; first | (rw [if_pos (by decide +kernel)]; kernel_rfl) | (rw [if_neg (by decide +kernel)]; exact ⟨rfl, rfl⟩))
    (fun os started H enc _ => lifted os started H enc)
end Go.Proofs.Ytgmdncbbcgiomaa.lawSymmGroup

