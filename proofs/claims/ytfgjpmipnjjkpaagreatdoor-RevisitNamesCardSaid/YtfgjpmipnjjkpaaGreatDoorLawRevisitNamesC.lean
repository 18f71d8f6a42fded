/- RevisitNames: a part of the proof that the call of the law returns true: the evaluator's answers, reckoned by the kernel. -/
import Derived.Test.YtfgjpmipnjjkpaaGreatDoorLawRevisitNamesL
namespace Go.Proofs.YtfgjpmipnjjkpaaGreatDoor.lawRevisitNames
open Go.ChangeShapes Go.WideShapes Go.ChangeAt Go.RowKit

theorem and_true_of {a b : Bool} (ha : a = true) (hb : b = true) : (a && b) = true := by rw [ha, hb]; rfl
set_option maxHeartbeats 8000000 in
theorem closed : joinedFacts Tryz.pinned.checked.prog 3 Tryz.f3 Rows.revisitNamesSpec Rows.revisitNamesRow = true := by
  unfold joinedFacts
  repeat' (with_reducible refine and_true_of ?_ ?_)
  all_goals (as_aux_lemma => kernel_rfl)


end Go.Proofs.YtfgjpmipnjjkpaaGreatDoor.lawRevisitNames
