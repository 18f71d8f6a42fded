/- Part of the proof: an evaluator of the model's code, rules for walks on it, walks. Without conditions. -/
import Derived.Test.YtgppgbbkngfanaaGreatDoorEf
import Derived.Test.YtgppgbbkngfanaaGreatDoorEg
import Derived.Test.YtgppgbbkngfanaaGreatDoorEh
import Derived.Test.YtgppgbbkngfanaaGreatDoorEi
import Derived.Test.YtgppgbbkngfanaaGreatDoorEj
import Derived.Test.YtgppgbbkngfanaaGreatDoorEk
import Derived.Test.YtgppgbbkngfanaaGreatDoorEl
import Derived.Test.YtgppgbbkngfanaaGreatDoorEm
import Derived.Test.YtgppgbbkngfanaaGreatDoorEn
import Derived.Test.YtgppgbbkngfanaaGreatDoorEo
import Derived.Test.YtgppgbbkngfanaaGreatDoorEp
import Derived.Test.YtgppgbbkngfanaaGreatDoorEq
set_option linter.unusedSectionVars false
set_option linter.unusedVariables false
set_option linter.unusedSimpArgs false
noncomputable section
namespace Go.Ev
variable [Env]
open Go.Proofs
set_option maxRecDepth 100000
set_option maxHeartbeats 8000000
def GK : Cx := ⟨6, isOvM, isInsM, fun _ _ => none, laidL, [], fun _ _ _ => none, ktbM 6 laidL [m0, m1, m2, m3, m4, m5, m6, m7, m8, m9, m10, m11]⟩
theorem ans_all : ∀ e ∈ [m0, m1, m2, m3, m4, m5, m6, m7, m8, m9, m10, m11], Ans Tryz.prog 6 laidL e := fun e h => by
  simp only [List.mem_cons, List.not_mem_nil, or_false] at h
  rcases h with rfl | rfl | rfl | rfl | rfl | rfl | rfl | rfl | rfl | rfl | rfl | rfl
  · exact ans_m0
  · exact ans_m1
  · exact ans_m2
  · exact ans_m3
  · exact ans_m4
  · exact ans_m5
  · exact ans_m6
  · exact ans_m7
  · exact ans_m8
  · exact ans_m9
  · exact ans_m10
  · exact ans_m11
theorem okGK : CxOK Tryz.prog GK := ⟨ovsM, (fun f args v h => by cases h), (fun e h => by cases h), fun f a s v s' h ρ w xs hi hg hx => ktbM_ok (G := GK) rfl rfl ans_all f a s v s' h ρ w xs hi hg hx⟩
theorem said4 (E : Nat → TypeId) : saysTrue (evalF Tryz.prog GK 2000 4 [] (σG 6 laidL E)) = true := by kernel_rfl
theorem known4 : Known Tryz.prog 6 laidL 4 [] (.bool true) := known_true (G := GK) drawnM okGK wfL said4
end Go.Ev
end
