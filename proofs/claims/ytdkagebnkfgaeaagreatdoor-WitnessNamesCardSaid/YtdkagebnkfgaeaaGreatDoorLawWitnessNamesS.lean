/- WitnessNames: a part of the proof that the call of the law returns true: the evaluator's answers, reckoned by the kernel. -/
import Derived.Test.YtdkagebnkfgaeaaGreatDoorLawWitnessNamesK26
namespace Go.Proofs.YtdkagebnkfgaeaaGreatDoor.lawWitnessNames
open Go.ChangeShapes Go.WideShapes Go.ChangeAt Go.RowKit

theorem says (E : Nat → TypeId) : Go.Ev.saysTrue (Go.Ev.evalF Tryz.prog G1 2000 5 [] (Go.Ev.σG 3 laidL E)) = true := by kernel_rfl
end Go.Proofs.YtdkagebnkfgaeaaGreatDoor.lawWitnessNames
