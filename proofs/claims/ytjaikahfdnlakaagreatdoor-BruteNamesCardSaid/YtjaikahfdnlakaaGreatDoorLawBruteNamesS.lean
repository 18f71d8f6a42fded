/- BruteNames: a part of the proof that the call of the law returns true: the evaluator's answers, reckoned by the kernel. -/
import Derived.Test.YtjaikahfdnlakaaGreatDoorLawBruteNamesK7
namespace Go.Proofs.YtjaikahfdnlakaaGreatDoor.lawBruteNames
open Go.ChangeShapes Go.WideShapes Go.ChangeAt Go.RowKit

theorem says (E : Nat → TypeId) : Go.Ev.saysTrue (Go.Ev.evalF Tryz.prog G1 2000 3 [] (Go.Ev.σG 7 laidL E)) = true := by kernel_rfl
end Go.Proofs.YtjaikahfdnlakaaGreatDoor.lawBruteNames
