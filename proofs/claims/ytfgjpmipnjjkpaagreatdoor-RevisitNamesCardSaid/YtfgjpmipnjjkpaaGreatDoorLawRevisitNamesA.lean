/- RevisitNames: whatever the world, the call of the law returns true and what lay in memory lies as it lay. Without conditions beyond the statement's own. The evaluator's answer is reckoned by the kernel; the evaluator is the machine's (the texts Ea, Eb). -/
import Derived.Test.YtfgjpmipnjjkpaaGreatDoorRows
import Derived.Test.YtfgjpmipnjjkpaaGreatDoorCards
import Derived.Test.YtfgjpmipnjjkpaaGreatDoorTie
import Derived.SevenTiedAt
import Derived.LaidMore
import Derived.ProofKit
import Derived.OpenShut
import Derived.Stop.Joined
import Derived.Test.YtfgjpmipnjjkpaaGreatDoorEc
namespace Go.Proofs.YtfgjpmipnjjkpaaGreatDoor.lawRevisitNames
open Go.ChangeShapes Go.WideShapes Go.ChangeAt Go.RowKit

theorem own : ownKnob Tryz.prog.godebug = none := by kernel_rfl
theorem drawn : Tryz.prog.follows .mixedOrders = true := by kernel_rfl

def isOv (g : Nat) : Bool := (bif Nat.beq g 189 then true else (bif Nat.beq g 243 then true else false))
def isFork (g : Nat) : Bool := (bif Nat.beq g 135 then true else (bif Nat.beq g 181 then true else false))
theorem ov189 : Go.Ev.OvFact Tryz.prog 189 := by
  obtain ⟨j, hj⟩ : ∃ j, Tryz.prog.info? 40 = some j := Option.isSome_iff_exists.1 (by kernel_rfl)
  exact .inl ⟨by kernel_rfl, Tryz.f189, 27, 4, 40, j, Tryz.func189, by kernel_rfl, by kernel_rfl, by kernel_rfl, by kernel_rfl, by kernel_rfl, hj⟩
theorem ov243 : Go.Ev.OvFact Tryz.prog 243 := by
  obtain ⟨j, hj⟩ : ∃ j, Tryz.prog.info? 37 = some j := Option.isSome_iff_exists.1 (by kernel_rfl)
  exact .inl ⟨by kernel_rfl, Tryz.f243, 41, 4, 37, j, Tryz.func243, by kernel_rfl, by kernel_rfl, by kernel_rfl, by kernel_rfl, by kernel_rfl, hj⟩
theorem ovs (g : Nat) (h : isOv g = true) : Go.Ev.OvFact Tryz.prog g := by
  unfold isOv at h
  cases h189 : Nat.beq g 189 with
  | true => rw [Nat.eq_of_beq_eq_true h189]; exact ov189
  | false =>
    rw [h189] at h
    simp only [cond_false] at h
    cases h243 : Nat.beq g 243 with
    | true => rw [Nat.eq_of_beq_eq_true h243]; exact ov243
    | false =>
      rw [h243] at h
      simp only [cond_false] at h
      cases h
def cells0 : List Go.Ev.AV := [.bool false, .bool false, .bool false, .bool false, .int .i64 0, .bool true, .bool false, .bool false, .bool false, .int .i64 1, .bool true, .bool true, .bool true, .bool false, .int .i64 0, .bool false, .bool true, .bool true, .bool false, .int .i64 1, .bool true, .bool true, .bool true, .bool false, .int .i64 2, .bool true, .bool true, .bool true, .bool false, .int .i64 1, .bool true, .bool true, .bool true, .bool false, .int .i64 1, .bool false, .bool false, .bool true, .bool false, .int .i64 0, .bool false, .bool false, .bool false, .bool false, .int .i64 1, .bool false, .bool false, .bool false, .bool false, .int .i64 1, .bool false, .bool false, .bool false, .bool true, .int .i64 0, .bool false, .bool false, .bool false, .bool true, .int .i64 1, .bool false, .bool false, .bool false, .bool false, .int .i64 0, .bool false, .bool false, .bool false, .bool false, .int .i64 0]
def cells1 : List Go.Ev.AV := [.int .u8 0, .int .u8 1, .int .u8 56, .int .u8 2, .int .u8 57, .int .u8 49, .int .u8 28, .int .u8 3, .int .u8 61, .int .u8 58, .int .u8 42, .int .u8 50, .int .u8 38, .int .u8 29, .int .u8 17, .int .u8 4, .int .u8 62, .int .u8 47, .int .u8 59, .int .u8 36, .int .u8 45, .int .u8 43, .int .u8 51, .int .u8 22, .int .u8 53, .int .u8 39, .int .u8 33, .int .u8 30, .int .u8 24, .int .u8 18, .int .u8 12, .int .u8 5, .int .u8 63, .int .u8 55, .int .u8 48, .int .u8 27, .int .u8 60, .int .u8 41, .int .u8 37, .int .u8 16, .int .u8 46, .int .u8 35, .int .u8 44, .int .u8 21, .int .u8 52, .int .u8 32, .int .u8 23, .int .u8 11, .int .u8 54, .int .u8 26, .int .u8 40, .int .u8 15, .int .u8 34, .int .u8 20, .int .u8 31, .int .u8 10, .int .u8 25, .int .u8 14, .int .u8 19, .int .u8 9, .int .u8 13, .int .u8 8, .int .u8 7, .int .u8 6]
def laidL : List (Nat × List Go.Ev.AV) := [(0, cells0), (1, cells1)]
theorem wf : Go.Ev.wfLaid 2 laidL = true := by kernel_rfl
noncomputable def G0 : Go.Ev.Cx := ⟨2, isOv, isFork, fun _ _ => none, laidL, [], fun _ _ _ => none⟩
theorem ok0 : Go.Ev.CxOK Tryz.prog G0 := ⟨ovs, (fun f args v h => by cases h), (fun e h => by cases h)⟩
end Go.Proofs.YtfgjpmipnjjkpaaGreatDoor.lawRevisitNames
