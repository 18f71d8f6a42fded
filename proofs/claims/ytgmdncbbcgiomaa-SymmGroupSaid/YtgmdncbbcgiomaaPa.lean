/- Walks and runs: what functions of the program come to, on the evaluator. Without conditions. -/
import Derived.Test.YtgmdncbbcgiomaaEd
import Derived.Test.YtgmdncbbcgiomaaProg
import Derived.KernelRfl
set_option linter.unusedSectionVars false
set_option linter.unusedVariables false
set_option linter.unusedSimpArgs false
namespace Go.Ev
variable [Env]
open Go.Proofs
set_option maxRecDepth 4000
/-- Is it the first cell of the j-th of so many codes? -/
noncomputable def tokAt (i i' : Nat) : Bool := bif Nat.beq i (Nat.mul 2 (Nat.div i 2)) then Nat.beq i' (Nat.succ i) else false
noncomputable def patB (cls : List Nat) (i j : Nat) : Option AV :=
  match nth cls (Nat.div i 2), nth cls (Nat.div j 2) with
  | some a, some b => some (.bool (Nat.beq a b))
  | _, _ => none
noncomputable def ktP (k : Nat) (dk : Bool) (cls : List Nat) (f : Nat) (args : List AV) (_ : AHeap) : Option AV :=
  bif Nat.beq f 34 then (match args with
    | [.agg [.tok i, .tok i'], .int .i64 60] => bif tokAt i i' then (bif Nat.ble (Nat.succ (Nat.div i 2)) k then some (.bool true) else bif dk then (bif Nat.beq (Nat.div i 2) k then some (.bool false) else none) else none) else none
    | _ => none) else
  bif (bif Nat.beq f 38 then true else Nat.beq f 13) then
    match args with
    | [.agg [.tok i, .tok i'], .agg [.tok j, .tok j']] => bif (bif tokAt i i' then tokAt j j' else false) then patB cls i j else none
    | _ => none
  else none
noncomputable def GP (k : Nat) (dk : Bool) (cls : List Nat) : Cx := ⟨0, fun _ => false, fun _ => false, fun _ _ => none, [], [], fun _ _ _ => none, ktP k dk cls⟩
def toks : Nat → List AV → List AV
  | 0, r => r
  | n + 1, r => toks n (.tok (2 * n) :: .tok (2 * n + 1) :: r)
noncomputable def σT (cells : List AV) (e : Nat) : AHeap := ⟨1, PT.leaf.put (some (.row cells e true)) 0⟩

def patsL : List (List Nat) := [[0], [0, 0], [0, 1], [0, 0, 0], [0, 0, 2], [0, 1, 0], [0, 1, 1], [0, 1, 2], [0, 0, 0, 0], [0, 0, 0, 3], [0, 0, 2, 0], [0, 0, 2, 2], [0, 0, 2, 3], [0, 1, 0, 0], [0, 1, 0, 1], [0, 1, 0, 3], [0, 1, 1, 0], [0, 1, 1, 1], [0, 1, 1, 3], [0, 1, 2, 0], [0, 1, 2, 1], [0, 1, 2, 2], [0, 1, 2, 3]]
theorem pats_of (cls : List Nat) (hn : 1 ≤ cls.length ∧ cls.length ≤ 4) (h1 : ∀ i a : Nat, cls[i]? = some a → a ≤ i ∧ cls[a]? = some a) : cls ∈ patsL := by
  match cls, hn with
  | [a], _ =>
    have := h1 0 a rfl
    obtain rfl : a = 0 := by omega
    simp [patsL]
  | [a, b], _ =>
    obtain rfl : a = 0 := by have := h1 0 a rfl; omega
    have hb := h1 1 b rfl
    obtain rfl | rfl : b = 0 ∨ b = 1 := by omega
    all_goals simp [patsL]
  | [a, b, c], _ =>
    obtain rfl : a = 0 := by have := h1 0 a rfl; omega
    have hb := h1 1 b rfl
    have hc := h1 2 c rfl
    obtain rfl | rfl : b = 0 ∨ b = 1 := by omega
    all_goals (obtain rfl | rfl | rfl : c = 0 ∨ c = 1 ∨ c = 2 := by omega)
    all_goals first | (simp [patsL]; done) | (simp at hc; done)
  | [a, b, c, d], _ =>
    obtain rfl : a = 0 := by have := h1 0 a rfl; omega
    have hb := h1 1 b rfl
    have hc := h1 2 c rfl
    have hd := h1 3 d rfl
    obtain rfl | rfl : b = 0 ∨ b = 1 := by omega
    all_goals (obtain rfl | rfl | rfl : c = 0 ∨ c = 1 ∨ c = 2 := by omega)
    all_goals (obtain rfl | rfl | rfl | rfl : d = 0 ∨ d = 1 ∨ d = 2 ∨ d = 3 := by omega)
    all_goals first | (simp [patsL]; done) | (simp at hc; done) | (simp at hd; done)
  | [], h => exact absurd h.1 (by simp)
  | _ :: _ :: _ :: _ :: _ :: _, h => exact absurd h.2 (by simp)
end Go.Ev

