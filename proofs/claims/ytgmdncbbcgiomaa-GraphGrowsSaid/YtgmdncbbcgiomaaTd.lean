/- Walks and runs: what functions of the program come to, on the evaluator. Without conditions. -/
import Derived.Test.YtgmdncbbcgiomaaTc
import Derived.Test.YtgmdncbbcgiomaaEe
import Derived.Test.YtgmdncbbcgiomaaEc
set_option linter.unusedSectionVars false
set_option linter.unusedVariables false
set_option linter.unusedSimpArgs false
namespace Go.Ev
variable [Env]
open Go.Proofs
set_option maxRecDepth 4000
set_option maxHeartbeats 8000000

theorem w_InsK {G : Cx} {K : KP} {l : List XId} {x : XId} {i n b vb e : Nat} (hn : l.length = n) (hi : i < n) (hle : n ≤ 1000000) {σ : AHeap} {L : Own} (hst : St σ K ((b, .row (cellsI l) e false) :: (vb, .row (ints x.ints) 47 false) :: L)) :
  EvIn Try.prog G 49 [.slice b 0 n (.known n), .int .i64 (.ofNat i), .slice vb 0 1 (.known 1)] σ fun v σ' => ∃ b1, v = .slice b1 0 (n + 1) (.upto 2) ∧ St σ' K ((b1, .row (cellsI (l.take i ++ x :: l.drop i)) 47 false) :: (b, .row (cellsI l) e false) :: (vb, .row (ints x.ints) 47 false) :: L) := by
 refine ev_in (f := 49) Try.func49 rfl (t := ((PT.leaf.put (some (.slice b 0 n (.known n))) 0).put (some (.int .i64 (.ofNat i))) 1).put (some (.slice vb 0 1 (.known 1))) 2) (by rfl) ?_
 refine eS ?_
 refine eR rfl ?_
 refine eV rfl (xA rfl) rfl ?_
 refine eN ?_
 refine tN ?_
 refine eS ?_
 refine eR rfl ?_
 refine eV rfl (xM rfl) rfl ?_
 refine eV rfl (xM rfl) rfl ?_
 refine eV rfl (x_sliceK (e := 47) (sz := 2) (by kernel_rfl) (by kernel_rfl) rfl (bnd_lo rfl (Nat.le_of_lt hi)) hi) rfl ?_
 refine eN ?_
 refine tN ?_
 refine eS ?_
 refine eR rfl ?_
 refine eV rfl (xM rfl) rfl ?_
 refine eV rfl (x_len rfl rfl rfl (e := 47) (by kernel_rfl) rfl) rfl ?_
 refine eV rfl (xA rfl) rfl ?_
 refine eN ?_
 refine tN ?_
 refine eS ?_
 refine eS ?_
 refine eR rfl ?_
 refine eV rfl (xM rfl) rfl ?_
 refine eV rfl (xB (v := .bool false) rfl rfl rfl) rfl ?_
 refine eN ?_
 refine tN ?_
 refine eF rfl ?_
 refine eI ?_
 refine tN ?_
 refine eS ?_
 refine eR rfl ?_
 refine eV rfl (xM rfl) rfl ?_
 refine eV rfl (x_len rfl rfl rfl (e := 47) (by kernel_rfl) rfl) rfl ?_
 refine eV rfl (xA rfl) rfl ?_
 refine eN ?_
 refine tN ?_
 refine eS ?_
 refine eS ?_
 refine eR rfl ?_
 refine eV rfl (xM rfl) rfl ?_
 refine eV rfl (xM rfl) rfl ?_
 refine eV rfl (xB (v := .bool false) rfl rfl (by show some (AV.bool (eqI (.ofNat i) (.ofNat n))) = _; rw [eqI_nat]; simp; omega)) rfl ?_
 refine eN ?_
 refine tN ?_
 refine eF rfl ?_
 refine eI ?_
 refine tN ?_
 refine eS ?_
 refine eS ?_
 refine eR rfl ?_
 refine eV rfl (xM rfl) rfl ?_
 refine eV rfl (xM rfl) rfl ?_
 refine eV rfl (xB rfl rfl rfl) rfl ?_
 refine eV rfl (xM rfl) rfl ?_
 refine eV rfl (x_cap rfl rfl rfl (e := 47) (by kernel_rfl) rfl rfl) rfl ?_
 refine eV rfl (xB (v := .bool true) rfl rfl (by show some (AV.bool (ltI (.ofNat n) (wr .i64 (Int.add (.ofNat n) (.ofNat 1))))) = _; rw [wr_succ (by omega), ltI_nat]; simp)) rfl ?_
 refine eN ?_
 refine tN ?_
 refine eA rfl ?_
 refine eS ?_
 refine eR rfl ?_
 refine eV rfl (xM rfl) rfl ?_
 refine eV rfl (xM rfl) rfl ?_
 refine eV rfl (x_sliceK (e := 47) (sz := 2) (by kernel_rfl) (by kernel_rfl) rfl (bnd_hi rfl (Nat.le_of_lt hi)) (by omega)) rfl ?_
 refine eV rfl (xM rfl) rfl ?_
 refine eV rfl (xM rfl) rfl ?_
 refine eV rfl (xB rfl rfl rfl) rfl ?_
 refine eV rfl (xM rfl) rfl ?_
 refine eV rfl (xB rfl rfl rfl) rfl ?_
 refine o_grow hst rfl (x_appendZ (e := 47) (sz := 2) (w := 16) (zs := [.int .i64 0, .int .i64 0]) (b := b) (n := n + 1 - i) (len := i) (cp := n) (m := n + 1) (k2 := .i64) rfl rfl rfl rfl (by kernel_rfl) (by kernel_rfl) (by kernel_rfl) (by kernel_rfl) (by kernel_rfl) rfl (congrArg (fun z => some (AV.int .i64 z)) ((congrArg (fun z => wr .i64 (Int.sub z (.ofNat i))) (wr_succ (by omega))).trans (wr_subN (by omega) (by omega)))) (hst.get 0 rfl) (by omega) (by omega) (by omega) (by omega) (by decide) (by decide) rfl (by rw [cellsI_length]; omega) (by omega)) (fun _ => rfl) (fun σ b3 hst => ?_)
 obtain ⟨Z, hZ, hZl⟩ : ∃ Z, timesN [.int .i64 0, .int .i64 0] (n + 1 - i) = Z ∧ Z.length = (n + 1 - i) * 2 := ⟨_, rfl, by rw [timesN_length]; rfl⟩
 rw [cellsI_take, hZ] at hst
 have hAl : (cellsI (l.take i)).length = i * 2 := by rw [cellsI_length, List.length_take]; omega
 have hBl : (cellsI (l.drop i)).length = (n - i) * 2 := by rw [cellsI_length, List.length_drop]; omega
 refine eV rfl (xA rfl) rfl ?_
 refine eN ?_
 refine tN ?_
 refine eS ?_
 refine eR rfl ?_
 refine eV rfl (xM rfl) rfl ?_
 refine eV rfl (xM rfl) rfl ?_
 refine eV rfl (x_sliceU (e := 47) (sz := 2) (by kernel_rfl) (by kernel_rfl) rfl (bnd_lo rfl (by omega))) rfl ?_
 refine eV rfl (xM rfl) rfl ?_
 refine eV rfl (x_copy (e := 47) (sz := 2) (cnt := 1) (n := 1) (news := ints x.ints) (cells' := cellsI (l.take i) ++ (ints x.ints ++ Z.drop 2)) rfl rfl rfl (by kernel_rfl) (by kernel_rfl) rfl rfl (src_row (len := 1) (hst.get 2 rfl) (show 0 + 1 * 2 ≤ (ints x.ints).length from Nat.le_refl 2)) (by show Nat.min 1 (n + 1 - i) = 1; exact Nat.min_eq_left (by omega)) (by decide) (hst.get 0 rfl) (show allLeaf (ints x.ints) = true from allLeaf_ints _) (by decide) (by show 0 + i * 2 + 2 ≤ _; rw [List.length_append]; omega) (splice_at (X := ints x.ints) (by omega) (by show 2 ≤ _; omega))) rfl ?_
 replace hst := hst.set0 (.row (cellsI (l.take i) ++ (ints x.ints ++ Z.drop 2)) 47 false)
 refine eN ?_
 refine tN ?_
 refine eS ?_
 refine eP (l := [(0, []), (1, []), (2, []), (3, []), (4, []), (5, []), (6, []), (7, []), (8, [])]) (by kernel_rfl) (by kernel_rfl) ?_
 refine pV rfl rfl (xM rfl) rfl ?_
 refine pV rfl rfl (xM rfl) rfl ?_
 refine pV rfl rfl (xM rfl) rfl ?_
 refine pV rfl rfl (xB rfl rfl rfl) rfl ?_
 refine pV rfl rfl (x_sliceU (e := 47) (sz := 2) (by kernel_rfl) (by kernel_rfl) rfl (bnd_lo (congrArg (fun z => some (AV.int .i64 z)) (wr_succ (by omega))) (by omega))) rfl ?_
 refine pV rfl rfl (xM rfl) rfl ?_
 refine pV rfl rfl (xM rfl) rfl ?_
 refine pV rfl rfl (x_sliceK (e := 47) (sz := 2) (by kernel_rfl) (by kernel_rfl) rfl (bnd_lo rfl (Nat.le_of_lt hi)) hi) rfl ?_
 refine pW rfl rfl (x_copy (e := 47) (sz := 2) (cnt := n - i) (n := n - i) (news := cellsI (l.drop i)) (cells' := cellsI (l.take i ++ x :: l.drop i)) rfl rfl rfl (by kernel_rfl) (by kernel_rfl) rfl rfl (by rw [src_row (len := n - i) (hst.get 1 rfl) (by rw [cellsI_length]; omega), Nat.zero_add, cellsI_drop, List.take_of_length_le (by omega)]) (by show Nat.min (n - i) (n + 1 - (i + 1)) = n - i; exact Nat.min_eq_left (by omega)) (by omega) (hst.get 0 rfl) (by rw [List.take_of_length_le (by omega)]; exact cellsI_leaf _) (by decide) (by rw [List.take_of_length_le (by omega), List.length_append, List.length_append, List.length_drop]; show _ ≤ _ + (2 + _); omega) (by rw [List.take_of_length_le (by omega), ins_fin (by show _ = _ + 2; omega) (by rw [List.length_drop]; omega), cellsI_app, cellsI_cons])) rfl ⟨s0, ?_⟩
 replace hst := hst.set0 (.row (cellsI (l.take i ++ x :: l.drop i)) 47 false)
 refine pN ?_
 refine tN ?_
 refine eS ?_
 refine eR rfl ?_
 refine eV rfl (xM rfl) rfl ?_
 refine eV rfl (xA rfl) rfl ?_
 refine eN ?_
 refine tN ?_
 refine eT ?_
 refine tR (?_)
 exact r1_ rfl rfl ⟨b3, rfl, hst⟩
end Go.Ev

namespace Go.Ev
variable [Env]
open Go.Proofs
set_option maxRecDepth 4000
set_option maxHeartbeats 8000000

theorem w_InsL {G : Cx} (hov : G.ov 85 = true) {K : KP} {l : List XId} {x : XId} {i n b vb : Nat} (hn : l.length = n) (hi : i < n) (hle : n ≤ 1000000) (hne : b ≠ vb) {σ : AHeap} {L : Own} (hst : St σ K ((b, .row (cellsI l ++ [AV.any, AV.any]) 47 false) :: (vb, .row (ints x.ints) 47 false) :: L)) :
  EvIn Try.prog G 49 [.slice b 0 n (.least (n + 1) 2), .int .i64 (.ofNat i), .slice vb 0 1 (.known 1)] σ fun v σ' => v = .slice b 0 (n + 1) (.least (n + 1) 2) ∧ St σ' K ((b, .row (cellsI (l.take i ++ x :: l.drop i)) 47 false) :: (vb, .row (ints x.ints) 47 false) :: L) := by
 have hAl : (cellsI (l.take i)).length = i * 2 := by rw [cellsI_length, List.length_take]; omega
 have hBl : (cellsI (l.drop i)).length = (n - i) * 2 := by rw [cellsI_length, List.length_drop]; omega
 obtain ⟨C1, C2, hC, hC1, hC2⟩ : ∃ C1 C2 : List AV, C1 ++ C2 = cellsI (l.drop i) ++ [AV.any, AV.any] ∧ C1.length = 2 ∧ C2.length = (cellsI (l.drop i)).length :=
  ⟨(cellsI (l.drop i) ++ [AV.any, AV.any]).take 2, (cellsI (l.drop i) ++ [AV.any, AV.any]).drop 2, List.take_append_drop _ _, by rw [List.length_take, List.length_append]; show min 2 (_ + 2) = 2; omega, by rw [List.length_drop, List.length_append]; show _ + 2 - 2 = _; omega⟩
 have hrow : cellsI l ++ [AV.any, AV.any] = cellsI (l.take i) ++ (C1 ++ C2) := by rw [hC, ← List.append_assoc, ← cellsI_app, List.take_append_drop]
 rw [hrow] at hst
 refine ev_in (f := 49) Try.func49 rfl (t := ((PT.leaf.put (some (.slice b 0 n (.least (n + 1) 2))) 0).put (some (.int .i64 (.ofNat i))) 1).put (some (.slice vb 0 1 (.known 1))) 2) (by rfl) ?_
 refine eS ?_
 refine eR rfl ?_
 refine eV rfl (xA rfl) rfl ?_
 refine eN ?_
 refine tN ?_
 refine eS ?_
 refine eR rfl ?_
 refine eV rfl (xM rfl) rfl ?_
 refine eV rfl (xM rfl) rfl ?_
 refine eV rfl (x_sliceL (e := 47) (sz := 2) (by kernel_rfl) (by kernel_rfl) rfl (bnd_lo rfl (Nat.le_of_lt hi)) (by omega) (by omega)) rfl ?_
 refine eN ?_
 refine tN ?_
 refine eS ?_
 refine eR rfl ?_
 refine eV rfl (xM rfl) rfl ?_
 refine eV rfl (x_len rfl rfl rfl (e := 47) (by kernel_rfl) rfl) rfl ?_
 refine eV rfl (xA rfl) rfl ?_
 refine eN ?_
 refine tN ?_
 refine eS ?_
 refine eS ?_
 refine eR rfl ?_
 refine eV rfl (xM rfl) rfl ?_
 refine eV rfl (xB (v := .bool false) rfl rfl rfl) rfl ?_
 refine eN ?_
 refine tN ?_
 refine eF rfl ?_
 refine eI ?_
 refine tN ?_
 refine eS ?_
 refine eR rfl ?_
 refine eV rfl (xM rfl) rfl ?_
 refine eV rfl (x_len rfl rfl rfl (e := 47) (by kernel_rfl) rfl) rfl ?_
 refine eV rfl (xA rfl) rfl ?_
 refine eN ?_
 refine tN ?_
 refine eS ?_
 refine eS ?_
 refine eR rfl ?_
 refine eV rfl (xM rfl) rfl ?_
 refine eV rfl (xM rfl) rfl ?_
 refine eV rfl (xB (v := .bool false) rfl rfl (by show some (AV.bool (eqI (.ofNat i) (.ofNat n))) = _; rw [eqI_nat]; simp; omega)) rfl ?_
 refine eN ?_
 refine tN ?_
 refine eF rfl ?_
 refine eI ?_
 refine tN ?_
 refine eS ?_
 refine eS ?_
 refine eR rfl ?_
 refine eV rfl (xM rfl) rfl ?_
 refine eV rfl (xM rfl) rfl ?_
 refine eV rfl (xB rfl rfl rfl) rfl ?_
 refine eV rfl (xM rfl) rfl ?_
 refine eV rfl (x_cap rfl rfl rfl (e := 47) (by kernel_rfl) rfl rfl) rfl ?_
 refine eV rfl (xB (v := .bool false) rfl rfl (by rw [wr_succ (by omega)]; show (bif Nat.ble (n + 1) (n + 1) then some (AV.bool false) else none) = _; rw [show Nat.ble (n + 1) (n + 1) = true from by rw [Nat.ble_eq]; exact Nat.le_refl _]; rfl)) rfl ?_
 refine eN ?_
 refine tN ?_
 refine eF rfl ?_
 refine eI ?_
 refine tN ?_
 refine eS ?_
 refine eR rfl ?_
 refine eV rfl (xM rfl) rfl ?_
 refine eV rfl (xM rfl) rfl ?_
 refine eV rfl (xM rfl) rfl ?_
 refine eV rfl (xB rfl rfl rfl) rfl ?_
 refine eV rfl (x_sliceL (e := 47) (sz := 2) (by kernel_rfl) (by kernel_rfl) rfl (bnd_hi (congrArg (fun z => some (AV.int .i64 z)) (wr_succ (by omega))) (by omega)) (by omega) (by omega)) rfl ?_
 refine eV rfl (xA rfl) rfl ?_
 refine eN ?_
 refine tN ?_
 refine eS ?_
 refine eS ?_
 refine eR rfl ?_
 refine eV rfl (xM rfl) rfl ?_
 refine eV rfl (xM rfl) rfl ?_
 refine eV rfl (xM rfl) rfl ?_
 refine eV rfl (xM rfl) rfl ?_
 refine eV rfl (xB rfl rfl rfl) rfl ?_
 refine eV rfl (x_sliceL (e := 47) (sz := 2) (len := n + 1) (a := n + 1) (by kernel_rfl) (by kernel_rfl) rfl (bnd_lo (congrArg (fun z => some (AV.int .i64 z)) (wr_succ (by omega))) (by omega)) (by omega) (by omega)) rfl ?_
 refine eV rfl (x_overlaps rfl rfl (by kernel_rfl) hov (by kernel_rfl) rfl rfl rfl (hst.get 1 rfl) (hst.get 0 rfl) (Ne.symm hne) rfl rfl (by rw [List.length_append, List.length_append]; omega)) rfl ?_
 refine eV rfl (xn rfl) rfl ?_
 refine eN ?_
 refine tN ?_
 refine eA rfl ?_
 refine eS ?_
 refine eP (l := [(0, []), (1, []), (2, []), (3, []), (4, []), (5, []), (6, []), (7, []), (8, [])]) (by kernel_rfl) (by kernel_rfl) ?_
 refine pV rfl rfl (xM rfl) rfl ?_
 refine pV rfl rfl (xM rfl) rfl ?_
 refine pV rfl rfl (xM rfl) rfl ?_
 refine pV rfl rfl (xB rfl rfl rfl) rfl ?_
 refine pV rfl rfl (x_sliceL (e := 47) (sz := 2) (len := n + 1) (a := n + 1) (by kernel_rfl) (by kernel_rfl) rfl (bnd_lo (congrArg (fun z => some (AV.int .i64 z)) (wr_succ (by omega))) (by omega)) (by omega) (by omega)) rfl ?_
 refine pV rfl rfl (xM rfl) rfl ?_
 refine pV rfl rfl (xM rfl) rfl ?_
 refine pV rfl rfl (x_sliceL (e := 47) (sz := 2) (len := n + 1) (a := n + 1) (by kernel_rfl) (by kernel_rfl) rfl (bnd_lo rfl (by omega)) (by omega) (by omega)) rfl ?_
 refine pW rfl rfl (x_copy (e := 47) (sz := 2) (cnt := n - i) (n := n + 1 - i) (news := C1 ++ C2) (cells' := cellsI (l.take i) ++ (C1 ++ cellsI (l.drop i))) rfl rfl rfl (by kernel_rfl) (by kernel_rfl) rfl rfl (by rw [src_row (len := n + 1 - i) (hst.get 0 rfl) (by rw [List.length_append, List.length_append]; omega), show 0 + 0 * 2 + i * 2 = (cellsI (l.take i)).length from by omega, List.drop_left, List.take_of_length_le (by rw [List.length_append]; omega)]) (by show Nat.min (n + 1 - i) (n + 1 - (i + 1)) = n - i; rw [show n + 1 - (i + 1) = n - i by omega]; exact Nat.min_eq_right (by omega)) (by omega) (hst.get 0 rfl) (by rw [hC, ← hBl, List.take_left]; exact cellsI_leaf _) (by decide) (by rw [hC, ← hBl, List.take_left, List.length_append, ← hC, List.length_append]; omega) (by rw [hC, ← hBl, List.take_left, ← hC]; exact ins_fin (by omega) hC2)) rfl ⟨s0, ?_⟩
 replace hst := hst.set0 (.row (cellsI (l.take i) ++ (C1 ++ cellsI (l.drop i))) 47 false)
 refine pN ?_
 refine tN ?_
 refine eS ?_
 refine eR rfl ?_
 refine eV rfl (xM rfl) rfl ?_
 refine eV rfl (xM rfl) rfl ?_
 refine eV rfl (x_sliceL (e := 47) (sz := 2) (len := n + 1) (a := n + 1) (by kernel_rfl) (by kernel_rfl) rfl (bnd_lo rfl (by omega)) (by omega) (by omega)) rfl ?_
 refine eV rfl (xM rfl) rfl ?_
 refine eV rfl (x_copy (e := 47) (sz := 2) (cnt := 1) (n := 1) (news := ints x.ints) (cells' := cellsI (l.take i ++ x :: l.drop i)) rfl rfl rfl (by kernel_rfl) (by kernel_rfl) rfl rfl (src_row (len := 1) (hst.get 1 rfl) (show 0 + 1 * 2 ≤ (ints x.ints).length from Nat.le_refl 2)) (by show Nat.min 1 (n + 1 - i) = 1; exact Nat.min_eq_left (by omega)) (by decide) (hst.get 0 rfl) (show allLeaf (ints x.ints) = true from allLeaf_ints _) (by decide) (by show 0 + 0 * 2 + i * 2 + 2 ≤ _; rw [List.length_append, List.length_append]; omega) (by rw [cellsI_app, cellsI_cons]; exact ins_mid (X := ints x.ints) (by omega) hC1.symm)) rfl ?_
 replace hst := hst.set0 (.row (cellsI (l.take i ++ x :: l.drop i)) 47 false)
 refine eN ?_
 refine tN ?_
 refine eS ?_
 refine eR rfl ?_
 refine eV rfl (xM rfl) rfl ?_
 refine eV rfl (xA rfl) rfl ?_
 refine eN ?_
 refine tN ?_
 refine eT ?_
 refine tR (?_)
 exact r1_ rfl rfl ⟨rfl, hst⟩
end Go.Ev

namespace Go.Ev
variable [Env]
open Go.Proofs
set_option maxRecDepth 4000
set_option maxHeartbeats 8000000
theorem hasS_one {K : KP} {x : XId} {vb e : Nat} (hvb : K vb (.row (ints x.ints) e false)) : HasS K 2 RId [x] (.slice vb 0 1 (.known 1)) :=
 .inr ⟨vb, 0, _, _, e, false, rfl, .inr ⟨_, rfl, Nat.le_refl _⟩, hvb, Nat.le_refl 2, (by simp), fun i y h => by cases i with | zero => (cases h; rfl) | succ i => (simp at h)⟩

theorem w_InsN {G : Cx} {K : KP} {x : XId} {vb : Nat} (hvb : K vb (.row (ints x.ints) 47 false)) {σ : AHeap} {L : Own} (hst : St σ K L) : EvIn Try.prog G 49 [.nilSlice, .int .i64 (.ofNat 0), .slice vb 0 1 (.known 1)] σ fun v σ' => ∃ M, OwnS 2 47 RId [x] v M ∧ St σ' K (M ++ L) := by
 have hx := hasS_one hvb
 refine ev_in (f := 49) Try.func49 rfl (t := ((PT.leaf.put (some (.nilSlice)) 0).put (some (.int .i64 (.ofNat 0))) 1).put (some (.slice vb 0 1 (.known 1))) 2) (by rfl) ?_
 refine eS ?_
 refine eR rfl ?_
 refine eV rfl (xA rfl) rfl ?_
 refine eN ?_
 refine tN ?_
 refine eS ?_
 refine eR rfl ?_
 refine eV rfl (xM rfl) rfl ?_
 refine eV rfl (xM rfl) rfl ?_
 refine eV rfl (x_sliceN (e := 47) (sz := 2) (by kernel_rfl) (by kernel_rfl) rfl rfl) rfl ?_
 refine eN ?_
 refine tN ?_
 refine eS ?_
 refine eR rfl ?_
 refine eV rfl (xM rfl) rfl ?_
 refine eV rfl (x_len rfl rfl rfl (e := 47) (by kernel_rfl) rfl) rfl ?_
 refine eV rfl (xA rfl) rfl ?_
 refine eN ?_
 refine tN ?_
 refine eS ?_
 refine eS ?_
 refine eR rfl ?_
 refine eV rfl (xM rfl) rfl ?_
 refine eV rfl (xB (v := .bool false) rfl rfl rfl) rfl ?_
 refine eN ?_
 refine tN ?_
 refine eF rfl ?_
 refine eI ?_
 refine tN ?_
 refine eS ?_
 refine eR rfl ?_
 refine eV rfl (xM rfl) rfl ?_
 refine eV rfl (xU (v := .int .i64 (.ofNat 0)) rfl rfl) rfl ?_
 refine eV rfl (xA rfl) rfl ?_
 refine eN ?_
 refine tN ?_
 refine eS ?_
 refine eS ?_
 refine eR rfl ?_
 refine eV rfl (xM rfl) rfl ?_
 refine eV rfl (xM rfl) rfl ?_
 refine eV rfl (xB (v := .bool true) rfl rfl rfl) rfl ?_
 refine eN ?_
 refine tN ?_
 refine eA rfl ?_
 refine eS ?_
 refine eR rfl ?_
 refine eV rfl (xM rfl) rfl ?_
 refine eV rfl (xM rfl) rfl ?_
 refine o_appendN (R := RId) (m := 2) (e := 47) hst hx RId.leaf (by simp) (by simp) rfl rfl rfl rfl rfl (by kernel_rfl) (by kernel_rfl) (by kernel_rfl) rfl rfl (fun _ => rfl) (fun σ b9 news hst hl9 hr9 => ?_)
 refine eV rfl (xA rfl) rfl ?_
 refine eN ?_
 refine tN ?_
 refine eT ?_
 refine tR (?_)
 exact r1_ rfl rfl ⟨[(b9, .row news 47 false)], .inr ⟨b9, .upto 2, news, 47, rfl, rfl, hl9, hr9, .inr ⟨rfl, rfl⟩, (by simp)⟩, hst⟩
theorem w_InsEK {G : Cx} {K : KP} {x : XId} {vb : Nat} (hvb : K vb (.row (ints x.ints) 47 false)) {l : List XId} {n b e : Nat} {cells : List AV} (hn : l.length = n) (hle : n ≤ 1000000) (hcl : cells.length = l.length * 2) (hce : ∀ (i : Nat) (y : XId), l[i]? = some y → RId y ((cells.drop (i * 2)).take 2)) {σ : AHeap} {L : Own} (hst : St σ K ((b, .row cells e false) :: L)) : EvIn Try.prog G 49 [.slice b 0 n (.known n), .int .i64 (.ofNat n), .slice vb 0 1 (.known 1)] σ fun v σ' => ∃ M, OwnS 2 47 RId (l ++ [x]) v M ∧ St σ' K (M ++ L) := by
 have hx := hasS_one hvb
 refine ev_in (f := 49) Try.func49 rfl (t := ((PT.leaf.put (some (.slice b 0 n (.known n))) 0).put (some (.int .i64 (.ofNat n))) 1).put (some (.slice vb 0 1 (.known 1))) 2) (by rfl) ?_
 refine eS ?_
 refine eR rfl ?_
 refine eV rfl (xA rfl) rfl ?_
 refine eN ?_
 refine tN ?_
 refine eS ?_
 refine eR rfl ?_
 refine eV rfl (xM rfl) rfl ?_
 refine eV rfl (xM rfl) rfl ?_
 refine eV rfl (x_sliceE (e := 47) (sz := 2) (by kernel_rfl) (by kernel_rfl) rfl rfl) rfl ?_
 refine eN ?_
 refine tN ?_
 refine eS ?_
 refine eR rfl ?_
 refine eV rfl (xM rfl) rfl ?_
 refine eV rfl (x_len rfl rfl rfl (e := 47) (by kernel_rfl) rfl) rfl ?_
 refine eV rfl (xA rfl) rfl ?_
 refine eN ?_
 refine tN ?_
 refine eS ?_
 refine eS ?_
 refine eR rfl ?_
 refine eV rfl (xM rfl) rfl ?_
 refine eV rfl (xB (v := .bool false) rfl rfl rfl) rfl ?_
 refine eN ?_
 refine tN ?_
 refine eF rfl ?_
 refine eI ?_
 refine tN ?_
 refine eS ?_
 refine eR rfl ?_
 refine eV rfl (xM rfl) rfl ?_
 refine eV rfl (x_len rfl rfl rfl (e := 47) (by kernel_rfl) rfl) rfl ?_
 refine eV rfl (xA rfl) rfl ?_
 refine eN ?_
 refine tN ?_
 refine eS ?_
 refine eS ?_
 refine eR rfl ?_
 refine eV rfl (xM rfl) rfl ?_
 refine eV rfl (xM rfl) rfl ?_
 refine eV rfl (xB (v := .bool true) rfl rfl (by show some (AV.bool (eqI (.ofNat n) (.ofNat n))) = _; rw [eqI_nat]; simp)) rfl ?_
 refine eN ?_
 refine tN ?_
 refine eA rfl ?_
 refine eS ?_
 refine eR rfl ?_
 refine eV rfl (xM rfl) rfl ?_
 refine eV rfl (xM rfl) rfl ?_
 refine o_append (R := RId) (m := 2) (e := 47) hst hx RId.leaf (by simp) (by omega) (by omega) (.inl rfl) rfl rfl rfl rfl rfl (by kernel_rfl) (by kernel_rfl) (by kernel_rfl) rfl rfl (fun _ => rfl) (fun σ b9 c9 news e9 hst hl9 hr9 hc9 => ?_)
 refine eV rfl (xA rfl) rfl ?_
 refine eN ?_
 refine tN ?_
 refine eT ?_
 refine tR (?_)
 exact r1_ rfl rfl ⟨[(b9, .row (cells ++ news) e9 false)], ownS_app hcl hce hl9 hr9 (by rw [hn]) hc9 (by show n + 1 ≤ 1048576; omega), hst⟩
theorem w_InsEU {G : Cx} {K : KP} {x : XId} {vb : Nat} (hvb : K vb (.row (ints x.ints) 47 false)) {l : List XId} {n b : Nat} {cells : List AV} (hn : l.length = n) (hle : n ≤ 1000000) (hcl : cells.length = l.length * 2) (hce : ∀ (i : Nat) (y : XId), l[i]? = some y → RId y ((cells.drop (i * 2)).take 2)) {σ : AHeap} {L : Own} (hst : St σ K ((b, .row cells 47 false) :: L)) : EvIn Try.prog G 49 [.slice b 0 n (.upto 2), .int .i64 (.ofNat n), .slice vb 0 1 (.known 1)] σ fun v σ' => ∃ M, OwnS 2 47 RId (l ++ [x]) v M ∧ St σ' K (M ++ L) := by
 have hx := hasS_one hvb
 refine ev_in (f := 49) Try.func49 rfl (t := ((PT.leaf.put (some (.slice b 0 n (.upto 2))) 0).put (some (.int .i64 (.ofNat n))) 1).put (some (.slice vb 0 1 (.known 1))) 2) (by rfl) ?_
 refine eS ?_
 refine eR rfl ?_
 refine eV rfl (xA rfl) rfl ?_
 refine eN ?_
 refine tN ?_
 refine eS ?_
 refine eR rfl ?_
 refine eV rfl (xM rfl) rfl ?_
 refine eV rfl (xM rfl) rfl ?_
 refine eV rfl (x_sliceU (e := 47) (sz := 2) (by kernel_rfl) (by kernel_rfl) rfl (bnd_lo rfl (Nat.le_refl _))) rfl ?_
 refine eN ?_
 refine tN ?_
 refine eS ?_
 refine eR rfl ?_
 refine eV rfl (xM rfl) rfl ?_
 refine eV rfl (x_len rfl rfl rfl (e := 47) (by kernel_rfl) rfl) rfl ?_
 refine eV rfl (xA rfl) rfl ?_
 refine eN ?_
 refine tN ?_
 refine eS ?_
 refine eS ?_
 refine eR rfl ?_
 refine eV rfl (xM rfl) rfl ?_
 refine eV rfl (xB (v := .bool false) rfl rfl rfl) rfl ?_
 refine eN ?_
 refine tN ?_
 refine eF rfl ?_
 refine eI ?_
 refine tN ?_
 refine eS ?_
 refine eR rfl ?_
 refine eV rfl (xM rfl) rfl ?_
 refine eV rfl (x_len rfl rfl rfl (e := 47) (by kernel_rfl) rfl) rfl ?_
 refine eV rfl (xA rfl) rfl ?_
 refine eN ?_
 refine tN ?_
 refine eS ?_
 refine eS ?_
 refine eR rfl ?_
 refine eV rfl (xM rfl) rfl ?_
 refine eV rfl (xM rfl) rfl ?_
 refine eV rfl (xB (v := .bool true) rfl rfl (by show some (AV.bool (eqI (.ofNat n) (.ofNat n))) = _; rw [eqI_nat]; simp)) rfl ?_
 refine eN ?_
 refine tN ?_
 refine eA rfl ?_
 refine eS ?_
 refine eR rfl ?_
 refine eV rfl (xM rfl) rfl ?_
 refine eV rfl (xM rfl) rfl ?_
 refine o_append (R := RId) (m := 2) (e := 47) hst hx RId.leaf (by simp) (by omega) (by omega) (.inr ⟨rfl, rfl⟩) rfl rfl rfl rfl rfl (by kernel_rfl) (by kernel_rfl) (by kernel_rfl) rfl rfl (fun _ => rfl) (fun σ b9 c9 news e9 hst hl9 hr9 hc9 => ?_)
 refine eV rfl (xA rfl) rfl ?_
 refine eN ?_
 refine tN ?_
 refine eT ?_
 refine tR (?_)
 exact r1_ rfl rfl ⟨[(b9, .row (cells ++ news) e9 false)], ownS_app hcl hce hl9 hr9 (by rw [hn]) hc9 (by show n + 1 ≤ 1048576; omega), hst⟩
end Go.Ev

namespace Go.Ev
variable [Env]
open Go.Proofs
set_option maxRecDepth 4000
set_option maxHeartbeats 8000000
theorem EvIn.mono {P : Program} {G : Cx} {f : Nat} {args : List AV} {σ : AHeap} {R R' : AV → AHeap → Prop} (h : EvIn P G f args σ R) (hq : ∀ v σ', R v σ' → R' v σ') : EvIn P G f args σ R' :=
 let ⟨K, v, σ', h1, h2⟩ := h; ⟨K, v, σ', h1, hq _ _ h2⟩
theorem ins_len {l : List XId} {x : XId} {i : Nat} (hi : i ≤ l.length) : (l.take i ++ x :: l.drop i).length = l.length + 1 := by
 rw [List.length_append, List.length_take, List.length_cons, List.length_drop]; omega
theorem ownS_cells {l : List XId} {b n e : Nat} {c : Cap} (hn : n = l.length) (hc : c = .known n ∨ (c = .upto 2 ∧ e = 47)) (hle : n ≤ 1048576) : OwnS 2 47 RId l (.slice b 0 n c) [(b, .row (cellsI l) e false)] := by
 subst hn
 exact .inr ⟨b, c, _, e, rfl, rfl, cellsI_length l, fun i y h => cellsI_at h, hc, hle⟩
theorem forkY_end {P : Program} {G : Cx} {ih : IhC} {f : Nat} {σ : AHeap} {b n : Nat} {c : Cap} {w : AV} : forkY P G ih f [.slice b 0 n c, .int .i64 (.ofNat n), w] σ = callC P G ih f [.slice b 0 n c, .int .i64 (.ofNat n), w] σ := by
 unfold forkY
 rw [show atEnd [.slice b 0 n c, .int .i64 (.ofNat n), w] = true from Nat.beq_refl n]
 rfl
theorem forkY_known {P : Program} {G : Cx} {ih : IhC} {f : Nat} {σ : AHeap} {b n i m : Nat} {w : AV} (hi : i < n) : forkY P G ih f [.slice b 0 n (.known m), .int .i64 (.ofNat i), w] σ = callC P G ih f [.slice b 0 n (.known m), .int .i64 (.ofNat i), w] σ := by
 unfold forkY
 rw [show atEnd [.slice b 0 n (.known m), .int .i64 (.ofNat i), w] = false from by
  show Nat.beq i n = false
  cases hh : Nat.beq i n with
  | false => rfl
  | true => exact absurd (Nat.eq_of_beq_eq_true hh) (by omega)]
 rfl
/-- slices.Insert of one Id into a list of one's own. -/
theorem w_Insert {G : Cx} (hG : Plain G) (hfk : G.fk 49 = true) (hov : G.ov 85 = true) {K : KP} {l : List XId} {x : XId} {i vb : Nat} {u : AV} {M : Own} (hvb : K vb (.row (ints x.ints) 47 false)) (ho : OwnS 2 47 RId l u M) (hi : i ≤ l.length) (hle : l.length ≤ 1000000) {σ : AHeap} {L : Own} (hst : St σ K (M ++ L)) :
  EvCall Try.prog G 49 [u, .int .i64 (.ofNat i), .slice vb 0 1 (.known 1)] σ fun v σ' => ∃ M', OwnS 2 47 RId (l.take i ++ x :: l.drop i) v M' ∧ St σ' K (M' ++ L) := by
 rcases ho with ⟨rfl, rfl, rfl⟩ | ⟨b, c, cells, e, rfl, rfl, h3, h4, h5, h6⟩
 ·obtain rfl : i = 0 := by simpa using hi
  exact ev_fork1 hG hfk (fun ih => rfl) (w_InsN hvb hst)
 ·by_cases hin : i = l.length
  ·subst hin
   rw [List.take_length, List.drop_length]
   rcases h5 with rfl | ⟨rfl, rfl⟩
   ·exact ev_fork1 hG hfk (fun ih => forkY_end) (w_InsEK hvb rfl hle h3 h4 hst)
   ·exact ev_fork1 hG hfk (fun ih => forkY_end) (w_InsEU hvb rfl hle h3 h4 hst)
  ·have hlt : i < l.length := by omega
   obtain rfl := cellsI_of l cells h3 h4
   have hne : b ≠ vb := (hst.kept _ _ hvb).2.2 _ (List.mem_cons_self ..)
   have hgv := (hst.kept _ _ hvb)
   rcases h5 with rfl | ⟨rfl, rfl⟩
   ·refine ev_fork1 hG hfk (fun ih => forkY_known hlt) ?_
    refine (w_InsK (K := K.sub vb) rfl hlt hle ((hst.unkeep hvb).perm (List.Perm.swap ..))).mono fun v σ' h => ?_
    obtain ⟨b1, rfl, hs⟩ := h
    exact ⟨_, ownS_cells (ins_len hi).symm (.inr ⟨rfl, rfl⟩) (by omega), St.rekeep hst hvb ((hs.sub (.cons_cons _ (.cons _ (.refl _)))).perm (List.Perm.swap ..))⟩
   ·have htwo := @St.two _ σ b vb (.row (cellsI l) 47 false) (.row (ints x.ints) 47 false) (.row (cellsI l) 47 false) (.row (ints x.ints) 47 false) (hst.own _ (List.mem_cons_self ..)).1 hgv.1 hne
    have hfin : ((l.take i ++ x :: l.drop i).flatMap XId.ints).length = (l.length + 1) * 2 := by rw [← ints_length, ← cellsI_ints, cellsI_length, ins_len hi]
    have hcut : ∀ (cs : List AV), cs = cellsI (l.take i ++ x :: l.drop i) → (l.length + 1) * 2 ≤ cs.length ∧ cs.take ((l.length + 1) * 2) = ints ((l.take i ++ x :: l.drop i).flatMap XId.ints) := fun cs h => by
     subst h
     have := cellsI_length (l.take i ++ x :: l.drop i)
     rw [ins_len hi] at this
     exact ⟨by omega, by rw [List.take_of_length_le (by omega), cellsI_ints]⟩
    refine ev_fork2 (e := 47) (ve := 47) (cells := cellsI l) (vc := x.ints) (rs := (l.take i ++ x :: l.drop i).flatMap XId.ints) (n1 := l.length + 1) hG hfk (by omega) hlt hne (hst.get 0 rfl) hgv.2.1 (by rw [cellsI_length]; exact Nat.le_refl _) (by omega) hfin ?_ ?_ ?_
    ·refine (w_InsK (K := fun _ _ => False) rfl hlt hle htwo).mono fun v σ' h => ?_
     obtain ⟨b1, rfl, hs⟩ := h
     exact ⟨b1, _, rfl, (List.pairwise_cons.1 hs.ne).1 (vb, .row (ints x.ints) 47 false) (by simp), hs.get 0 rfl, hs.get 2 rfl, (hcut _ rfl).1, (hcut _ rfl).2⟩
    ·have hrow : (cellsI l).take (l.length * 2) ++ List.replicate 2 AV.any = cellsI l ++ [AV.any, AV.any] := by rw [List.take_of_length_le (by rw [cellsI_length]; exact Nat.le_refl _)]; rfl
     rw [hrow]
     have htwo2 := @St.two _ σ b vb (.row (cellsI l ++ [AV.any, AV.any]) 47 false) (.row (ints x.ints) 47 false) (.row (cellsI l ++ [AV.any, AV.any]) 47 false) (.row (ints x.ints) 47 false) (hst.own _ (List.mem_cons_self ..)).1 hgv.1 hne
     refine (w_InsL hov (K := fun _ _ => False) rfl hlt hle hne htwo2).mono fun v σ' h => ?_
     obtain ⟨rfl, hs⟩ := h
     exact ⟨b, _, _, rfl, Nat.le_refl _, hne, hs.get 0 rfl, hs.get 1 rfl, (hcut _ rfl).1, (hcut _ rfl).2⟩
    ·refine ⟨[(σ.next, .row (ints ((l.take i ++ x :: l.drop i).flatMap XId.ints)) 47 false)], ?_, hst.regrow _⟩
     rw [← cellsI_ints]
     exact ownS_cells (ins_len hi).symm (.inr ⟨rfl, rfl⟩) (by omega)
end Go.Ev

namespace Go.Ev
variable [Env]
open Go.Proofs
set_option maxRecDepth 4000
set_option maxHeartbeats 8000000

theorem few_of {g : XG} (h : checkI g = 0) : FewG g := by
 obtain ⟨b1, b2, b3, b4, b5, b6, b7⟩ := check_bounds h
 exact ⟨by omega, by omega, fun l hl => by have := b3 l hl; omega, by omega, fun l hl => by have := rowsB_le b6 b4 b3 l hl; omega, by omega, fun l hl => by have := order_le h l hl; omega⟩
def AddPost (K : KP) (L : Own) (g : XG) (th : Int) (e : XEv) (fr : XId) (pl : Int) (v : AV) (σ' : AHeap) : Prop :=
 (∃ er, addG g th e fr pl = (none, er) ∧ v = .tuple [.agg [.nilSlice, .nilSlice, .nilSlice, .nilSlice], .int .i64 er] ∧ St σ' K L) ∨
 (∃ g' a' b' c' d' M, addG g th e fr pl = (some g', 0) ∧ v = .tuple [.agg [a', b', c', d'], .int .i64 0] ∧ HasG (K.adds M) g' a' b' c' d' ∧ St σ' K (M ++ L))

theorem check_lent {G : Cx} (hG : Plain G) {K : KP} {L MM : Own} {σ : AHeap} {g : XG} {a b c d : AV} (hst : St σ K (MM ++ L)) (h : HasG (K.adds MM) g a b c d) : EvCall Try.prog G 26 [.agg [a, b, c, d]] σ fun v σ' => v = .int .i64 (checkI g) ∧ St σ' K (MM ++ L) :=
 (w_Check hG h hst.keeps).mono fun _ _ hh => ⟨hh.1, St.unkeeps hst hh.2⟩
theorem add_ok {K : KP} {L MM : Own} {σ : AHeap} {g g' : XG} {th pl : Int} {e : XEv} {fr : XId} {a b c d : AV} (ha : addG g th e fr pl = (some g', 0)) (hst : St σ K (MM ++ L)) (h : HasG (K.adds MM) g' a b c d) : AddPost K L g th e fr pl (.tuple [.agg [a, b, c, d], .int .i64 0]) σ := .inr ⟨g', a, b, c, d, MM, ha, rfl, h, hst⟩

theorem hasS_oneR {α : Type} {K : KP} {R : α → List AV → Prop} {x : α} {m vb e : Nat} {cs : List AV} (hR : R x cs) (hm : cs.length = m) (hvb : K vb (.row cs e false)) : HasS K m R [x] (.slice vb 0 1 (.known 1)) := by
 subst hm
 refine .inr ⟨vb, 0, _, _, e, false, rfl, .inr ⟨_, rfl, Nat.le_refl _⟩, hvb, ?_, (by simp), fun i y h => ?_⟩
 ·rw [List.length_singleton]; omega
 ·cases i with
  | zero => simp only [List.getElem?_cons_zero, Option.some.injEq] at h; subst h; rw [Nat.zero_mul, Nat.zero_add, List.drop_zero, List.take_length]; exact hR
  | succ i => simp at h

theorem w_Add {G : Cx} (hG : Plain G) (hfk : G.fk 49 = true) (hov : G.ov 85 = true) {K : KP} {g : XG} {a b c d : AV} (h : HasG K g a b c d) (th pl : Int) (e : XEv) (fr : XId) {σ : AHeap} {L : Own} (hst : St σ K L) : EvCall Try.prog G 18 [.agg [a, b, c, d], .int .i64 th, .agg [.int .i64 e.kind, .int .i64 e.loc, .int .i64 e.order, .int .i64 e.read, .int .i64 e.write], .agg [.int .i64 fr.thread, .int .i64 fr.index], .int .i64 pl] σ (AddPost K L g th e fr pl) := by
 have h' := h; obtain ⟨hi, ht, hf, ho⟩ := h'
 refine eY hG Try.func18 rfl (t := ((((PT.leaf.put (some (.agg [a, b, c, d])) 0).put (some (.int .i64 th)) 1).put (some (.agg [.int .i64 e.kind, .int .i64 e.loc, .int .i64 e.order, .int .i64 e.read, .int .i64 e.write])) 2).put (some (.agg [.int .i64 fr.thread, .int .i64 fr.index])) 3).put (some (.int .i64 pl)) 4) (by rfl) ?_
 refine eS ?_
 refine eR rfl ?_
 refine oP hst rfl (xo_ rfl rfl) (fun _ => rfl) (fun σ b1 hst => ?_)
 refine oP hst rfl (xo_ rfl rfl) (fun _ => rfl) (fun σ b2 hst => ?_)
 refine oP hst rfl (xo_ rfl rfl) (fun _ => rfl) (fun σ b3 hst => ?_)
 refine oP hst rfl (xe (cs := [.nilSlice, .nilSlice, .nilSlice, .nilSlice]) (by kernel_rfl) (by kernel_rfl)) (fun _ => rfl) (fun σ b4 hst => ?_)
 refine eV rfl (xA rfl) rfl ?_
 refine eN ?_
 refine tN ?_
 refine eS ?_
 refine eS ?_
 refine eR rfl ?_
 refine eV rfl (xN rfl (hst.get 3 rfl) (n := 4) (vs := [_, _, _, _]) (by kernel_rfl) (Nat.le_of_ble_eq_true rfl) rfl) rfl ?_
 refine oV rfl (xC rfl rfl rfl (by kernel_rfl)) (fun _ => rfl) (w_Check hG h  hst) (fun σ hst => ?_)
 refine eV rfl (xB rfl rfl rfl) rfl ?_
 refine eN ?_
 refine tN ?_
 refine e2_ rfl (fun h16 => ?_) (fun h16 => ?_)
 ·refine eS ?_
  refine eR rfl ?_
  refine eV rfl (xb_ (places := [(0, 1), (1, 1), (2, 1), (3, 1)]) (zero := [.nilSlice, .nilSlice, .nilSlice, .nilSlice]) (cs := [_, _, _, _]) (by kernel_rfl) (by kernel_rfl) (by kernel_rfl) rfl (by kernel_rfl)) rfl ?_
  refine o_set0 hst rfl (xS rfl rfl rfl (hst.get 0 rfl) (m := 4) (by kernel_rfl) rfl (Nat.le_of_ble_eq_true rfl) (lC rfl (lC rfl (lC rfl (lC rfl l0_)))) (cells' := [_, _, _, _]) rfl) rfl (fun σ hst => ?_)
  refine eV rfl (xA rfl) rfl ?_
  refine eN ?_
  refine tN ?_
  refine eT ?_
  refine tR (?_)
  exact rc_ rfl rfl (hst.get 0 rfl) (m := 4) (by kernel_rfl) rfl rfl (.inl ⟨_, addG_chk (notB_t h16), rfl, hst.pop.pop.pop.pop⟩)
 ·refine eI ?_
  refine tN ?_
  refine eS ?_
  refine eS ?_
  refine eR rfl ?_
  refine eV rfl (xM rfl) rfl ?_
  refine eV rfl (xB rfl rfl rfl) rfl ?_
  refine oS rfl (xM rfl) (fun _ => rfl) (fun h20 => ?_) (fun h20 => ?_)
  ·refine eU rfl rfl ?_
   refine eU rfl rfl ?_
   refine eU rfl rfl ?_
   refine eU rfl rfl ?_
   refine eU rfl rfl ?_
   refine eV rfl (xP rfl rfl) rfl ?_
   refine eN ?_
   refine tN ?_
   refine eA rfl ?_
   refine eS ?_
   refine eR rfl ?_
   refine eV rfl (xb_ (places := [(0, 1), (1, 1), (2, 1), (3, 1)]) (zero := [.nilSlice, .nilSlice, .nilSlice, .nilSlice]) (cs := [_, _, _, _]) (by kernel_rfl) (by kernel_rfl) (by kernel_rfl) rfl (by kernel_rfl)) rfl ?_
   refine o_set0 hst rfl (xS rfl rfl rfl (hst.get 0 rfl) (m := 4) (by kernel_rfl) rfl (Nat.le_of_ble_eq_true rfl) (lC rfl (lC rfl (lC rfl (lC rfl l0_)))) (cells' := [_, _, _, _]) rfl) rfl (fun σ hst => ?_)
   refine eV rfl (xA rfl) rfl ?_
   refine eN ?_
   refine tN ?_
   refine eT ?_
   refine tR (?_)
   exact rc_ rfl rfl (hst.get 0 rfl) (m := 4) (by kernel_rfl) rfl rfl (.inl ⟨_, addG_low (notB_f h16) h20, rfl, hst.pop.pop.pop.pop⟩)
  ·refine eV rfl (xM rfl) rfl ?_
   refine eV rfl (xF rfl (k := 1) (by kernel_rfl)) rfl ?_
   refine eV rfl (x1_ rfl (hst.get 3 rfl) (by kernel_rfl) rfl) rfl ?_
   refine eV rfl (x_len' ht rfl rfl rfl (e := 61) (by kernel_rfl) rfl) rfl ?_
   refine eV rfl (xB rfl rfl rfl) rfl ?_
   refine eV rfl (xP rfl rfl) rfl ?_
   refine eN ?_
   refine tN ?_
   refine e2_ rfl (fun h26 => ?_) (fun h26 => ?_)
   ·refine eS ?_
    refine eR rfl ?_
    refine eV rfl (xb_ (places := [(0, 1), (1, 1), (2, 1), (3, 1)]) (zero := [.nilSlice, .nilSlice, .nilSlice, .nilSlice]) (cs := [_, _, _, _]) (by kernel_rfl) (by kernel_rfl) (by kernel_rfl) rfl (by kernel_rfl)) rfl ?_
    refine o_set0 hst rfl (xS rfl rfl rfl (hst.get 0 rfl) (m := 4) (by kernel_rfl) rfl (Nat.le_of_ble_eq_true rfl) (lC rfl (lC rfl (lC rfl (lC rfl l0_)))) (cells' := [_, _, _, _]) rfl) rfl (fun σ hst => ?_)
    refine eV rfl (xA rfl) rfl ?_
    refine eN ?_
    refine tN ?_
    refine eT ?_
    refine tR (?_)
    exact rc_ rfl rfl (hst.get 0 rfl) (m := 4) (by kernel_rfl) rfl rfl (.inl ⟨_, addG_big (notB_f h16) h20 h26, rfl, hst.pop.pop.pop.pop⟩)
   ·obtain ⟨tm, rfl⟩ := pos_of h20
    have htm : tm < g.threads.length := by have := le_of_no h26; omega
    obtain ⟨x33, hx33⟩ := at_of htm
    obtain ⟨xf, hxf⟩ := at_of (show tm < g.from_.length from by rw [(check_bounds (eq0 (notB_f h16))).2.2.2.1]; exact htm)
    refine eI ?_
    refine tN ?_
    refine eS ?_
    refine eR rfl ?_
    refine eV rfl (xM rfl) rfl ?_
    refine eV rfl (xF rfl (k := 1) (by kernel_rfl)) rfl ?_
    refine eV rfl (x1_ rfl (hst.get 3 rfl) (by kernel_rfl) rfl) rfl ?_
    refine eV rfl (xM rfl) rfl ?_
    refine eV rfl (xB rfl rfl rfl) rfl ?_
    refine oI (e := 61) (m := 1) ht hx33 rfl rfl (by kernel_rfl) (by kernel_rfl) rfl (congrArg (fun z => some (AV.int .i64 z)) (wr_pred (by have := ht.len_le; omega))) (fun _ => rfl) (fun p33 vs33 hp33 hl33 hr33 => ?_)
    have hr33' := hr33; obtain ⟨v33, rfl, hk33⟩ := hr33'
    refine eV rfl (xp hst hp33 rfl (by kernel_rfl) rfl) rfl ?_
    refine eV rfl (x_len' hk33 rfl rfl rfl (e := 45) (by kernel_rfl) rfl) rfl ?_
    refine eV rfl (xb_ (places := [(0, 1), (1, 1)]) (zero := [.int .i64 0, .int .i64 0]) (cs := [_, _]) (by kernel_rfl) (by kernel_rfl) (by kernel_rfl) rfl (by kernel_rfl)) rfl ?_
    refine oP hst rfl (xe (cs := [.int .i64 0, .int .i64 0]) (by kernel_rfl) (by kernel_rfl)) (fun _ => rfl) (fun σ b5 hst => ?_)
    refine o_set0 hst rfl (xS rfl rfl rfl (hst.get 0 rfl) (m := 2) (by kernel_rfl) rfl (Nat.le_of_ble_eq_true rfl) (lC rfl (lC rfl l0_)) (cells' := [_, _]) rfl) rfl (fun σ hst => ?_)
    refine eN ?_
    refine tN ?_
    refine eS ?_
    refine eS ?_
    refine eR rfl ?_
    refine eV rfl (xF rfl (k := 1) (by kernel_rfl)) rfl ?_
    refine eV rfl (x1_ rfl (hst.get 0 rfl) (by kernel_rfl) rfl) rfl ?_
    refine eV rfl (xB rfl rfl rfl) rfl ?_
    refine eN ?_
    refine tN ?_
    refine e2_ rfl (fun h39 => ?_) (fun h39 => ?_)
    ·refine eS ?_
     refine eR rfl ?_
     refine eV rfl (xb_ (places := [(0, 1), (1, 1), (2, 1), (3, 1)]) (zero := [.nilSlice, .nilSlice, .nilSlice, .nilSlice]) (cs := [_, _, _, _]) (by kernel_rfl) (by kernel_rfl) (by kernel_rfl) rfl (by kernel_rfl)) rfl ?_
     refine o_set1 hst rfl (xS rfl rfl rfl (hst.get 1 rfl) (m := 4) (by kernel_rfl) rfl (Nat.le_of_ble_eq_true rfl) (lC rfl (lC rfl (lC rfl (lC rfl l0_)))) (cells' := [_, _, _, _]) rfl) rfl (fun σ hst => ?_)
     refine eV rfl (xA rfl) rfl ?_
     refine eN ?_
     refine tN ?_
     refine eT ?_
     refine tR (?_)
     exact rc_ rfl rfl (hst.get 1 rfl) (m := 4) (by kernel_rfl) rfl rfl (.inl ⟨_, by rw [addG_at (notB_f h16) hx33 hxf, show ltI (.ofNat x33.length) 14 = false from notB_t h39]; rfl, rfl, hst.pop.pop.pop.pop.pop⟩)
    ·refine eI ?_
     refine tN ?_
     refine eS ?_
     refine eS ?_
     refine eR rfl ?_
     refine eV rfl (xN rfl (hst.get 3 rfl) (n := 5) (vs := [_, _, _, _, _]) (by kernel_rfl) (Nat.le_of_ble_eq_true rfl) rfl) rfl ?_
     refine oV rfl (xC rfl rfl rfl (by kernel_rfl)) (fun _ => rfl) (w_writes hG _ hst) (fun σ hst => ?_)
     refine oS rfl (xM rfl) (fun _ => rfl) (fun h43 => ?_) (fun h43 => ?_)
     ·refine eV rfl (xM rfl) rfl ?_
      refine eV rfl (xB rfl rfl rfl) rfl ?_
      refine oS rfl (xM rfl) (fun _ => rfl) (fun h46 => ?_) (fun h46 => ?_)
      ·refine eU rfl rfl ?_
       refine eU rfl rfl ?_
       refine eU rfl rfl ?_
       refine eU rfl rfl ?_
       refine eU rfl rfl ?_
       refine eU rfl rfl ?_
       refine eU rfl rfl ?_
       refine eV rfl (xP rfl rfl) rfl ?_
       refine eV rfl (xP rfl rfl) rfl ?_
       refine eV rfl (xM rfl) rfl ?_
       refine eU rfl rfl ?_
       refine eU rfl rfl ?_
       refine eU rfl rfl ?_
       refine eU rfl rfl ?_
       refine eU rfl rfl ?_
       refine eU rfl rfl ?_
       refine eU rfl rfl ?_
       refine eV rfl (xP rfl rfl) rfl ?_
       refine eN ?_
       refine tN ?_
       refine eA rfl ?_
       refine eS ?_
       refine eR rfl ?_
       refine eV rfl (xb_ (places := [(0, 1), (1, 1), (2, 1), (3, 1)]) (zero := [.nilSlice, .nilSlice, .nilSlice, .nilSlice]) (cs := [_, _, _, _]) (by kernel_rfl) (by kernel_rfl) (by kernel_rfl) rfl (by kernel_rfl)) rfl ?_
       refine o_set1 hst rfl (xS rfl rfl rfl (hst.get 1 rfl) (m := 4) (by kernel_rfl) rfl (Nat.le_of_ble_eq_true rfl) (lC rfl (lC rfl (lC rfl (lC rfl l0_)))) (cells' := [_, _, _, _]) rfl) rfl (fun σ hst => ?_)
       refine eV rfl (xA rfl) rfl ?_
       refine eN ?_
       refine tN ?_
       refine eT ?_
       refine tR (?_)
       exact rc_ rfl rfl (hst.get 1 rfl) (m := 4) (by kernel_rfl) rfl rfl (.inl ⟨_, by rw [addG_at (notB_f h16) hx33 hxf, show ltI (.ofNat x33.length) 14 = true from notB_f h39]; show (bif badPlace g e pl then _ else _) = _; rw [show badPlace g e pl = true from by unfold badPlace; rw [h43]; show (bif ltI pl 1 then true else _) = true; rw [h46]; rfl]; rfl, rfl, hst.pop.pop.pop.pop.pop⟩)
      ·refine eV rfl (xM rfl) rfl ?_
       refine eV rfl (xN rfl (hst.get 4 rfl) (n := 4) (vs := [_, _, _, _]) (by kernel_rfl) (Nat.le_of_ble_eq_true rfl) rfl) rfl ?_
       refine eV rfl (xF rfl (k := 1) (by kernel_rfl)) rfl ?_
       refine eV rfl (x1_ rfl (hst.get 3 rfl) (by kernel_rfl) rfl) rfl ?_
       refine oC rfl (xC rfl rfl rfl (by kernel_rfl)) (fun _ => rfl) (w_Writes hG h (fun l hl => by have := order_le (eq0 (notB_f h16)) l hl; omega) _ hst) ?_
       rintro u51 σ ⟨M51, hM51, hst⟩
       replace hst := hst.pops
       refine eV rfl (x_lenO hM51 rfl rfl rfl (e := 47) (by kernel_rfl) rfl) rfl ?_
       refine eV rfl (xB rfl rfl rfl) rfl ?_
       refine eV rfl (xP rfl rfl) rfl ?_
       refine eV rfl (xP rfl rfl) rfl ?_
       refine oS rfl (xM rfl) (fun _ => rfl) (fun h56 => ?_) (fun h56 => ?_)
       ·refine eU rfl rfl ?_
        refine eU rfl rfl ?_
        refine eU rfl rfl ?_
        refine eU rfl rfl ?_
        refine eU rfl rfl ?_
        refine eU rfl rfl ?_
        refine eU rfl rfl ?_
        refine eV rfl (xP rfl rfl) rfl ?_
        refine eN ?_
        refine tN ?_
        refine eA rfl ?_
        refine eS ?_
        refine eR rfl ?_
        refine eV rfl (xb_ (places := [(0, 1), (1, 1), (2, 1), (3, 1)]) (zero := [.nilSlice, .nilSlice, .nilSlice, .nilSlice]) (cs := [_, _, _, _]) (by kernel_rfl) (by kernel_rfl) (by kernel_rfl) rfl (by kernel_rfl)) rfl ?_
        refine o_set1 hst rfl (xS rfl rfl rfl (hst.get 1 rfl) (m := 4) (by kernel_rfl) rfl (Nat.le_of_ble_eq_true rfl) (lC rfl (lC rfl (lC rfl (lC rfl l0_)))) (cells' := [_, _, _, _]) rfl) rfl (fun σ hst => ?_)
        refine eV rfl (xA rfl) rfl ?_
        refine eN ?_
        refine tN ?_
        refine eT ?_
        refine tR (?_)
        exact rc_ rfl rfl (hst.get 1 rfl) (m := 4) (by kernel_rfl) rfl rfl (.inl ⟨_, by rw [addG_at (notB_f h16) hx33 hxf, show ltI (.ofNat x33.length) 14 = true from notB_f h39]; show (bif badPlace g e pl then _ else _) = _; rw [show badPlace g e pl = true from by unfold badPlace; rw [h43]; show (bif ltI pl 1 then true else _) = true; rw [h46]; exact h56]; rfl, rfl, hst.pop.pop.pop.pop.pop⟩)
       ·refine eV rfl (xN rfl (hst.get 3 rfl) (n := 5) (vs := [_, _, _, _, _]) (by kernel_rfl) (Nat.le_of_ble_eq_true rfl) rfl) rfl ?_
        refine oV rfl (xC rfl rfl rfl (by kernel_rfl)) (fun _ => rfl) (w_writes hG _ hst) (fun σ hst => ?_)
        refine eV rfl (xn rfl) rfl ?_
        refine oS rfl (xM rfl) (fun _ => rfl) (fun h60 => ?_) (fun h60 => ?_)
        ·exact absurd h43 (by rw [not_t h60]; decide)
        ·refine eU rfl rfl ?_
         refine eU rfl rfl ?_
         refine eV rfl (xP rfl rfl) rfl ?_
         refine eV rfl (xP rfl rfl) rfl ?_
         refine eN ?_
         refine tN ?_
         refine eF rfl ?_
         refine eI ?_
         refine tN ?_
         refine eS ?_
         refine eR rfl ?_
         refine eV rfl (xN rfl (hst.get 4 rfl) (n := 4) (vs := [_, _, _, _]) (by kernel_rfl) (Nat.le_of_ble_eq_true rfl) rfl) rfl ?_
         refine oC rfl (xC rfl rfl rfl (by kernel_rfl)) (fun _ => rfl) (w_copied hG h (few_of (eq0 (notB_f h16))) hst) ?_
         rintro _ σ ⟨u1, M1, b6, us2, M2, b7, us3, M3, b8, us4, M4, rfl, hO, hst⟩
         have hOt := hO.threads
         have hOf := hO.from_
         have hOo := hO.order
         refine oP hst rfl (xe (cs := [.nilSlice, .nilSlice, .nilSlice, .nilSlice]) (by kernel_rfl) (by kernel_rfl)) (fun _ => rfl) (fun σ b9 hst => ?_)
         refine o_set0 hst rfl (xS rfl rfl rfl (hst.get 0 rfl) (m := 4) (by kernel_rfl) rfl (Nat.le_of_ble_eq_true rfl) (lC hO.init.leaf.2 (lC rfl (lC rfl (lC rfl l0_)))) (cells' := [_, _, _, _]) rfl) rfl (fun σ hst => ?_)
         refine eN ?_
         refine tN ?_
         refine eS ?_
         refine eP (l := [(0, []), (1, []), (2, []), (3, []), (4, []), (5, []), (6, []), (7, []), (8, []), (9, []), (10, []), (11, []), (12, [1]), (13, []), (14, [])]) (by kernel_rfl) (by kernel_rfl) ?_
         refine pV rfl rfl (xF rfl (k := 1) (by kernel_rfl)) rfl ?_
         refine pV rfl rfl (x1_ rfl (hst.get 0 rfl) (by kernel_rfl) rfl) rfl ?_
         refine pV rfl rfl (xM rfl) rfl ?_
         refine pV rfl rfl (xB rfl rfl rfl) rfl ?_
         refine pV rfl rfl (xF rfl (k := 1) (by kernel_rfl)) rfl ?_
         refine pV rfl rfl (x1_ rfl (hst.get 0 rfl) (by kernel_rfl) rfl) rfl ?_
         refine pV rfl rfl (xM rfl) rfl ?_
         refine pV rfl rfl (xB rfl rfl rfl) rfl ?_
         obtain ⟨utt, Mtt, At, Bt, hutt, hOtt, hMMt, hsett⟩ := hOt.at hx33
         subst hMMt
         refine pV rfl rfl (x_idx (e := 61) (m := 1) rfl (by kernel_rfl) rfl (congrArg (fun z => some (AV.int .i64 z)) (wr_pred (by have := ht.len_le; omega))) (show tm < g.threads.length from (List.getElem?_eq_some_iff.1 hx33).1)) rfl ?_
         refine pV rfl rfl (x1_ rfl (hst.pop.pops.pop.pops.pop.pops.get 0 rfl) (by kernel_rfl) (by rw [nth_eq, show 0 + tm * 1 = tm from by omega]; exact hutt)) rfl ?_
         refine pV rfl rfl (xN rfl (hst.pop.pops.pop.pops.pop.pops.pop.pops.pop.pop.pop.get 0 rfl) (n := 5) (vs := [_, _, _, _, _]) (by kernel_rfl) (Nat.le_of_ble_eq_true rfl) rfl) rfl ?_
         refine p_mk hst rfl rfl (x_buildS (e := 45) (m := 5) (z := [.int .i64 0, .int .i64 0, .int .i64 0, .int .i64 0, .int .i64 0]) (cs := [_, _, _, _, _]) (by kernel_rfl) (by kernel_rfl) (by kernel_rfl) (by kernel_rfl) (fillA_cons rfl rfl rfl rfl fillA_nil)) (fun _ => rfl) (fun σ b10 hst => ?_)
         have hpl := (hst.pull (X := Mtt) (.there (.there (.seg (.there (.seg (.there OwnIn.inSeg))))))).perm List.perm_middle
         obtain ⟨σ, ut2t, Mt2t, happ, hOt2t, hst⟩ := ownS_append (P := Try.prog) (ts := #[61, 61]) (t := 61) (e := 45) hOtt hpl (hasS_oneR (R := REv) (x := e) (m := 5) rfl rfl (.inr ⟨rfl, rfl⟩)) REv.leaf (by simp) (by simp) (by have := (check_bounds (eq0 (notB_f h16))).2.2.1 _ (List.mem_of_getElem? hx33); omega) rfl (by kernel_rfl) (by kernel_rfl) (by kernel_rfl)
         refine pW rfl rfl (x_appendOp rfl rfl rfl rfl (by kernel_rfl) happ) rfl ?_
         replace hst := hst.push (.there (.seg (.there (.seg (.there OwnIn.inSeg)))))
         refine ⟨(sC (sR rfl rfl rfl rfl rfl (x1_ rfl (hst.get 0 rfl) (by kernel_rfl) rfl) (beqA_sl _ _ _ _)) s0), ?_⟩
         refine pV rfl rfl (x_idx (e := 61) (m := 1) rfl (by kernel_rfl) rfl (congrArg (fun z => some (AV.int .i64 z)) (wr_pred (by have := ht.len_le; omega))) (show tm < g.threads.length from (List.getElem?_eq_some_iff.1 hx33).1)) rfl ?_
         have hltt := (List.getElem?_eq_some_iff.1 hutt).1
         refine p_setU hst (.there (.seg (.there (.seg (.there (.seg .here)))))) rfl rfl (x_storeS rfl rfl hOt2t.leaf.1 (hst.pop.pops.pop.pops.pop.pops.get 0 rfl) (m := 1) (by kernel_rfl) rfl (by omega) (lC hOt2t.leaf.2 rfl)) rfl (fun σ hst => ?_)
         refine ⟨s0, ?_⟩
         rw [splice_set hltt] at hst
         have hO2t := hsett _ _ _ hOt2t
         refine pN ?_
         refine tN ?_
         refine eS ?_
         refine eP (l := [(0, []), (1, []), (2, []), (3, []), (4, []), (5, []), (6, []), (7, []), (8, []), (9, []), (10, []), (11, []), (12, [1]), (13, []), (14, [])]) (by kernel_rfl) (by kernel_rfl) ?_
         refine pV rfl rfl (xF rfl (k := 2) (by kernel_rfl)) rfl ?_
         refine pV rfl rfl (x1_ rfl (hst.get 0 rfl) (by kernel_rfl) rfl) rfl ?_
         refine pV rfl rfl (xM rfl) rfl ?_
         refine pV rfl rfl (xB rfl rfl rfl) rfl ?_
         refine pV rfl rfl (xF rfl (k := 2) (by kernel_rfl)) rfl ?_
         refine pV rfl rfl (x1_ rfl (hst.get 0 rfl) (by kernel_rfl) rfl) rfl ?_
         refine pV rfl rfl (xM rfl) rfl ?_
         refine pV rfl rfl (xB rfl rfl rfl) rfl ?_
         obtain ⟨utf, Mtf, Af, Bf, hutf, hOtf, hMMf, hsetf⟩ := hOf.at hxf
         subst hMMf
         refine pV rfl rfl (x_idx (e := 62) (m := 1) rfl (by kernel_rfl) rfl (congrArg (fun z => some (AV.int .i64 z)) (wr_pred (by have := ht.len_le; omega))) (show tm < g.from_.length from (List.getElem?_eq_some_iff.1 hxf).1)) rfl ?_
         refine pV rfl rfl (x1_ rfl (hst.pop.pops.pop.pops.get 0 rfl) (by kernel_rfl) (by rw [nth_eq, show 0 + tm * 1 = tm from by omega]; exact hutf)) rfl ?_
         refine pV rfl rfl (xN rfl (hst.pop.pops.pop.pops.pop.pops.pop.pops.pop.pop.get 0 rfl) (n := 2) (vs := [_, _]) (by kernel_rfl) (Nat.le_of_ble_eq_true rfl) rfl) rfl ?_
         refine p_mk hst rfl rfl (x_buildS (e := 47) (m := 2) (z := [.int .i64 0, .int .i64 0]) (cs := [_, _]) (by kernel_rfl) (by kernel_rfl) (by kernel_rfl) (by kernel_rfl) (fillA_cons rfl rfl rfl rfl fillA_nil)) (fun _ => rfl) (fun σ b11 hst => ?_)
         have hpl := (hst.pull (X := Mtf) (.there (.there (.seg (.there OwnIn.inSeg))))).perm List.perm_middle
         obtain ⟨σ, ut2f, Mt2f, happ, hOt2f, hst⟩ := ownS_append (P := Try.prog) (ts := #[62, 62]) (t := 62) (e := 47) hOtf hpl (hasS_oneR (R := RId) (x := fr) (m := 2) rfl rfl (.inr ⟨rfl, rfl⟩)) RId.leaf (by simp) (by simp) (by have := rowsB_le (check_bounds (eq0 (notB_f h16))).2.2.2.2.2.1 (check_bounds (eq0 (notB_f h16))).2.2.2.1 (check_bounds (eq0 (notB_f h16))).2.2.1 _ (List.mem_of_getElem? hxf); omega) rfl (by kernel_rfl) (by kernel_rfl) (by kernel_rfl)
         refine pW rfl rfl (x_appendOp rfl rfl rfl rfl (by kernel_rfl) happ) rfl ?_
         replace hst := hst.push (.there (.seg (.there OwnIn.inSeg)))
         refine ⟨(sC (sR rfl rfl rfl rfl rfl (x1_ rfl (hst.get 0 rfl) (by kernel_rfl) rfl) (beqA_sl _ _ _ _)) s0), ?_⟩
         refine pV rfl rfl (x_idx (e := 62) (m := 1) rfl (by kernel_rfl) rfl (congrArg (fun z => some (AV.int .i64 z)) (wr_pred (by have := ht.len_le; omega))) (show tm < g.from_.length from (List.getElem?_eq_some_iff.1 hxf).1)) rfl ?_
         have hltf := (List.getElem?_eq_some_iff.1 hutf).1
         refine p_setU hst (.there (.seg (.there (.seg .here)))) rfl rfl (x_storeS rfl rfl hOt2f.leaf.1 (hst.pop.pops.pop.pops.get 0 rfl) (m := 1) (by kernel_rfl) rfl (by omega) (lC hOt2f.leaf.2 rfl)) rfl (fun σ hst => ?_)
         refine ⟨s0, ?_⟩
         rw [splice_set hltf] at hst
         have hO2f := hsetf _ _ _ hOt2f
         refine pN ?_
         refine tN ?_
         refine eS ?_
         refine eS ?_
         refine eR rfl ?_
         refine eV rfl (xN rfl (hst.pop.pops.pop.pops.pop.pops.pop.pops.pop.pop.pop.get 0 rfl) (n := 5) (vs := [_, _, _, _, _]) (by kernel_rfl) (Nat.le_of_ble_eq_true rfl) rfl) rfl ?_
         refine oV rfl (xC rfl rfl rfl (by kernel_rfl)) (fun _ => rfl) (w_writes hG _ hst) (fun σ hst => ?_)
         refine eN ?_
         refine tN ?_
         refine e2_ rfl (fun h97 => ?_) (fun h97 => ?_)
         ·refine eP (l := [(0, []), (1, []), (2, []), (3, []), (4, []), (5, []), (6, []), (7, []), (8, []), (9, []), (10, []), (11, []), (12, []), (13, []), (14, [1, 3]), (15, []), (16, [])]) (by kernel_rfl) (by kernel_rfl) ?_
          refine pV rfl rfl (xF rfl (k := 3) (by kernel_rfl)) rfl ?_
          refine pV rfl rfl (x1_ rfl (hst.get 0 rfl) (by kernel_rfl) rfl) rfl ?_
          refine pV rfl rfl (xF rfl (k := 1) (by kernel_rfl)) rfl ?_
          refine pV rfl rfl (x1_ rfl (hst.pop.pops.pop.pops.pop.pops.pop.pops.pop.pop.pop.get 0 rfl) (by kernel_rfl) rfl) rfl ?_
          refine pV rfl rfl (xF rfl (k := 3) (by kernel_rfl)) rfl ?_
          refine pV rfl rfl (x1_ rfl (hst.get 0 rfl) (by kernel_rfl) rfl) rfl ?_
          refine pV rfl rfl (xF rfl (k := 1) (by kernel_rfl)) rfl ?_
          refine pV rfl rfl (x1_ rfl (hst.pop.pops.pop.pops.pop.pops.pop.pops.pop.pop.pop.get 0 rfl) (by kernel_rfl) rfl) rfl ?_
          obtain ⟨pm, rfl⟩ := pos_of h46
          have hpl56 : pm + 1 ≤ (writesG g e.loc).length := lt_no h56
          obtain ⟨ln, xo, hloc, hxo, hwl⟩ := writes_pos (show 1 ≤ (writesG g e.loc).length from by omega)
          have hpm : pm ≤ xo.length := by omega
          have hxo56 := order_le (eq0 (notB_f h16)) _ (List.mem_of_getElem? hxo)
          obtain ⟨uto, Mto, Ao, Bo, huto, hOto, hMMo, hseto⟩ := hOo.at hxo
          subst hMMo
          refine pV rfl rfl (x_idx (e := 62) (m := 1) rfl (by kernel_rfl) rfl (congrArg (fun z => some (AV.int .i64 z)) hloc) (show ln < g.order.length from (List.getElem?_eq_some_iff.1 hxo).1)) rfl ?_
          refine pV rfl rfl (x1_ rfl (hst.pop.pops.get 0 rfl) (by kernel_rfl) (by rw [nth_eq, show 0 + ln * 1 = ln from by omega]; exact huto)) rfl ?_
          refine pV rfl rfl (xM rfl) rfl ?_
          refine pV rfl rfl (xB rfl rfl rfl) rfl ?_
          refine pV rfl rfl (xN rfl (hst.pop.pops.pop.pops.pop.pops.pop.pops.get 0 rfl) (n := 2) (vs := [_, _]) (by kernel_rfl) (Nat.le_of_ble_eq_true rfl) rfl) rfl ?_
          refine p_mk hst rfl rfl (x_buildS (e := 47) (m := 2) (z := [.int .i64 0, .int .i64 0]) (cs := [_, _]) (by kernel_rfl) (by kernel_rfl) (by kernel_rfl) (by kernel_rfl) (fillA_cons rfl rfl rfl rfl fillA_nil)) (fun _ => rfl) (fun σ b12 hst => ?_)
          have hpl := ((hst.pull (X := Mto) (.there (.there OwnIn.inSeg))).perm List.perm_middle).keep
          refine pc rfl rfl (xC rfl rfl rfl (by kernel_rfl)) (fun _ => rfl) (by rw [wr_pred (by omega)]; exact w_Insert hG hfk hov (x := ⟨.ofNat (tm + 1), .ofNat x33.length⟩) (i := pm) (.inr ⟨rfl, rfl⟩) hOto hpm (by omega) hpl) ?_
          rintro ut2o σ ⟨Mt2o, hOt2o, hst⟩
          replace hst := (hst.weaken (KP.le_add _ _ _)).push (.there OwnIn.inSeg)
          refine ⟨(sC (sR rfl rfl rfl rfl rfl (x1_ rfl (hst.get 0 rfl) (by kernel_rfl) rfl) (beqA_sl _ _ _ _)) (sC (sR rfl rfl rfl rfl rfl (x1_ rfl (hst.pop.pops.pop.pops.pop.pops.pop.pops.pop.pop.pop.get 0 rfl) (by kernel_rfl) rfl) (beqA_int _ _)) s0)), ?_⟩
          refine pV rfl rfl (x_idx (e := 62) (m := 1) rfl (by kernel_rfl) rfl (congrArg (fun z => some (AV.int .i64 z)) hloc) (show ln < g.order.length from (List.getElem?_eq_some_iff.1 hxo).1)) rfl ?_
          have hlto := (List.getElem?_eq_some_iff.1 huto).1
          refine p_setU hst (.there (.seg .here)) rfl rfl (x_storeS rfl rfl hOt2o.leaf.1 (hst.pop.pops.get 0 rfl) (m := 1) (by kernel_rfl) rfl (by omega) (lC hOt2o.leaf.2 rfl)) rfl (fun σ hst => ?_)
          refine ⟨s0, ?_⟩
          rw [splice_set hlto] at hst
          have hO2o := hseto _ _ _ hOt2o
          refine pN ?_
          refine tN ?_
          refine eS ?_
          refine eS ?_
          refine eR rfl ?_
          refine eV rfl (xN rfl (hst.get 0 rfl) (n := 4) (vs := [_, _, _, _]) (by kernel_rfl) (Nat.le_of_ble_eq_true rfl) rfl) rfl ?_
          have hfew := few_of (eq0 (notB_f h16))
          replace hst := hst.app (.there (.seg (.there (.seg (.there (.seg (.there (.seg (.there (.there (.there (.there (.there .base)))))))))))))
          refine oV rfl (xC rfl rfl rfl (by kernel_rfl)) (fun _ => rfl) (check_lent hG hst (hasG_of (g := (⟨g.init, g.threads.set tm (x33 ++ [e]), g.from_.set tm (xf ++ [fr]), g.order.set ln (xo.take pm ++ ⟨.ofNat (tm + 1), .ofNat x33.length⟩ :: xo.drop pm)⟩ : XG)) hO.init hO2t hO2f hO2o (fun y hy => .inr (by simp [hy])) (fun y hy => .inr (by rcases List.mem_append.1 hy with hy | hy; (simp [hy]); rcases List.mem_append.1 hy with hy | hy <;> simp [hy])) (fun y hy => .inr (by rcases List.mem_append.1 hy with hy | hy; (simp [hy]); rcases List.mem_append.1 hy with hy | hy <;> simp [hy])) (fun y hy => .inr (by rcases List.mem_append.1 hy with hy | hy; (simp [hy]); rcases List.mem_append.1 hy with hy | hy <;> simp [hy])) (.inr (by simp)) (.inr (by simp)) (.inr (by simp)) (by simp) (by simp) (by simp) (by have h1 := hfew.2.1; have h2 := hfew.2.2.2.1; have h3 := hfew.2.2.2.2.2.1; simp; omega) (by have h1 := hfew.2.1; have h2 := hfew.2.2.2.1; have h3 := hfew.2.2.2.2.2.1; simp; omega) (by have h1 := hfew.2.1; have h2 := hfew.2.2.2.1; have h3 := hfew.2.2.2.2.2.1; simp; omega))) (fun σ hst => ?_)
          replace hst := hst.unapp (.there (.seg (.there (.seg (.there (.seg (.there (.seg (.there (.there (.there (.there (.there .base)))))))))))))
          refine eV rfl (xB rfl rfl rfl) rfl ?_
          refine eN ?_
          refine tN ?_
          refine e2_ rfl (fun h116 => ?_) (fun h116 => ?_)
          ·refine eS ?_
           refine eR rfl ?_
           refine eV rfl (xb_ (places := [(0, 1), (1, 1), (2, 1), (3, 1)]) (zero := [.nilSlice, .nilSlice, .nilSlice, .nilSlice]) (cs := [_, _, _, _]) (by kernel_rfl) (by kernel_rfl) (by kernel_rfl) rfl (by kernel_rfl)) rfl ?_
           refine o_setU hst (.there (.seg (.there (.seg (.there (.seg (.there (.seg (.there .here))))))))) rfl (xS rfl rfl rfl (hst.pop.pops.pop.pops.pop.pops.pop.pops.pop.get 0 rfl) (m := 4) (by kernel_rfl) rfl (Nat.le_of_ble_eq_true rfl) (lC rfl (lC rfl (lC rfl (lC rfl l0_)))) (cells' := [_, _, _, _]) rfl) rfl (fun σ hst => ?_)
           refine eV rfl (xA rfl) rfl ?_
           refine eN ?_
           refine tN ?_
           refine eT ?_
           refine tR (?_)
           exact rc_ rfl rfl (hst.pop.pops.pop.pops.pop.pops.pop.pops.pop.get 0 rfl) (m := 4) (by kernel_rfl) rfl rfl (.inl ⟨_, by rw [addG_at (notB_f h16) hx33 hxf, show ltI (.ofNat x33.length) 14 = true from notB_f h39]; show (bif badPlace g e (.ofNat (pm + 1)) then _ else _) = _; rw [show badPlace g e (.ofNat (pm + 1)) = false from by unfold badPlace; rw [h43]; show (bif ltI (.ofNat (pm + 1)) 1 then true else _) = false; rw [h46]; exact h56]; show (bif eqI (checkI (grownG g tm e fr (.ofNat (pm + 1)) x33 xf)) 0 then _ else _) = _; rw [grown_w (pm := pm) (fr := fr) (row := x33) (frow := xf) (tm := tm) h97 hloc hxo, notB_t h116]; rfl, rfl, hst.pop.pops.pop.pops.pop.pops.pop.pops.pop.pop.pop.pop.pop⟩)
          ·refine eI ?_
           refine tN ?_
           refine eS ?_
           refine eR rfl ?_
           refine eV rfl (xN rfl (hst.get 0 rfl) (n := 4) (vs := [_, _, _, _]) (by kernel_rfl) (Nat.le_of_ble_eq_true rfl) rfl) rfl ?_
           refine o_setU hst (.there (.seg (.there (.seg (.there (.seg (.there (.seg (.there .here))))))))) rfl (xS rfl rfl rfl (hst.pop.pops.pop.pops.pop.pops.pop.pops.pop.get 0 rfl) (m := 4) (by kernel_rfl) rfl (Nat.le_of_ble_eq_true rfl) (lC hO.init.leaf.2 (lC rfl (lC rfl (lC rfl l0_)))) (cells' := [_, _, _, _]) rfl) rfl (fun σ hst => ?_)
           refine eV rfl (xA rfl) rfl ?_
           refine eN ?_
           refine tN ?_
           refine eT ?_
           exact rc_ rfl rfl (hst.pop.pops.pop.pops.pop.pops.pop.pops.pop.get 0 rfl) (m := 4) (by kernel_rfl) rfl rfl (add_ok (by rw [addG_at (notB_f h16) hx33 hxf, show ltI (.ofNat x33.length) 14 = true from notB_f h39]; show (bif badPlace g e (.ofNat (pm + 1)) then _ else _) = _; rw [show badPlace g e (.ofNat (pm + 1)) = false from by unfold badPlace; rw [h43]; show (bif ltI (.ofNat (pm + 1)) 1 then true else _) = false; rw [h46]; exact h56]; show (bif eqI (checkI (grownG g tm e fr (.ofNat (pm + 1)) x33 xf)) 0 then _ else _) = _; rw [grown_w (pm := pm) (fr := fr) (row := x33) (frow := xf) (tm := tm) h97 hloc hxo, notB_f h116]; rfl) (hst.app (.there (.seg (.there (.seg (.there (.seg (.there (.seg (.there (.there (.there (.there (.there .base)))))))))))))) (hasG_of (g := (⟨g.init, g.threads.set tm (x33 ++ [e]), g.from_.set tm (xf ++ [fr]), g.order.set ln (xo.take pm ++ ⟨.ofNat (tm + 1), .ofNat x33.length⟩ :: xo.drop pm)⟩ : XG)) hO.init hO2t hO2f hO2o (fun y hy => .inr (by simp [hy])) (fun y hy => .inr (by rcases List.mem_append.1 hy with hy | hy; (simp [hy]); rcases List.mem_append.1 hy with hy | hy <;> simp [hy])) (fun y hy => .inr (by rcases List.mem_append.1 hy with hy | hy; (simp [hy]); rcases List.mem_append.1 hy with hy | hy <;> simp [hy])) (fun y hy => .inr (by rcases List.mem_append.1 hy with hy | hy; (simp [hy]); rcases List.mem_append.1 hy with hy | hy <;> simp [hy])) (.inr (by simp)) (.inr (by simp)) (.inr (by simp)) (by simp) (by simp) (by simp) (by have h1 := hfew.2.1; have h2 := hfew.2.2.2.1; have h3 := hfew.2.2.2.2.2.1; simp; omega) (by have h1 := hfew.2.1; have h2 := hfew.2.2.2.1; have h3 := hfew.2.2.2.2.2.1; simp; omega) (by have h1 := hfew.2.1; have h2 := hfew.2.2.2.1; have h3 := hfew.2.2.2.2.2.1; simp; omega)))
         ·exact absurd h43 (by rw [h97]; decide)
     ·refine eU rfl rfl ?_
      refine eU rfl rfl ?_
      refine eU rfl rfl ?_
      refine eU rfl rfl ?_
      refine eU rfl rfl ?_
      refine eU rfl rfl ?_
      refine eU rfl rfl ?_
      refine eU rfl rfl ?_
      refine eU rfl rfl ?_
      refine eU rfl rfl ?_
      refine eU rfl rfl ?_
      refine eV rfl (xP rfl rfl) rfl ?_
      refine eV rfl (xM rfl) rfl ?_
      refine eV rfl (xN rfl (hst.get 3 rfl) (n := 5) (vs := [_, _, _, _, _]) (by kernel_rfl) (Nat.le_of_ble_eq_true rfl) rfl) rfl ?_
      refine oV rfl (xC rfl rfl rfl (by kernel_rfl)) (fun _ => rfl) (w_writes hG _ hst) (fun σ hst => ?_)
      refine eV rfl (xn rfl) rfl ?_
      refine oS rfl (xM rfl) (fun _ => rfl) (fun h60 => ?_) (fun h60 => ?_)
      ·refine eV rfl (xM rfl) rfl ?_
       refine eV rfl (xB rfl rfl rfl) rfl ?_
       refine eV rfl (xP rfl rfl) rfl ?_
       refine eV rfl (xP rfl rfl) rfl ?_
       refine eN ?_
       refine tN ?_
       refine e2_ rfl (fun h64 => ?_) (fun h64 => ?_)
       ·refine eS ?_
        refine eR rfl ?_
        refine eV rfl (xb_ (places := [(0, 1), (1, 1), (2, 1), (3, 1)]) (zero := [.nilSlice, .nilSlice, .nilSlice, .nilSlice]) (cs := [_, _, _, _]) (by kernel_rfl) (by kernel_rfl) (by kernel_rfl) rfl (by kernel_rfl)) rfl ?_
        refine o_set1 hst rfl (xS rfl rfl rfl (hst.get 1 rfl) (m := 4) (by kernel_rfl) rfl (Nat.le_of_ble_eq_true rfl) (lC rfl (lC rfl (lC rfl (lC rfl l0_)))) (cells' := [_, _, _, _]) rfl) rfl (fun σ hst => ?_)
        refine eV rfl (xA rfl) rfl ?_
        refine eN ?_
        refine tN ?_
        refine eT ?_
        refine tR (?_)
        exact rc_ rfl rfl (hst.get 1 rfl) (m := 4) (by kernel_rfl) rfl rfl (.inl ⟨_, by rw [addG_at (notB_f h16) hx33 hxf, show ltI (.ofNat x33.length) 14 = true from notB_f h39]; show (bif badPlace g e pl then _ else _) = _; rw [show badPlace g e pl = true from by unfold badPlace; rw [h43]; show (!eqI pl 0) = true; rw [notB_t h64]; rfl]; rfl, rfl, hst.pop.pop.pop.pop.pop⟩)
       ·refine eI ?_
        refine tN ?_
        refine eS ?_
        refine eR rfl ?_
        refine eV rfl (xN rfl (hst.get 4 rfl) (n := 4) (vs := [_, _, _, _]) (by kernel_rfl) (Nat.le_of_ble_eq_true rfl) rfl) rfl ?_
        refine oC rfl (xC rfl rfl rfl (by kernel_rfl)) (fun _ => rfl) (w_copied hG h (few_of (eq0 (notB_f h16))) hst) ?_
        rintro _ σ ⟨u1, M1, b6, us2, M2, b7, us3, M3, b8, us4, M4, rfl, hO, hst⟩
        have hOt := hO.threads
        have hOf := hO.from_
        have hOo := hO.order
        refine oP hst rfl (xe (cs := [.nilSlice, .nilSlice, .nilSlice, .nilSlice]) (by kernel_rfl) (by kernel_rfl)) (fun _ => rfl) (fun σ b9 hst => ?_)
        refine o_set0 hst rfl (xS rfl rfl rfl (hst.get 0 rfl) (m := 4) (by kernel_rfl) rfl (Nat.le_of_ble_eq_true rfl) (lC hO.init.leaf.2 (lC rfl (lC rfl (lC rfl l0_)))) (cells' := [_, _, _, _]) rfl) rfl (fun σ hst => ?_)
        refine eN ?_
        refine tN ?_
        refine eS ?_
        refine eP (l := [(0, []), (1, []), (2, []), (3, []), (4, []), (5, []), (6, []), (7, []), (8, []), (9, []), (10, []), (11, []), (12, [1]), (13, []), (14, [])]) (by kernel_rfl) (by kernel_rfl) ?_
        refine pV rfl rfl (xF rfl (k := 1) (by kernel_rfl)) rfl ?_
        refine pV rfl rfl (x1_ rfl (hst.get 0 rfl) (by kernel_rfl) rfl) rfl ?_
        refine pV rfl rfl (xM rfl) rfl ?_
        refine pV rfl rfl (xB rfl rfl rfl) rfl ?_
        refine pV rfl rfl (xF rfl (k := 1) (by kernel_rfl)) rfl ?_
        refine pV rfl rfl (x1_ rfl (hst.get 0 rfl) (by kernel_rfl) rfl) rfl ?_
        refine pV rfl rfl (xM rfl) rfl ?_
        refine pV rfl rfl (xB rfl rfl rfl) rfl ?_
        obtain ⟨utt, Mtt, At, Bt, hutt, hOtt, hMMt, hsett⟩ := hOt.at hx33
        subst hMMt
        refine pV rfl rfl (x_idx (e := 61) (m := 1) rfl (by kernel_rfl) rfl (congrArg (fun z => some (AV.int .i64 z)) (wr_pred (by have := ht.len_le; omega))) (show tm < g.threads.length from (List.getElem?_eq_some_iff.1 hx33).1)) rfl ?_
        refine pV rfl rfl (x1_ rfl (hst.pop.pops.pop.pops.pop.pops.get 0 rfl) (by kernel_rfl) (by rw [nth_eq, show 0 + tm * 1 = tm from by omega]; exact hutt)) rfl ?_
        refine pV rfl rfl (xN rfl (hst.pop.pops.pop.pops.pop.pops.pop.pops.pop.pop.pop.get 0 rfl) (n := 5) (vs := [_, _, _, _, _]) (by kernel_rfl) (Nat.le_of_ble_eq_true rfl) rfl) rfl ?_
        refine p_mk hst rfl rfl (x_buildS (e := 45) (m := 5) (z := [.int .i64 0, .int .i64 0, .int .i64 0, .int .i64 0, .int .i64 0]) (cs := [_, _, _, _, _]) (by kernel_rfl) (by kernel_rfl) (by kernel_rfl) (by kernel_rfl) (fillA_cons rfl rfl rfl rfl fillA_nil)) (fun _ => rfl) (fun σ b10 hst => ?_)
        have hpl := (hst.pull (X := Mtt) (.there (.there (.seg (.there (.seg (.there OwnIn.inSeg))))))).perm List.perm_middle
        obtain ⟨σ, ut2t, Mt2t, happ, hOt2t, hst⟩ := ownS_append (P := Try.prog) (ts := #[61, 61]) (t := 61) (e := 45) hOtt hpl (hasS_oneR (R := REv) (x := e) (m := 5) rfl rfl (.inr ⟨rfl, rfl⟩)) REv.leaf (by simp) (by simp) (by have := (check_bounds (eq0 (notB_f h16))).2.2.1 _ (List.mem_of_getElem? hx33); omega) rfl (by kernel_rfl) (by kernel_rfl) (by kernel_rfl)
        refine pW rfl rfl (x_appendOp rfl rfl rfl rfl (by kernel_rfl) happ) rfl ?_
        replace hst := hst.push (.there (.seg (.there (.seg (.there OwnIn.inSeg)))))
        refine ⟨(sC (sR rfl rfl rfl rfl rfl (x1_ rfl (hst.get 0 rfl) (by kernel_rfl) rfl) (beqA_sl _ _ _ _)) s0), ?_⟩
        refine pV rfl rfl (x_idx (e := 61) (m := 1) rfl (by kernel_rfl) rfl (congrArg (fun z => some (AV.int .i64 z)) (wr_pred (by have := ht.len_le; omega))) (show tm < g.threads.length from (List.getElem?_eq_some_iff.1 hx33).1)) rfl ?_
        have hltt := (List.getElem?_eq_some_iff.1 hutt).1
        refine p_setU hst (.there (.seg (.there (.seg (.there (.seg .here)))))) rfl rfl (x_storeS rfl rfl hOt2t.leaf.1 (hst.pop.pops.pop.pops.pop.pops.get 0 rfl) (m := 1) (by kernel_rfl) rfl (by omega) (lC hOt2t.leaf.2 rfl)) rfl (fun σ hst => ?_)
        refine ⟨s0, ?_⟩
        rw [splice_set hltt] at hst
        have hO2t := hsett _ _ _ hOt2t
        refine pN ?_
        refine tN ?_
        refine eS ?_
        refine eP (l := [(0, []), (1, []), (2, []), (3, []), (4, []), (5, []), (6, []), (7, []), (8, []), (9, []), (10, []), (11, []), (12, [1]), (13, []), (14, [])]) (by kernel_rfl) (by kernel_rfl) ?_
        refine pV rfl rfl (xF rfl (k := 2) (by kernel_rfl)) rfl ?_
        refine pV rfl rfl (x1_ rfl (hst.get 0 rfl) (by kernel_rfl) rfl) rfl ?_
        refine pV rfl rfl (xM rfl) rfl ?_
        refine pV rfl rfl (xB rfl rfl rfl) rfl ?_
        refine pV rfl rfl (xF rfl (k := 2) (by kernel_rfl)) rfl ?_
        refine pV rfl rfl (x1_ rfl (hst.get 0 rfl) (by kernel_rfl) rfl) rfl ?_
        refine pV rfl rfl (xM rfl) rfl ?_
        refine pV rfl rfl (xB rfl rfl rfl) rfl ?_
        obtain ⟨utf, Mtf, Af, Bf, hutf, hOtf, hMMf, hsetf⟩ := hOf.at hxf
        subst hMMf
        refine pV rfl rfl (x_idx (e := 62) (m := 1) rfl (by kernel_rfl) rfl (congrArg (fun z => some (AV.int .i64 z)) (wr_pred (by have := ht.len_le; omega))) (show tm < g.from_.length from (List.getElem?_eq_some_iff.1 hxf).1)) rfl ?_
        refine pV rfl rfl (x1_ rfl (hst.pop.pops.pop.pops.get 0 rfl) (by kernel_rfl) (by rw [nth_eq, show 0 + tm * 1 = tm from by omega]; exact hutf)) rfl ?_
        refine pV rfl rfl (xN rfl (hst.pop.pops.pop.pops.pop.pops.pop.pops.pop.pop.get 0 rfl) (n := 2) (vs := [_, _]) (by kernel_rfl) (Nat.le_of_ble_eq_true rfl) rfl) rfl ?_
        refine p_mk hst rfl rfl (x_buildS (e := 47) (m := 2) (z := [.int .i64 0, .int .i64 0]) (cs := [_, _]) (by kernel_rfl) (by kernel_rfl) (by kernel_rfl) (by kernel_rfl) (fillA_cons rfl rfl rfl rfl fillA_nil)) (fun _ => rfl) (fun σ b11 hst => ?_)
        have hpl := (hst.pull (X := Mtf) (.there (.there (.seg (.there OwnIn.inSeg))))).perm List.perm_middle
        obtain ⟨σ, ut2f, Mt2f, happ, hOt2f, hst⟩ := ownS_append (P := Try.prog) (ts := #[62, 62]) (t := 62) (e := 47) hOtf hpl (hasS_oneR (R := RId) (x := fr) (m := 2) rfl rfl (.inr ⟨rfl, rfl⟩)) RId.leaf (by simp) (by simp) (by have := rowsB_le (check_bounds (eq0 (notB_f h16))).2.2.2.2.2.1 (check_bounds (eq0 (notB_f h16))).2.2.2.1 (check_bounds (eq0 (notB_f h16))).2.2.1 _ (List.mem_of_getElem? hxf); omega) rfl (by kernel_rfl) (by kernel_rfl) (by kernel_rfl)
        refine pW rfl rfl (x_appendOp rfl rfl rfl rfl (by kernel_rfl) happ) rfl ?_
        replace hst := hst.push (.there (.seg (.there OwnIn.inSeg)))
        refine ⟨(sC (sR rfl rfl rfl rfl rfl (x1_ rfl (hst.get 0 rfl) (by kernel_rfl) rfl) (beqA_sl _ _ _ _)) s0), ?_⟩
        refine pV rfl rfl (x_idx (e := 62) (m := 1) rfl (by kernel_rfl) rfl (congrArg (fun z => some (AV.int .i64 z)) (wr_pred (by have := ht.len_le; omega))) (show tm < g.from_.length from (List.getElem?_eq_some_iff.1 hxf).1)) rfl ?_
        have hltf := (List.getElem?_eq_some_iff.1 hutf).1
        refine p_setU hst (.there (.seg (.there (.seg .here)))) rfl rfl (x_storeS rfl rfl hOt2f.leaf.1 (hst.pop.pops.pop.pops.get 0 rfl) (m := 1) (by kernel_rfl) rfl (by omega) (lC hOt2f.leaf.2 rfl)) rfl (fun σ hst => ?_)
        refine ⟨s0, ?_⟩
        rw [splice_set hltf] at hst
        have hO2f := hsetf _ _ _ hOt2f
        refine pN ?_
        refine tN ?_
        refine eS ?_
        refine eS ?_
        refine eR rfl ?_
        refine eV rfl (xN rfl (hst.pop.pops.pop.pops.pop.pops.pop.pops.pop.pop.pop.get 0 rfl) (n := 5) (vs := [_, _, _, _, _]) (by kernel_rfl) (Nat.le_of_ble_eq_true rfl) rfl) rfl ?_
        refine oV rfl (xC rfl rfl rfl (by kernel_rfl)) (fun _ => rfl) (w_writes hG _ hst) (fun σ hst => ?_)
        refine eN ?_
        refine tN ?_
        refine e2_ rfl (fun h97 => ?_) (fun h97 => ?_)
        ·exact absurd h43 (by rw [h97]; decide)
        ·refine eI ?_
         refine tN ?_
         refine eS ?_
         refine eS ?_
         refine eR rfl ?_
         refine eV rfl (xN rfl (hst.get 0 rfl) (n := 4) (vs := [_, _, _, _]) (by kernel_rfl) (Nat.le_of_ble_eq_true rfl) rfl) rfl ?_
         have hfew := few_of (eq0 (notB_f h16))
         replace hst := hst.app (.there (.seg (.there (.seg (.there (.seg (.there (.seg (.there (.there (.there (.there (.there .base)))))))))))))
         refine oV rfl (xC rfl rfl rfl (by kernel_rfl)) (fun _ => rfl) (check_lent hG hst (hasG_of (g := (⟨g.init, g.threads.set tm (x33 ++ [e]), g.from_.set tm (xf ++ [fr]), g.order⟩ : XG)) hO.init hO2t hO2f hOo (fun y hy => .inr (by simp [hy])) (fun y hy => .inr (by rcases List.mem_append.1 hy with hy | hy; (simp [hy]); rcases List.mem_append.1 hy with hy | hy <;> simp [hy])) (fun y hy => .inr (by rcases List.mem_append.1 hy with hy | hy; (simp [hy]); rcases List.mem_append.1 hy with hy | hy <;> simp [hy])) (fun y hy => .inr (by simp [hy])) (.inr (by simp)) (.inr (by simp)) (.inr (by simp)) (by simp) (by simp) (by simp) (by have h1 := hfew.2.1; have h2 := hfew.2.2.2.1; have h3 := hfew.2.2.2.2.2.1; simp; omega) (by have h1 := hfew.2.1; have h2 := hfew.2.2.2.1; have h3 := hfew.2.2.2.2.2.1; simp; omega) (by have h1 := hfew.2.1; have h2 := hfew.2.2.2.1; have h3 := hfew.2.2.2.2.2.1; simp; omega))) (fun σ hst => ?_)
         replace hst := hst.unapp (.there (.seg (.there (.seg (.there (.seg (.there (.seg (.there (.there (.there (.there (.there .base)))))))))))))
         refine eV rfl (xB rfl rfl rfl) rfl ?_
         refine eN ?_
         refine tN ?_
         refine e2_ rfl (fun h116 => ?_) (fun h116 => ?_)
         ·refine eS ?_
          refine eR rfl ?_
          refine eV rfl (xb_ (places := [(0, 1), (1, 1), (2, 1), (3, 1)]) (zero := [.nilSlice, .nilSlice, .nilSlice, .nilSlice]) (cs := [_, _, _, _]) (by kernel_rfl) (by kernel_rfl) (by kernel_rfl) rfl (by kernel_rfl)) rfl ?_
          refine o_setU hst (.there (.seg (.there (.seg (.there (.seg (.there (.seg (.there .here))))))))) rfl (xS rfl rfl rfl (hst.pop.pops.pop.pops.pop.pops.pop.pops.pop.get 0 rfl) (m := 4) (by kernel_rfl) rfl (Nat.le_of_ble_eq_true rfl) (lC rfl (lC rfl (lC rfl (lC rfl l0_)))) (cells' := [_, _, _, _]) rfl) rfl (fun σ hst => ?_)
          refine eV rfl (xA rfl) rfl ?_
          refine eN ?_
          refine tN ?_
          refine eT ?_
          refine tR (?_)
          exact rc_ rfl rfl (hst.pop.pops.pop.pops.pop.pops.pop.pops.pop.get 0 rfl) (m := 4) (by kernel_rfl) rfl rfl (.inl ⟨_, by rw [addG_at (notB_f h16) hx33 hxf, show ltI (.ofNat x33.length) 14 = true from notB_f h39]; show (bif badPlace g e pl then _ else _) = _; rw [show badPlace g e pl = false from by unfold badPlace; rw [h43]; show (!eqI pl 0) = false; rw [notB_f h64]; rfl]; show (bif eqI (checkI (grownG g tm e fr pl x33 xf)) 0 then _ else _) = _; rw [grown_r (pl := pl) (fr := fr) (row := x33) (frow := xf) (tm := tm) h97, notB_t h116]; rfl, rfl, hst.pop.pops.pop.pops.pop.pops.pop.pops.pop.pop.pop.pop.pop⟩)
         ·refine eI ?_
          refine tN ?_
          refine eS ?_
          refine eR rfl ?_
          refine eV rfl (xN rfl (hst.get 0 rfl) (n := 4) (vs := [_, _, _, _]) (by kernel_rfl) (Nat.le_of_ble_eq_true rfl) rfl) rfl ?_
          refine o_setU hst (.there (.seg (.there (.seg (.there (.seg (.there (.seg (.there .here))))))))) rfl (xS rfl rfl rfl (hst.pop.pops.pop.pops.pop.pops.pop.pops.pop.get 0 rfl) (m := 4) (by kernel_rfl) rfl (Nat.le_of_ble_eq_true rfl) (lC hO.init.leaf.2 (lC rfl (lC rfl (lC rfl l0_)))) (cells' := [_, _, _, _]) rfl) rfl (fun σ hst => ?_)
          refine eV rfl (xA rfl) rfl ?_
          refine eN ?_
          refine tN ?_
          refine eT ?_
          exact rc_ rfl rfl (hst.pop.pops.pop.pops.pop.pops.pop.pops.pop.get 0 rfl) (m := 4) (by kernel_rfl) rfl rfl (add_ok (by rw [addG_at (notB_f h16) hx33 hxf, show ltI (.ofNat x33.length) 14 = true from notB_f h39]; show (bif badPlace g e pl then _ else _) = _; rw [show badPlace g e pl = false from by unfold badPlace; rw [h43]; show (!eqI pl 0) = false; rw [notB_f h64]; rfl]; show (bif eqI (checkI (grownG g tm e fr pl x33 xf)) 0 then _ else _) = _; rw [grown_r (pl := pl) (fr := fr) (row := x33) (frow := xf) (tm := tm) h97, notB_f h116]; rfl) (hst.app (.there (.seg (.there (.seg (.there (.seg (.there (.seg (.there (.there (.there (.there (.there .base)))))))))))))) (hasG_of (g := (⟨g.init, g.threads.set tm (x33 ++ [e]), g.from_.set tm (xf ++ [fr]), g.order⟩ : XG)) hO.init hO2t hO2f hOo (fun y hy => .inr (by simp [hy])) (fun y hy => .inr (by rcases List.mem_append.1 hy with hy | hy; (simp [hy]); rcases List.mem_append.1 hy with hy | hy <;> simp [hy])) (fun y hy => .inr (by rcases List.mem_append.1 hy with hy | hy; (simp [hy]); rcases List.mem_append.1 hy with hy | hy <;> simp [hy])) (fun y hy => .inr (by simp [hy])) (.inr (by simp)) (.inr (by simp)) (.inr (by simp)) (by simp) (by simp) (by simp) (by have h1 := hfew.2.1; have h2 := hfew.2.2.2.1; have h3 := hfew.2.2.2.2.2.1; simp; omega) (by have h1 := hfew.2.1; have h2 := hfew.2.2.2.1; have h3 := hfew.2.2.2.2.2.1; simp; omega) (by have h1 := hfew.2.1; have h2 := hfew.2.2.2.1; have h3 := hfew.2.2.2.2.2.1; simp; omega)))
      ·exact absurd h43 (by rw [not_f h60]; decide)
end Go.Ev

namespace Go.Ev
variable [Env]
open Go.Proofs
set_option maxRecDepth 4000
set_option maxHeartbeats 8000000

theorem w_Index {G : Cx} (hG : Plain G) {K : KP} {l : List XId} {v : AV} (h : HasS K 2 RId l v) (x : XId) {σ : AHeap} {L : Own} (hst : St σ K L) : EvCall Try.prog G 70 [v, .agg [.int .i64 x.thread, .int .i64 x.index]] σ fun w σ' => w = .int .i64 (idxF (fun y => sameX x.ints y.ints) l 0) ∧ St σ' K L := by
 refine eY hG Try.func70 rfl (t := (PT.leaf.put (some (v)) 0).put (some (.agg [.int .i64 x.thread, .int .i64 x.index])) 1) (by rfl) ?_
 refine eS ?_
 refine eR rfl ?_
 refine oP hst rfl (xo_ rfl rfl) (fun _ => rfl) (fun σ b1 hst => ?_)
 refine eV rfl (xA rfl) rfl ?_
 refine eN ?_
 refine tN ?_
 refine eS ?_
 refine eS ?_
 refine eR rfl ?_
 refine eV rfl (xM rfl) rfl ?_
 refine eV rfl (x_len' h rfl rfl rfl (e := 47) (by kernel_rfl) rfl) rfl ?_
 refine eV rfl (xM rfl) rfl ?_
 refine eN ?_
 refine tN ?_
 refine eB ?_
 obtain ⟨LL1, hst, hLL1⟩ := hst.named
 refine eW [4, 5, 8, 9, 10, 11, 12, 13, 14, 15, 16, 17, 18] (fun j t σ => ∃ (i : Nat), j + i = l.length ∧ idxF (fun y => sameX x.ints y.ints) l 0 = idxF (fun y => sameX x.ints y.ints) (l.drop i) i ∧ t.get 8 = some (.int .i64 (.ofNat i)) ∧ St σ K LL1) (l.length) ⟨0, rfl, rfl, rfl, hst⟩ ?_
 clear hst; intro j2 t σ hoff hI; obtain ⟨i, hj2, he2, hv8, hst⟩ := hI
 subst hLL1
 obtain ⟨o4, o5, o8, o9, o10, o11, o12, o13, hoff⟩ := hoff.ex8 rfl rfl
 obtain ⟨o14, o15, o16, o17, hoff⟩ := hoff.ex4 rfl
 obtain ⟨o18, hoff⟩ := hoff.ex1 rfl
 obtain rfl := hoff.nil; clear hoff
 replace hv8 : o8 = some _ := hv8; subst hv8
 refine eS ?_
 refine eR rfl ?_
 refine eV rfl (xB rfl rfl rfl) rfl ?_
 refine eN ?_
 refine tN ?_
 refine eS ?_
 refine e2_ rfl (fun h9 => ?_) (fun h9 => ?_)
 ·refine eI ?_
  refine tN ?_
  refine eS ?_
  refine eB ?_
  refine eS ?_
  refine eR rfl ?_
  refine eV rfl (xM rfl) rfl ?_
  refine eV rfl (xA rfl) rfl ?_
  refine eN ?_
  refine tN ?_
  refine eS ?_
  refine eP (l := [(0, []), (1, []), (2, []), (3, []), (4, []), (5, [])]) (by kernel_rfl) (by kernel_rfl) ?_
  refine pV rfl rfl (xN rfl (hst.get 0 rfl) (n := 2) (vs := [_, _]) (by kernel_rfl) (Nat.le_of_ble_eq_true rfl) rfl) rfl ?_
  refine pV rfl rfl (xM rfl) rfl ?_
  refine pV rfl rfl (xM rfl) rfl ?_
  obtain ⟨x14, hx14, hi14⟩ := at_lt h9
  refine pi (e := 47) (m := 2) h hx14 rfl rfl rfl (by kernel_rfl) (by kernel_rfl) rfl rfl (fun _ => rfl) (fun p14 vs14 hp14 hl14 hr14 => ?_)
  obtain rfl := hr14
  refine pV rfl rfl (xw hst hp14 rfl (by kernel_rfl) rfl) rfl ?_
  refine pV rfl rfl (x_eqS (n := 2) (ca := [_, _]) (cb := [_, _]) (by kernel_rfl) rfl rfl rfl rfl) rfl ?_
  refine pN ?_
  refine tN ?_
  refine e2_ rfl (fun h16 => ?_) (fun h16 => ?_)
  ·refine eS ?_
   refine eR rfl ?_
   refine eV rfl (xM rfl) rfl ?_
   refine eV rfl (xA rfl) rfl ?_
   refine eN ?_
   refine tN ?_
   refine eT ?_
   refine bR (tR (lR (bR (tR (?_)))))
   exact r1_ rfl rfl ⟨congrArg (AV.int .i64) (by symm; rw [he2, drop_at hx14]; show (bif sameX x.ints x14.ints then _ else _) = _; rw [show sameX x.ints x14.ints = true from h16]; rfl), hst.pop⟩
  ·refine eI ?_
   refine bN ?_
   refine tN ?_
   refine eR rfl ?_
   refine eV rfl (xB rfl rfl rfl) rfl ?_
   refine eV rfl (xM rfl) rfl ?_
   refine eN ?_
   refine lN ⟨j2 - 1, by omega, (by (iterate 24 refine OffW.put rfl ?_); exact OffW.refl _ _), i + 1, by omega, by rw [he2, drop_at hx14]; show (bif sameX x.ints x14.ints then _ else _) = _; rw [show sameX x.ints x14.ints = false from h16]; rfl, congrArg (fun z => some (AV.int .i64 z)) (wr_succ (by have := h.len_le; omega)), hst⟩
 ·refine eX ?_
  refine tX ?_
  refine lX ?_
  refine bX ?_
  refine tN ?_
  refine eS ?_
  refine eR rfl ?_
  refine eV rfl (xA rfl) rfl ?_
  refine eN ?_
  refine tN ?_
  refine eT ?_
  exact r1_ rfl rfl ⟨congrArg (AV.int .i64) (by symm; rw [he2, drop_end (lt_no h9)]; rfl), hst.pop⟩
end Go.Ev

namespace Go.Ev
variable [Env]
open Go.Proofs
set_option maxRecDepth 4000
set_option maxHeartbeats 8000000
noncomputable def placeG (g : XG) (id : XId) : Int :=
 match eventG g id with
 | some e => bif writesB e then idxF (fun y => sameX id.ints y.ints) (writesG g e.loc) 0 else -1
 | none => -1
theorem eventG_chk {g : XG} {id : XId} (h : (eventG g id).isSome = true) : checkI g = 0 := by
 unfold eventG at h
 cases hc : eqI (checkI g) 0 with
 | true => exact eq0 hc
 | false => rw [hc] at h; cases h

theorem w_Place {G : Cx} (hG : Plain G) {K : KP} {g : XG} {a b c d : AV} (h : HasG K g a b c d) (id : XId) {σ : AHeap} {L : Own} (hst : St σ K L) : EvCall Try.prog G 27 [.agg [a, b, c, d], .agg [.int .i64 id.thread, .int .i64 id.index]] σ fun v σ' => v = .int .i64 (placeG g id) ∧ St σ' K L := by
 have h' := h; obtain ⟨hi, ht, hf, ho⟩ := h'
 refine eY hG Try.func27 rfl (t := (PT.leaf.put (some (.agg [a, b, c, d])) 0).put (some (.agg [.int .i64 id.thread, .int .i64 id.index])) 1) (by rfl) ?_
 refine eS ?_
 refine eR rfl ?_
 refine oP hst rfl (xo_ rfl rfl) (fun _ => rfl) (fun σ b1 hst => ?_)
 refine oP hst rfl (xo_ rfl rfl) (fun _ => rfl) (fun σ b2 hst => ?_)
 refine eV rfl (xA rfl) rfl ?_
 refine eN ?_
 refine tN ?_
 refine eS ?_
 refine eR rfl ?_
 refine eV rfl (xN rfl (hst.get 1 rfl) (n := 4) (vs := [_, _, _, _]) (by kernel_rfl) (Nat.le_of_ble_eq_true rfl) rfl) rfl ?_
 refine eV rfl (xN rfl (hst.get 0 rfl) (n := 2) (vs := [_, _]) (by kernel_rfl) (Nat.le_of_ble_eq_true rfl) rfl) rfl ?_
 refine oV rfl (xC rfl rfl rfl (by kernel_rfl)) (fun _ => rfl) (w_Event hG h _ _ hst) (fun σ hst => ?_)
 refine eV rfl (xM rfl) rfl ?_
 refine eV rfl (xU rfl rfl) rfl ?_
 refine eV rfl (xU rfl rfl) rfl ?_
 refine oP hst rfl (xe (cs := [.int .i64 0, .int .i64 0, .int .i64 0, .int .i64 0, .int .i64 0]) (by kernel_rfl) (by kernel_rfl)) (fun _ => rfl) (fun σ b3 hst => ?_)
 refine o_set0 hst rfl (xS rfl rfl rfl (hst.get 0 rfl) (m := 5) (by kernel_rfl) rfl (Nat.le_of_ble_eq_true rfl) (lC rfl (lC rfl (lC rfl (lC rfl (lC rfl l0_))))) (cells' := [_, _, _, _, _]) rfl) rfl (fun σ hst => ?_)
 refine eV rfl (xA rfl) rfl ?_
 refine eN ?_
 refine tN ?_
 refine eS ?_
 refine eS ?_
 refine eR rfl ?_
 refine eV rfl (xM rfl) rfl ?_
 refine eV rfl (xn rfl) rfl ?_
 refine oS rfl (xM rfl) (fun _ => rfl) (fun h15 => ?_) (fun h15 => ?_)
 ·refine eU rfl rfl ?_
  refine eU rfl rfl ?_
  refine eU rfl rfl ?_
  refine eV rfl (xP rfl rfl) rfl ?_
  refine eN ?_
  refine tN ?_
  refine eA rfl ?_
  refine eS ?_
  refine eR rfl ?_
  refine eV rfl (xA rfl) rfl ?_
  refine eN ?_
  refine tN ?_
  refine eT ?_
  refine tR (?_)
  exact r1_ rfl rfl ⟨congrArg (AV.int .i64) (by symm; have hs := not_t h15; unfold placeG; cases he : eventG g id with | none => rfl | some e => (rw [show eventG g ⟨id.thread, id.index⟩ = some e from he] at hs; cases hs)), hst.pop.pop.pop⟩
 ·refine eV rfl (xN rfl (hst.get 0 rfl) (n := 5) (vs := [_, _, _, _, _]) (by kernel_rfl) (Nat.le_of_ble_eq_true rfl) rfl) rfl ?_
  refine oV rfl (xC rfl rfl rfl (by kernel_rfl)) (fun _ => rfl) (w_writes hG _ hst) (fun σ hst => ?_)
  refine eV rfl (xn rfl) rfl ?_
  refine eV rfl (xP rfl rfl) rfl ?_
  refine eN ?_
  refine tN ?_
  refine e2_ rfl (fun h19 => ?_) (fun h19 => ?_)
  ·refine eS ?_
   refine eR rfl ?_
   refine eV rfl (xA rfl) rfl ?_
   refine eN ?_
   refine tN ?_
   refine eT ?_
   refine tR (?_)
   exact r1_ rfl rfl ⟨congrArg (AV.int .i64) (by symm; obtain ⟨e, he⟩ := Option.isSome_iff_exists.1 (not_f h15); have hw : writesB e = false := (by have := not_t h19; rwa [he] at this); unfold placeG; rw [show eventG g id = some e from he]; show (bif writesB e then _ else _) = _; rw [hw]; rfl), hst.pop.pop.pop⟩
  ·refine eI ?_
   refine tN ?_
   refine eS ?_
   refine eP (l := [(0, []), (1, []), (2, []), (4, []), (3, [4]), (5, []), (6, [])]) (by kernel_rfl) (by kernel_rfl) ?_
   refine pV rfl rfl (xN rfl (hst.get 2 rfl) (n := 4) (vs := [_, _, _, _]) (by kernel_rfl) (Nat.le_of_ble_eq_true rfl) rfl) rfl ?_
   refine pV rfl rfl (xF rfl (k := 1) (by kernel_rfl)) rfl ?_
   refine pV rfl rfl (x1_ rfl (hst.get 0 rfl) (by kernel_rfl) rfl) rfl ?_
   refine pV rfl rfl (xN rfl (hst.get 1 rfl) (n := 2) (vs := [_, _]) (by kernel_rfl) (Nat.le_of_ble_eq_true rfl) rfl) rfl ?_
   refine pc rfl rfl (xC rfl rfl rfl (by kernel_rfl)) (fun _ => rfl) (w_Writes hG h (fun l hl => by have := order_le (eventG_chk (not_f h15)) l hl; omega) _ hst) ?_
   rintro u23 σ ⟨M23, hM23, hst⟩
   refine ⟨(sC (sR rfl rfl rfl rfl rfl (xN rfl (hst.pops.pop.get 0 rfl) (n := 2) (vs := [_, _]) (by kernel_rfl) (Nat.le_of_ble_eq_true rfl) rfl) (beqA_agg (beqL_cons (beq1_int _ _) (beqL_cons (beq1_int _ _) beqL_nil)))) s0), ?_⟩
   have hq := hst.keeps
   refine pv_ rfl rfl (xC rfl rfl rfl (by kernel_rfl)) (fun _ => rfl) (call_keeps (w_Index hG (hM23.hasS fun y hy => .inr hy) id hq)) (fun σ hst => ?_)
   clear hq
   refine ⟨s0, ?_⟩
   refine pV rfl rfl (xA rfl) rfl ?_
   refine pN ?_
   refine tN ?_
   refine eT ?_
   exact r1_ rfl rfl ⟨congrArg (AV.int .i64) (by symm; obtain ⟨e, he⟩ := Option.isSome_iff_exists.1 (not_f h15); have hw : writesB e = true := (by have := not_f h19; rwa [he] at this); unfold placeG; rw [show eventG g id = some e from he]; show (bif writesB e then _ else _) = _; rw [hw]; rfl), hst.pop.pop.pop⟩
end Go.Ev

namespace Go.Ev
variable [Env]
open Go.Proofs
set_option maxRecDepth 4000
set_option maxHeartbeats 8000000
theorem addG_err {g : XG} {th pl : Int} {e : XEv} {fr : XId} {er : Int} (h : addG g th e fr pl = (none, er)) : eqI er 0 = false := by
 have key : er = 2 ∨ er = 9 ∨ er = 3 := by
  unfold addG at h
  cases h1 : eqI (checkI g) 0 with
  | false => rw [h1] at h; cases h; exact .inl rfl
  | true =>
   rw [h1] at h
   cases h2 : ltI th 1 with
   | true => rw [h2] at h; cases h; exact .inr (.inl rfl)
   | false =>
    rw [h2] at h
    cases h3 : ltI (.ofNat g.threads.length) th with
    | true => rw [h3] at h; cases h; exact .inr (.inl rfl)
    | false =>
     rw [h3] at h
     simp only [Bool.not_true, cond_false] at h
     split at h
     ·rename_i row frow _ _
      cases h4 : ltI (.ofNat row.length) 14 with
      | false => rw [h4] at h; cases h; exact .inr (.inr rfl)
      | true =>
       rw [h4] at h
       simp only [Bool.not_true, cond_false] at h
       generalize (bif writesB e then (bif ltI pl 1 then true else ltI (.ofNat (writesG g e.loc).length) pl) else !eqI pl 0) = q at h
       cases q with
       | true => cases h; exact .inl rfl
       | false =>
        simp only [cond_false] at h
        generalize eqI (checkI _) 0 = q2 at h
        cases q2 with
        | true => cases h
        | false => cases h; exact .inl rfl
     ·cases h; exact .inr (.inl rfl)
 rcases key with rfl | rfl | rfl <;> rfl
theorem HasG.lift {K : KP} {M : Own} {g : XG} {a b c d : AV} (h : HasG K g a b c d) : HasG (K.adds M) g a b c d := h.mono (KP.le_adds _ _)
/-- Where it is known that an event may be added. -/
theorem w_AddOK {G : Cx} (hG : Plain G) (hfk : G.fk 49 = true) (hov : G.ov 85 = true) {K : KP} {g g' : XG} {a b c d : AV} (h : HasG K g a b c d) (th pl : Int) (e : XEv) (fr : XId) (hok : addG g th e fr pl = (some g', 0)) {σ : AHeap} {L : Own} (hst : St σ K L) :
  EvCall Try.prog G 18 [.agg [a, b, c, d], .int .i64 th, .agg [.int .i64 e.kind, .int .i64 e.loc, .int .i64 e.order, .int .i64 e.read, .int .i64 e.write], .agg [.int .i64 fr.thread, .int .i64 fr.index], .int .i64 pl] σ fun v σ' => ∃ a' b' c' d' M, v = .tuple [.agg [a', b', c', d'], .int .i64 0] ∧ HasG (K.adds M) g' a' b' c' d' ∧ St σ' K (M ++ L) :=
 (w_Add hG hfk hov h th pl e fr hst).mono fun v σ' hh => by
  rcases hh with ⟨er, h1, h2, h3⟩ | ⟨g2, a', b', c', d', M, h1, h2, h3, h4⟩
  ·rw [hok] at h1; cases h1
  ·rw [hok] at h1
   have : g' = g2 := by cases h1; rfl
   subst this
   exact ⟨a', b', c', d', M, h2, h3, h4⟩

end Go.Ev

namespace Go.Ev
variable [Env]
open Go.Proofs
set_option maxRecDepth 4000
set_option maxHeartbeats 8000000
section
variable {G : Cx} {K : KP} {L : Own} {σ : AHeap} {g : XG} {a b c d : AV}
theorem w_NumberI (hG : Plain G) (h : HasG K g a b c d) (id : XId) {n : Int} (hn : numG g id = n) (hst : St σ K L) : EvCall Try.prog G 24 [.agg [a, b, c, d], .agg [.int .i64 id.thread, .int .i64 id.index]] σ fun v σ' => v = .int .i64 n ∧ St σ' K L := by
 subst hn; exact w_Number hG h id.thread id.index hst
theorem w_EventI (hG : Plain G) (h : HasG K g a b c d) (id : XId) {e : XEv} (he : eventG g id = some e) (hst : St σ K L) : EvCall Try.prog G 25 [.agg [a, b, c, d], .agg [.int .i64 id.thread, .int .i64 id.index]] σ fun v σ' => v = .tuple [.agg [.int .i64 e.kind, .int .i64 e.loc, .int .i64 e.order, .int .i64 e.read, .int .i64 e.write], .bool true] ∧ St σ' K L :=
 (w_Event hG h id.thread id.index hst).mono fun v σ' hh => ⟨by rw [hh.1, show eventG g ⟨id.thread, id.index⟩ = some e from he]; rfl, hh.2⟩
theorem w_AtI (hG : Plain G) (h : HasG K g a b c d) {i : Nat} (hi : i ≤ 1000) {id : XId} (hat : atG g (.ofNat i) = some id) (hst : St σ K L) : EvCall Try.prog G 23 [.agg [a, b, c, d], .int .i64 (.ofNat i)] σ fun v σ' => v = .tuple [.agg [.int .i64 id.thread, .int .i64 id.index], .bool true] ∧ St σ' K L :=
 (w_At hG h (n := .ofNat i) (by show ((i : Nat) : Int) ≤ _; omega) hst).mono fun v σ' hh => ⟨by rw [hh.1, hat]; rfl, hh.2⟩
theorem w_CheckI (hG : Plain G) (h : HasG K g a b c d) (hc : checkI g = 0) (hst : St σ K L) : EvCall Try.prog G 26 [.agg [a, b, c, d]] σ fun v σ' => v = .int .i64 0 ∧ St σ' K L :=
 (w_Check hG h hst).mono fun v σ' hh => ⟨by rw [hh.1, hc], hh.2⟩
theorem w_CountI (hG : Plain G) (h : HasG K g a b c d) {n : Nat} (hc : countG g = n) (hst : St σ K L) : EvCall Try.prog G 22 [.agg [a, b, c, d]] σ fun v σ' => v = .int .i64 (.ofNat n) ∧ St σ' K L := by
 subst hc; exact w_Count hG h hst
theorem w_PlaceI (hG : Plain G) (h : HasG K g a b c d) (id : XId) {n : Int} (hn : placeG g id = n) (hst : St σ K L) : EvCall Try.prog G 27 [.agg [a, b, c, d], .agg [.int .i64 id.thread, .int .i64 id.index]] σ fun v σ' => v = .int .i64 n ∧ St σ' K L := by
 subst hn; exact w_Place hG h id hst
end
theorem hasG_nil {K : KP} : HasG K ⟨[], [], [], []⟩ .nilSlice .nilSlice .nilSlice .nilSlice := ⟨.inl ⟨rfl, rfl⟩, .inl ⟨rfl, rfl⟩, .inl ⟨rfl, rfl⟩, .inl ⟨rfl, rfl⟩⟩
theorem count_le {g : XG} : countG g ≤ 62 := by
 unfold countG
 cases h : eqI (checkI g) 0 with
 | false => exact Nat.zero_le _
 | true =>
  obtain ⟨b1, b2, b3, _⟩ := check_bounds (eq0 h)
  have h1 := sumLen_le b3
  have h2 : g.threads.length * 14 ≤ 4 * 14 := Nat.mul_le_mul_right _ b1
  show g.init.length + sumLen g.threads ≤ 62
  omega
theorem writes_le {g : XG} {i : Nat} : (writesG g (.ofNat i)).length ≤ 57 := by
 cases h : eqI (checkI g) 0 with
 | false => rw [writesG_none h]; exact Nat.zero_le _
 | true =>
  cases hr : g.order[i]? with
  | none => rw [writesG_big (List.getElem?_eq_none_iff.1 hr)]; exact Nat.zero_le _
  | some r =>
   have := order_le (eq0 h) r (List.mem_of_getElem? hr)
   rw [writesG_at h hr, List.length_cons]; omega
theorem eventG_of {g : XG} {id : XId} {e : XEv} (hc : checkI g = 0) (h : evAt g id = some e) : eventG g id = some e := by
 unfold eventG; rw [hc]; exact h
theorem eventG_at {g : XG} {id : XId} {e : XEv} (h : eventG g id = some e) : evAt g id = some e := by
 unfold eventG at h
 cases hc : eqI (checkI g) 0 with
 | true => rw [hc] at h; exact h
 | false => rw [hc] at h; cases h
theorem at_event {g : XG} {i : Nat} (h : i < countG g) : ∃ id e, atG g (.ofNat i) = some id ∧ eventG g id = some e := by
 obtain ⟨id, h1, _, h3⟩ := at_num h
 obtain ⟨e, he⟩ := Option.isSome_iff_exists.1 h3
 refine ⟨id, e, h1, eventG_of ?_ he⟩
 unfold countG at h
 cases hc : eqI (checkI g) 0 with
 | true => exact eq0 hc
 | false => rw [hc] at h; exact absurd h (Nat.not_lt_zero _)
theorem place_ok {g : XG} {id : XId} {e : XEv} {pl : Int} (he : eventG g id = some e) (h : writesB e = true ∧ idxF (fun y => sameX id.ints y.ints) (writesG g e.loc) 0 = pl) : placeG g id = pl := by
 unfold placeG
 rw [he]
 show (bif writesB e then _ else _) = pl
 rw [h.1]; exact h.2
theorem cmp_neg (g o : XG) : (bif eqI (cmpG o g) (wr .i64 (Int.sub 0 (cmpG g o))) then false else true) = false := by
 have h1 := pre_G.anti g o
 have h2 := pre_G.small g o
 rw [h1]
 generalize cmpG g o = x at h2
 obtain rfl | rfl | rfl : x = -1 ∨ x = 0 ∨ x = 1 := by omega
 all_goals rfl
theorem cmp_same (g o : XG) : eqI (cmpG g o) 0 = sameX g o := by
 rw [Bool.eq_iff_iff, sameX_iff, eqI_eq, decide_eq_true_iff]
 exact ⟨cmpG_eq, fun h => by rw [h]; exact cmpG_self o⟩
theorem cmp_up {g o p : XG} (h1 : (bif ltI 0 (cmpG g o) then false else true) = true) (h2 : (bif ltI 0 (cmpG o p) then false else true) = true) : ltI 0 (cmpG g p) = false := by
 have h1 := notB_t h1; have h2 := notB_t h2
 rw [ltI_eq, decide_eq_false_iff_not] at h1 h2 ⊢
 have := pre_G.trans g o p (by omega) (by omega)
 omega
theorem cmp_down {g o p : XG} (h1 : (bif ltI (cmpG g o) 0 then false else true) = true) (h2 : (bif ltI (cmpG o p) 0 then false else true) = true) : ltI (cmpG g p) 0 = false := by
 have h1 := notB_t h1; have h2 := notB_t h2
 rw [ltI_eq, decide_eq_false_iff_not] at h1 h2 ⊢
 have a1 := pre_G.anti g o; have a2 := pre_G.anti o p; have a3 := pre_G.anti g p
 have := pre_G.trans p o g (by omega) (by omega)
 omega
theorem eqI_self (x : Int) : eqI x x = true := by rw [eqI_eq]; simp
theorem cnt_ok {n : Nat} (h : n ≤ 1000) : (bif eqI (.ofNat (n + 1)) (wr .i64 (Int.add (.ofNat n) (.ofNat 1))) then false else true) = false := by
 rw [wr_succ (by omega), eqI_self]; rfl
theorem flt_yes {l : List XId} {i : Nat} {x id : XId} (hx : l[i]? = some x) (h : (bif sameX x.ints id.ints then false else true) = true) : (l.take (i + 1)).filter (neId id) = (l.take i).filter (neId id) ++ [x] := by
 have hn : neId id x = true := by unfold neId; rw [notB_t h]; rfl
 rw [List.take_add_one, hx, List.filter_append]
 show _ ++ [x].filter (neId id) = _
 rw [List.filter_cons, hn]; rfl
theorem flt_no {l : List XId} {i : Nat} {x id : XId} (hx : l[i]? = some x) (h : (bif sameX x.ints id.ints then false else true) = false) : (l.take (i + 1)).filter (neId id) = (l.take i).filter (neId id) := by
 have hn : neId id x = false := by unfold neId; rw [notB_f h]; rfl
 rw [List.take_add_one, hx, List.filter_append]
 show _ ++ [x].filter (neId id) = _
 rw [List.filter_cons, hn]; exact List.append_nil _

theorem w_GraphGrows {G : Cx} (hG : Plain G) (hfk : G.fk 49 = true) (hov : G.ov 85 = true) (hliv : G.tbl 14 [] = some (.bool true)) (hlaid : ∀ σ, laidGo G.gl σ G.laid = true) {K : KP} {g o p : XG} {a b c d a2 b2 c2 d2 a3 b3 c3 d3 : AV} (h : HasG K g a b c d) (h2 : HasG K o a2 b2 c2 d2) (h3 : HasG K p a3 b3 c3 d3) (th pl : Int) (e : XEv) (fr : XId) {σ : AHeap} {L : Own} (hst : St σ K L) : EvCall Try.prog G 6 [.agg [a, b, c, d], .agg [a2, b2, c2, d2], .agg [a3, b3, c3, d3], .int .i64 th, .agg [.int .i64 e.kind, .int .i64 e.loc, .int .i64 e.order, .int .i64 e.read, .int .i64 e.write], .agg [.int .i64 fr.thread, .int .i64 fr.index], .int .i64 pl] σ fun v σ' => v = .bool true := by
 refine eY hG Try.func6 rfl (t := ((((((PT.leaf.put (some (.agg [a, b, c, d])) 0).put (some (.agg [a2, b2, c2, d2])) 1).put (some (.agg [a3, b3, c3, d3])) 2).put (some (.int .i64 th)) 3).put (some (.agg [.int .i64 e.kind, .int .i64 e.loc, .int .i64 e.order, .int .i64 e.read, .int .i64 e.write])) 4).put (some (.agg [.int .i64 fr.thread, .int .i64 fr.index])) 5).put (some (.int .i64 pl)) 6) (by rfl) ?_
 refine eS ?_
 refine eR rfl ?_
 refine oP hst rfl (xo_ rfl rfl) (fun _ => rfl) (fun σ b1 hst => ?_)
 refine oP hst rfl (xo_ rfl rfl) (fun _ => rfl) (fun σ b2 hst => ?_)
 refine oP hst rfl (xo_ rfl rfl) (fun _ => rfl) (fun σ b3 hst => ?_)
 refine oP hst rfl (xo_ rfl rfl) (fun _ => rfl) (fun σ b4 hst => ?_)
 refine oP hst rfl (xo_ rfl rfl) (fun _ => rfl) (fun σ b5 hst => ?_)
 refine eV rfl (xA rfl) rfl ?_
 refine eN ?_
 refine tN ?_
 refine eS ?_
 refine eS ?_
 refine eR rfl ?_
 refine oV rfl (xC rfl rfl rfl (by kernel_rfl)) (fun _ => rfl) (ev_known (v := .bool true) (hG.h1 _ _ _) hliv rfl rfl (hlaid _) ⟨rfl, hst⟩) (fun σ hst => ?_)
 refine eV rfl (xn rfl) rfl ?_
 refine eN ?_
 refine tN ?_
 refine eF rfl ?_
 refine eI ?_
 refine tN ?_
 refine eS ?_
 obtain ⟨LC3, hst, hLC3⟩ := hst.named
 refine ev_cutW [40, 41, 42, 43, 44, 45, 46, 47, 48, 49, 50, 51, 52] (fun t σ => ∃ (q : Bool), True ∧ t.get 52 = some (.bool q) ∧ St σ K LC3) ?_ ?_
 ·subst hLC3
  refine eR rfl ?_
  refine eV rfl (xN rfl (hst.get 4 rfl) (n := 4) (vs := [_, _, _, _]) (by kernel_rfl) (Nat.le_of_ble_eq_true rfl) rfl) rfl ?_
  refine oC rfl (xC rfl rfl rfl (by kernel_rfl)) (fun _ => rfl) (w_LightGraph hG h _ hst) ?_
  rintro _ σ ⟨q41, rfl, hst⟩
  refine eV rfl (xn rfl) rfl ?_
  refine oS rfl (xM rfl) (fun _ => rfl) (fun h43 => ?_) (fun h43 => ?_)
  ·refine eU rfl rfl ?_
   refine eU rfl rfl ?_
   refine eU rfl rfl ?_
   refine eV rfl (xP rfl rfl) rfl ?_
   refine eV rfl (xM rfl) rfl ?_
   refine eU rfl rfl ?_
   refine eU rfl rfl ?_
   refine eU rfl rfl ?_
   refine eV rfl (xP rfl rfl) rfl ?_
   refine eN ?_
   exact ⟨rfl, (by (iterate 13 refine OffW.put rfl ?_); exact OffW.refl _ _), _, trivial, rfl, hst⟩
  ·refine eV rfl (xN rfl (hst.get 3 rfl) (n := 4) (vs := [_, _, _, _]) (by kernel_rfl) (Nat.le_of_ble_eq_true rfl) rfl) rfl ?_
   refine oC rfl (xC rfl rfl rfl (by kernel_rfl)) (fun _ => rfl) (w_LightGraph hG h2 _ hst) ?_
   rintro _ σ ⟨q45, rfl, hst⟩
   refine eV rfl (xn rfl) rfl ?_
   refine eV rfl (xP rfl rfl) rfl ?_
   refine oS rfl (xM rfl) (fun _ => rfl) (fun h48 => ?_) (fun h48 => ?_)
   ·refine eU rfl rfl ?_
    refine eU rfl rfl ?_
    refine eU rfl rfl ?_
    refine eV rfl (xP rfl rfl) rfl ?_
    refine eN ?_
    exact ⟨rfl, (by (iterate 13 refine OffW.put rfl ?_); exact OffW.refl _ _), _, trivial, rfl, hst⟩
   ·refine eV rfl (xN rfl (hst.get 2 rfl) (n := 4) (vs := [_, _, _, _]) (by kernel_rfl) (Nat.le_of_ble_eq_true rfl) rfl) rfl ?_
    refine oC rfl (xC rfl rfl rfl (by kernel_rfl)) (fun _ => rfl) (w_LightGraph hG h3 _ hst) ?_
    rintro _ σ ⟨q50, rfl, hst⟩
    refine eV rfl (xn rfl) rfl ?_
    refine eV rfl (xP rfl rfl) rfl ?_
    refine eN ?_
    exact ⟨rfl, (by (iterate 13 refine OffW.put rfl ?_); exact OffW.refl _ _), _, trivial, rfl, hst⟩
 clear hst; intro t σ hoff hI; obtain ⟨q3, _, hv52, hst⟩ := hI
 subst hLC3
 obtain ⟨o40, o41, o42, o43, o44, o45, o46, o47, hoff⟩ := hoff.ex8 rfl rfl
 obtain ⟨o48, o49, o50, o51, hoff⟩ := hoff.ex4 rfl
 obtain ⟨o52, hoff⟩ := hoff.ex1 rfl
 obtain rfl := hoff.nil; clear hoff
 replace hv52 : o52 = some _ := hv52; subst hv52
 refine e2_ rfl (fun h52 => ?_) (fun h52 => ?_)
 ·refine eS ?_
  refine eR rfl ?_
  refine eV rfl (xA rfl) rfl ?_
  refine eN ?_
  refine tN ?_
  refine eT ?_
  refine tR (?_)
  exact r1_ rfl rfl rfl
 ·refine eI ?_
  refine tN ?_
  refine eS ?_
  refine eP (l := [(0, []), (1, []), (3, []), (4, []), (6, []), (7, []), (2, [3, 4, 6, 7]), (5, [6, 7]), (8, []), (9, []), (10, []), (11, [])]) (by kernel_rfl) (by kernel_rfl) ?_
  refine pV rfl rfl (xN rfl (hst.get 4 rfl) (n := 4) (vs := [_, _, _, _]) (by kernel_rfl) (Nat.le_of_ble_eq_true rfl) rfl) rfl ?_
  refine pV rfl rfl (xN rfl (hst.get 3 rfl) (n := 4) (vs := [_, _, _, _]) (by kernel_rfl) (Nat.le_of_ble_eq_true rfl) rfl) rfl ?_
  refine pV rfl rfl (xN rfl (hst.get 3 rfl) (n := 4) (vs := [_, _, _, _]) (by kernel_rfl) (Nat.le_of_ble_eq_true rfl) rfl) rfl ?_
  refine pV rfl rfl (xN rfl (hst.get 2 rfl) (n := 4) (vs := [_, _, _, _]) (by kernel_rfl) (Nat.le_of_ble_eq_true rfl) rfl) rfl ?_
  refine pV rfl rfl (xN rfl (hst.get 4 rfl) (n := 4) (vs := [_, _, _, _]) (by kernel_rfl) (Nat.le_of_ble_eq_true rfl) rfl) rfl ?_
  refine pV rfl rfl (xN rfl (hst.get 2 rfl) (n := 4) (vs := [_, _, _, _]) (by kernel_rfl) (Nat.le_of_ble_eq_true rfl) rfl) rfl ?_
  refine pv_ rfl rfl (xC rfl rfl rfl (by kernel_rfl)) (fun _ => rfl) (w_Compare hG h h2 hst) (fun σ hst => ?_)
  refine ⟨(sC (sR rfl rfl rfl rfl rfl (xN rfl (hst.get 3 rfl) (n := 4) (vs := [_, _, _, _]) (by kernel_rfl) (Nat.le_of_ble_eq_true rfl) rfl) (beqA_agg (beqL_cons h2.init.beq1 (beqL_cons h2.threads.beq1 (beqL_cons h2.from_.beq1 (beqL_cons h2.order.beq1 beqL_nil)))))) (sC (sR rfl rfl rfl rfl rfl (xN rfl (hst.get 2 rfl) (n := 4) (vs := [_, _, _, _]) (by kernel_rfl) (Nat.le_of_ble_eq_true rfl) rfl) (beqA_agg (beqL_cons h3.init.beq1 (beqL_cons h3.threads.beq1 (beqL_cons h3.from_.beq1 (beqL_cons h3.order.beq1 beqL_nil)))))) (sC (sR rfl rfl rfl rfl rfl (xN rfl (hst.get 4 rfl) (n := 4) (vs := [_, _, _, _]) (by kernel_rfl) (Nat.le_of_ble_eq_true rfl) rfl) (beqA_agg (beqL_cons h.init.beq1 (beqL_cons h.threads.beq1 (beqL_cons h.from_.beq1 (beqL_cons h.order.beq1 beqL_nil)))))) (sC (sR rfl rfl rfl rfl rfl (xN rfl (hst.get 2 rfl) (n := 4) (vs := [_, _, _, _]) (by kernel_rfl) (Nat.le_of_ble_eq_true rfl) rfl) (beqA_agg (beqL_cons h3.init.beq1 (beqL_cons h3.threads.beq1 (beqL_cons h3.from_.beq1 (beqL_cons h3.order.beq1 beqL_nil)))))) s0)))), ?_⟩
  refine pv_ rfl rfl (xC rfl rfl rfl (by kernel_rfl)) (fun _ => rfl) (w_Compare hG h2 h3 hst) (fun σ hst => ?_)
  refine ⟨(sC (sR rfl rfl rfl rfl rfl (xN rfl (hst.get 4 rfl) (n := 4) (vs := [_, _, _, _]) (by kernel_rfl) (Nat.le_of_ble_eq_true rfl) rfl) (beqA_agg (beqL_cons h.init.beq1 (beqL_cons h.threads.beq1 (beqL_cons h.from_.beq1 (beqL_cons h.order.beq1 beqL_nil)))))) (sC (sR rfl rfl rfl rfl rfl (xN rfl (hst.get 2 rfl) (n := 4) (vs := [_, _, _, _]) (by kernel_rfl) (Nat.le_of_ble_eq_true rfl) rfl) (beqA_agg (beqL_cons h3.init.beq1 (beqL_cons h3.threads.beq1 (beqL_cons h3.from_.beq1 (beqL_cons h3.order.beq1 beqL_nil)))))) s0)), ?_⟩
  refine pv_ rfl rfl (xC rfl rfl rfl (by kernel_rfl)) (fun _ => rfl) (w_Compare hG h h3 hst) (fun σ hst => ?_)
  refine ⟨s0, ?_⟩
  refine pV rfl rfl (xA rfl) rfl ?_
  refine pV rfl rfl (xA rfl) rfl ?_
  refine pV rfl rfl (xA rfl) rfl ?_
  refine pN ?_
  refine tN ?_
  refine eS ?_
  obtain ⟨LC6, hst, hLC6⟩ := hst.named
  refine ev_cutW [62, 63, 64, 65, 66, 67, 68, 69, 70, 71, 72, 73, 74, 75, 76, 77, 78, 79, 80, 81, 82, 83, 84, 85, 86, 87, 88, 89, 90, 91, 92, 93, 94, 95, 96, 97, 98, 99] (fun t σ => ∃ (q : Bool), q = false ∧ t.get 99 = some (.bool q) ∧ St σ K LC6) ?_ ?_
  ·subst hLC6
   refine eR rfl ?_
   refine eV rfl (xN rfl (hst.get 3 rfl) (n := 4) (vs := [_, _, _, _]) (by kernel_rfl) (Nat.le_of_ble_eq_true rfl) rfl) rfl ?_
   refine eV rfl (xN rfl (hst.get 4 rfl) (n := 4) (vs := [_, _, _, _]) (by kernel_rfl) (Nat.le_of_ble_eq_true rfl) rfl) rfl ?_
   refine oV rfl (xC rfl rfl rfl (by kernel_rfl)) (fun _ => rfl) (w_Compare hG h2 h hst) (fun σ hst => ?_)
   refine eV rfl (xM rfl) rfl ?_
   refine eV rfl (xU rfl rfl) rfl ?_
   refine eV rfl (xB rfl rfl rfl) rfl ?_
   refine oS rfl (xM rfl) (fun _ => rfl) (fun h68 => ?_) (fun h68 => ?_)
   ·exact absurd (h68.symm.trans (cmp_neg g o)) (by decide)
   ·refine eV rfl (xM rfl) rfl ?_
    refine eV rfl (xB rfl rfl rfl) rfl ?_
    refine eV rfl (xN rfl (hst.get 4 rfl) (n := 4) (vs := [_, _, _, _]) (by kernel_rfl) (Nat.le_of_ble_eq_true rfl) rfl) rfl ?_
    refine eV rfl (xN rfl (hst.get 3 rfl) (n := 4) (vs := [_, _, _, _]) (by kernel_rfl) (Nat.le_of_ble_eq_true rfl) rfl) rfl ?_
    refine oV rfl (xC rfl rfl rfl (by kernel_rfl)) (fun _ => rfl) (w_Graph hG hst h h2) (fun σ hst => ?_)
    refine eV rfl (xB rfl rfl rfl) rfl ?_
    refine eV rfl (xP rfl rfl) rfl ?_
    refine oS rfl (xM rfl) (fun _ => rfl) (fun h76 => ?_) (fun h76 => ?_)
    ·exact absurd h76 (by rw [cmp_same]; cases sameX g o <;> decide)
    ·refine eV rfl (xM rfl) rfl ?_
     refine eV rfl (xB rfl rfl rfl) rfl ?_
     refine oS rfl (xM rfl) (fun _ => rfl) (fun h79 => ?_) (fun h79 => ?_)
     ·refine eV rfl (xM rfl) rfl ?_
      refine eV rfl (xB rfl rfl rfl) rfl ?_
      refine eV rfl (xP rfl rfl) rfl ?_
      refine oS rfl (xM rfl) (fun _ => rfl) (fun h83 => ?_) (fun h83 => ?_)
      ·refine eV rfl (xM rfl) rfl ?_
       refine eV rfl (xB rfl rfl rfl) rfl ?_
       refine eV rfl (xP rfl rfl) rfl ?_
       refine eV rfl (xP rfl rfl) rfl ?_
       refine oS rfl (xM rfl) (fun _ => rfl) (fun h88 => ?_) (fun h88 => ?_)
       ·exact absurd (h88.symm.trans (cmp_up h79 h83)) (by decide)
       ·refine eV rfl (xM rfl) rfl ?_
        refine eV rfl (xB rfl rfl rfl) rfl ?_
        refine oS rfl (xM rfl) (fun _ => rfl) (fun h91 => ?_) (fun h91 => ?_)
        ·refine eV rfl (xM rfl) rfl ?_
         refine eV rfl (xB rfl rfl rfl) rfl ?_
         refine eV rfl (xP rfl rfl) rfl ?_
         refine oS rfl (xM rfl) (fun _ => rfl) (fun h95 => ?_) (fun h95 => ?_)
         ·refine eV rfl (xM rfl) rfl ?_
          refine eV rfl (xB rfl rfl rfl) rfl ?_
          refine eV rfl (xP rfl rfl) rfl ?_
          refine eV rfl (xP rfl rfl) rfl ?_
          refine eN ?_
          exact ⟨rfl, (by (iterate 38 refine OffW.put rfl ?_); exact OffW.refl _ _), _, cmp_down h91 h95, rfl, hst⟩
         ·refine eU rfl rfl ?_
          refine eU rfl rfl ?_
          refine eV rfl (xP rfl rfl) rfl ?_
          refine eV rfl (xP rfl rfl) rfl ?_
          refine eN ?_
          exact ⟨rfl, (by (iterate 38 refine OffW.put rfl ?_); exact OffW.refl _ _), _, rfl, rfl, hst⟩
        ·refine eU rfl rfl ?_
         refine eU rfl rfl ?_
         refine eV rfl (xP rfl rfl) rfl ?_
         refine eV rfl (xM rfl) rfl ?_
         refine eU rfl rfl ?_
         refine eU rfl rfl ?_
         refine eV rfl (xP rfl rfl) rfl ?_
         refine eV rfl (xP rfl rfl) rfl ?_
         refine eN ?_
         exact ⟨rfl, (by (iterate 38 refine OffW.put rfl ?_); exact OffW.refl _ _), _, rfl, rfl, hst⟩
      ·refine eU rfl rfl ?_
       refine eU rfl rfl ?_
       refine eV rfl (xP rfl rfl) rfl ?_
       refine eV rfl (xP rfl rfl) rfl ?_
       refine eV rfl (xM rfl) rfl ?_
       refine eV rfl (xM rfl) rfl ?_
       refine eV rfl (xB rfl rfl rfl) rfl ?_
       refine oS rfl (xM rfl) (fun _ => rfl) (fun h91 => ?_) (fun h91 => ?_)
       ·refine eV rfl (xM rfl) rfl ?_
        refine eV rfl (xB rfl rfl rfl) rfl ?_
        refine eV rfl (xP rfl rfl) rfl ?_
        refine oS rfl (xM rfl) (fun _ => rfl) (fun h95 => ?_) (fun h95 => ?_)
        ·refine eV rfl (xM rfl) rfl ?_
         refine eV rfl (xB rfl rfl rfl) rfl ?_
         refine eV rfl (xP rfl rfl) rfl ?_
         refine eV rfl (xP rfl rfl) rfl ?_
         refine eN ?_
         exact ⟨rfl, (by (iterate 38 refine OffW.put rfl ?_); exact OffW.refl _ _), _, cmp_down h91 h95, rfl, hst⟩
        ·refine eU rfl rfl ?_
         refine eU rfl rfl ?_
         refine eV rfl (xP rfl rfl) rfl ?_
         refine eV rfl (xP rfl rfl) rfl ?_
         refine eN ?_
         exact ⟨rfl, (by (iterate 38 refine OffW.put rfl ?_); exact OffW.refl _ _), _, rfl, rfl, hst⟩
       ·refine eU rfl rfl ?_
        refine eU rfl rfl ?_
        refine eV rfl (xP rfl rfl) rfl ?_
        refine eV rfl (xM rfl) rfl ?_
        refine eU rfl rfl ?_
        refine eU rfl rfl ?_
        refine eV rfl (xP rfl rfl) rfl ?_
        refine eV rfl (xP rfl rfl) rfl ?_
        refine eN ?_
        exact ⟨rfl, (by (iterate 38 refine OffW.put rfl ?_); exact OffW.refl _ _), _, rfl, rfl, hst⟩
     ·refine eU rfl rfl ?_
      refine eU rfl rfl ?_
      refine eV rfl (xP rfl rfl) rfl ?_
      refine eV rfl (xM rfl) rfl ?_
      refine eU rfl rfl ?_
      refine eU rfl rfl ?_
      refine eV rfl (xP rfl rfl) rfl ?_
      refine eV rfl (xP rfl rfl) rfl ?_
      refine eV rfl (xM rfl) rfl ?_
      refine eV rfl (xM rfl) rfl ?_
      refine eV rfl (xB rfl rfl rfl) rfl ?_
      refine oS rfl (xM rfl) (fun _ => rfl) (fun h91 => ?_) (fun h91 => ?_)
      ·refine eV rfl (xM rfl) rfl ?_
       refine eV rfl (xB rfl rfl rfl) rfl ?_
       refine eV rfl (xP rfl rfl) rfl ?_
       refine oS rfl (xM rfl) (fun _ => rfl) (fun h95 => ?_) (fun h95 => ?_)
       ·refine eV rfl (xM rfl) rfl ?_
        refine eV rfl (xB rfl rfl rfl) rfl ?_
        refine eV rfl (xP rfl rfl) rfl ?_
        refine eV rfl (xP rfl rfl) rfl ?_
        refine eN ?_
        exact ⟨rfl, (by (iterate 38 refine OffW.put rfl ?_); exact OffW.refl _ _), _, cmp_down h91 h95, rfl, hst⟩
       ·refine eU rfl rfl ?_
        refine eU rfl rfl ?_
        refine eV rfl (xP rfl rfl) rfl ?_
        refine eV rfl (xP rfl rfl) rfl ?_
        refine eN ?_
        exact ⟨rfl, (by (iterate 38 refine OffW.put rfl ?_); exact OffW.refl _ _), _, rfl, rfl, hst⟩
      ·refine eU rfl rfl ?_
       refine eU rfl rfl ?_
       refine eV rfl (xP rfl rfl) rfl ?_
       refine eV rfl (xM rfl) rfl ?_
       refine eU rfl rfl ?_
       refine eU rfl rfl ?_
       refine eV rfl (xP rfl rfl) rfl ?_
       refine eV rfl (xP rfl rfl) rfl ?_
       refine eN ?_
       exact ⟨rfl, (by (iterate 38 refine OffW.put rfl ?_); exact OffW.refl _ _), _, rfl, rfl, hst⟩
  clear hst; intro t σ hoff hI; obtain ⟨q6, hq6, hv99, hst⟩ := hI
  subst hLC6
  obtain ⟨o62, o63, o64, o65, o66, o67, o68, o69, hoff⟩ := hoff.ex8 rfl rfl
  obtain ⟨o70, o71, o72, o73, o74, o75, o76, o77, hoff⟩ := hoff.ex8 rfl rfl
  obtain ⟨o78, o79, o80, o81, o82, o83, o84, o85, hoff⟩ := hoff.ex8 rfl rfl
  obtain ⟨o86, o87, o88, o89, o90, o91, o92, o93, hoff⟩ := hoff.ex8 rfl rfl
  obtain ⟨o94, o95, o96, o97, hoff⟩ := hoff.ex4 rfl
  obtain ⟨o98, hoff⟩ := hoff.ex1 rfl
  obtain ⟨o99, hoff⟩ := hoff.ex1 rfl
  obtain rfl := hoff.nil; clear hoff
  replace hv99 : o99 = some _ := hv99; subst hv99
  subst hq6
  refine eF rfl ?_
  refine eI ?_
  refine tN ?_
  refine eS ?_
  refine eR rfl ?_
  refine eV rfl (xN rfl (hst.get 4 rfl) (n := 4) (vs := [_, _, _, _]) (by kernel_rfl) (Nat.le_of_ble_eq_true rfl) rfl) rfl ?_
  refine oV rfl (xC rfl rfl rfl (by kernel_rfl)) (fun _ => rfl) (w_Count hG h hst) (fun σ hst => ?_)
  refine eV rfl (xA rfl) rfl ?_
  refine eN ?_
  refine tN ?_
  refine eS ?_
  refine eS ?_
  refine eR rfl ?_
  refine eV rfl (xA rfl) rfl ?_
  refine eN ?_
  refine tN ?_
  refine eB ?_
  obtain ⟨LL1, hst, hLL1⟩ := hst.named
  refine eW [14, 19, 20, 21, 102, 103, 104, 105, 106, 107, 108, 109, 110, 111, 112, 113, 114, 115, 116, 117, 118, 119, 120, 121] (fun j t σ => ∃ (i : Nat), j + i = countG g ∧ t.get 19 = some (.int .i64 (.ofNat i)) ∧ St σ K LL1) (countG g) ⟨0, rfl, rfl, hst⟩ ?_
  clear hst; intro j10 t σ hoff hI; obtain ⟨i, hj10, hv19, hst⟩ := hI
  subst hLL1
  obtain ⟨o14, o19, o20, o21, o102, o103, o104, o105, hoff⟩ := hoff.ex8 rfl rfl
  obtain ⟨o106, o107, o108, o109, o110, o111, o112, o113, hoff⟩ := hoff.ex8 rfl rfl
  obtain ⟨o114, o115, o116, o117, o118, o119, o120, o121, hoff⟩ := hoff.ex8 rfl rfl
  obtain rfl := hoff.nil; clear hoff
  replace hv19 : o19 = some _ := hv19; subst hv19
  refine eS ?_
  refine eS ?_
  refine eR rfl ?_
  refine eV rfl (xM rfl) rfl ?_
  refine eV rfl (xM rfl) rfl ?_
  refine eV rfl (xB rfl rfl rfl) rfl ?_
  refine eN ?_
  refine tN ?_
  refine e2_ rfl (fun h104 => ?_) (fun h104 => ?_)
  ·refine eI ?_
   refine tN ?_
   refine eS ?_
   refine eB ?_
   refine eS ?_
   refine eR rfl ?_
   refine eV rfl (xN rfl (hst.get 4 rfl) (n := 4) (vs := [_, _, _, _]) (by kernel_rfl) (Nat.le_of_ble_eq_true rfl) rfl) rfl ?_
   refine eV rfl (xM rfl) rfl ?_
   obtain ⟨idA, hatA, hnumA, _⟩ := at_num (lt_yes h104)
   refine oV rfl (xC rfl rfl rfl (by kernel_rfl)) (fun _ => rfl) (w_AtI hG h (by have := lt_yes h104; have := count_le (g := g); omega) hatA hst) (fun σ hst => ?_)
   refine eV rfl (xM rfl) rfl ?_
   refine eV rfl (xU rfl rfl) rfl ?_
   refine eV rfl (xU rfl rfl) rfl ?_
   refine oP hst rfl (xe (cs := [.int .i64 0, .int .i64 0]) (by kernel_rfl) (by kernel_rfl)) (fun _ => rfl) (fun σ b6 hst => ?_)
   refine o_set0 hst rfl (xS rfl rfl rfl (hst.get 0 rfl) (m := 2) (by kernel_rfl) rfl (Nat.le_of_ble_eq_true rfl) (lC rfl (lC rfl l0_)) (cells' := [_, _]) rfl) rfl (fun σ hst => ?_)
   refine eV rfl (xA rfl) rfl ?_
   refine eN ?_
   refine tN ?_
   refine eS ?_
   refine eR rfl ?_
   refine eV rfl (xM rfl) rfl ?_
   refine eV rfl (xn rfl) rfl ?_
   refine eV rfl (xM rfl) rfl ?_
   refine eV rfl (xN rfl (hst.get 5 rfl) (n := 4) (vs := [_, _, _, _]) (by kernel_rfl) (Nat.le_of_ble_eq_true rfl) rfl) rfl ?_
   refine eV rfl (xN rfl (hst.get 0 rfl) (n := 2) (vs := [_, _]) (by kernel_rfl) (Nat.le_of_ble_eq_true rfl) rfl) rfl ?_
   refine oV rfl (xC rfl rfl rfl (by kernel_rfl)) (fun _ => rfl) (w_NumberI hG h idA hnumA hst) (fun σ hst => ?_)
   refine eV rfl (xM rfl) rfl ?_
   refine eV rfl (xB rfl rfl rfl) rfl ?_
   refine eV rfl (xP rfl rfl) rfl ?_
   refine eN ?_
   refine tN ?_
   refine e2_ rfl (fun h121 => ?_) (fun h121 => ?_)
   ·exact absurd h121 (by rw [eqI_self]; decide)
   ·refine eI ?_
    refine bN ?_
    refine tN ?_
    refine eR rfl ?_
    refine eV rfl (xM rfl) rfl ?_
    refine eV rfl (xB rfl rfl rfl) rfl ?_
    refine eV rfl (xA rfl) rfl ?_
    refine eN ?_
    have hst := hst.pop
    refine lN ⟨j10 - 1, by have := lt_yes h104; omega, (by (iterate 47 refine OffW.put rfl ?_); exact OffW.refl _ _), i + 1, by have := lt_yes h104; omega, congrArg (fun z => some (AV.int .i64 z)) (wr_succ (by have := lt_yes h104; have := count_le (g := g); omega)), hst⟩
  ·refine eX ?_
   refine tX ?_
   refine lX ?_
   refine bX ?_
   refine tN ?_
   refine eS ?_
   refine eR rfl ?_
   refine eV rfl (xN rfl (hst.get 4 rfl) (n := 4) (vs := [_, _, _, _]) (by kernel_rfl) (Nat.le_of_ble_eq_true rfl) rfl) rfl ?_
   refine eV rfl (xM rfl) rfl ?_
   refine eV rfl (xN rfl (hst.get 1 rfl) (n := 5) (vs := [_, _, _, _, _]) (by kernel_rfl) (Nat.le_of_ble_eq_true rfl) rfl) rfl ?_
   refine eV rfl (xN rfl (hst.get 0 rfl) (n := 2) (vs := [_, _]) (by kernel_rfl) (Nat.le_of_ble_eq_true rfl) rfl) rfl ?_
   refine eV rfl (xM rfl) rfl ?_
   refine oC rfl (xC rfl rfl rfl (by kernel_rfl)) (fun _ => rfl) (w_Add hG hfk hov h _ _ e fr hst) ?_
   rintro _ σ (⟨er, hadd, rfl, hst⟩ | ⟨gh, aa, bb, cc, dd, M1, hadd, rfl, hA1, hst⟩)
   ·refine eV rfl (xM rfl) rfl ?_
    refine eV rfl (xU rfl rfl) rfl ?_
    refine eV rfl (xU rfl rfl) rfl ?_
    refine oP hst rfl (xe (cs := [.nilSlice, .nilSlice, .nilSlice, .nilSlice]) (by kernel_rfl) (by kernel_rfl)) (fun _ => rfl) (fun σ b6 hst => ?_)
    refine o_set0 hst rfl (xS rfl rfl rfl (hst.get 0 rfl) (m := 4) (by kernel_rfl) rfl (Nat.le_of_ble_eq_true rfl) (lC rfl (lC rfl (lC rfl (lC rfl l0_)))) (cells' := [_, _, _, _]) rfl) rfl (fun σ hst => ?_)
    refine eV rfl (xA rfl) rfl ?_
    refine eN ?_
    refine tN ?_
    refine eS ?_
    refine eS ?_
    refine eR rfl ?_
    refine eV rfl (xM rfl) rfl ?_
    refine eV rfl (xB rfl rfl rfl) rfl ?_
    refine eN ?_
    refine tN ?_
    refine e2_ rfl (fun h132 => ?_) (fun h132 => ?_)
    ·refine eS ?_
     refine eR rfl ?_
     refine eV rfl (xN rfl (hst.get 0 rfl) (n := 4) (vs := [_, _, _, _]) (by kernel_rfl) (Nat.le_of_ble_eq_true rfl) rfl) rfl ?_
     refine eV rfl (xb_ (places := [(0, 1), (1, 1), (2, 1), (3, 1)]) (zero := [.nilSlice, .nilSlice, .nilSlice, .nilSlice]) (cs := [_, _, _, _]) (by kernel_rfl) (by kernel_rfl) (by kernel_rfl) rfl (by kernel_rfl)) rfl ?_
     refine oV rfl (xC rfl rfl rfl (by kernel_rfl)) (fun _ => rfl) (w_Graph hG hst hasG_nil hasG_nil) (fun σ hst => ?_)
     refine eV rfl (xA rfl) rfl ?_
     refine eN ?_
     refine tN ?_
     refine eT ?_
     refine tR (?_)
     exact r1_ rfl rfl (congrArg AV.bool (sameX_iff.2 rfl))
    ·exact absurd h132 (by rw [addG_err hadd]; decide)
   ·replace hst := hst.keeps
    replace h := h.lift (M := M1); replace h2 := h2.lift (M := M1); replace h3 := h3.lift (M := M1)
    obtain ⟨tm, row, rfl, hrow, hck, hckh, hnew, hcnt2, hpl, hold, hwr⟩ := add_facts hadd
    refine eV rfl (xM rfl) rfl ?_
    refine eV rfl (xU rfl rfl) rfl ?_
    refine eV rfl (xU rfl rfl) rfl ?_
    refine oP hst rfl (xe (cs := [.nilSlice, .nilSlice, .nilSlice, .nilSlice]) (by kernel_rfl) (by kernel_rfl)) (fun _ => rfl) (fun σ b6 hst => ?_)
    refine o_set0 hst rfl (xS rfl rfl rfl (hst.get 0 rfl) (m := 4) (by kernel_rfl) rfl (Nat.le_of_ble_eq_true rfl) (lC hA1.init.leaf.2 (lC hA1.threads.leaf.2 (lC hA1.from_.leaf.2 (lC hA1.order.leaf.2 l0_)))) (cells' := [_, _, _, _]) rfl) rfl (fun σ hst => ?_)
    refine eV rfl (xA rfl) rfl ?_
    refine eN ?_
    refine tN ?_
    refine eS ?_
    refine eS ?_
    refine eR rfl ?_
    refine eV rfl (xM rfl) rfl ?_
    refine eV rfl (xB rfl rfl rfl) rfl ?_
    refine eN ?_
    refine tN ?_
    refine e2_ rfl (fun h132 => ?_) (fun h132 => ?_)
    ·exact absurd h132 (by decide)
    ·refine eI ?_
     refine tN ?_
     refine eS ?_
     refine eR rfl ?_
     refine eV rfl (xM rfl) rfl ?_
     refine eV rfl (xF rfl (k := 1) (by kernel_rfl)) rfl ?_
     refine eV rfl (x1_ rfl (hst.get 5 rfl) (by kernel_rfl) rfl) rfl ?_
     refine eV rfl (xM rfl) rfl ?_
     refine eV rfl (xB rfl rfl rfl) rfl ?_
     refine oI (e := 61) (m := 1) h.threads hrow rfl rfl (by kernel_rfl) (by kernel_rfl) rfl (congrArg (fun z => some (AV.int .i64 z)) (wr_pred (by have := h.threads.len_le; have := (List.getElem?_eq_some_iff.1 hrow).1; omega))) (fun _ => rfl) (fun p141 vs141 hp141 hl141 hr141 => ?_)
     have hr141' := hr141; obtain ⟨v141, rfl, hk141⟩ := hr141'
     refine eV rfl (xp hst hp141 rfl (by kernel_rfl) rfl) rfl ?_
     refine eV rfl (x_len' hk141 rfl rfl rfl (e := 45) (by kernel_rfl) rfl) rfl ?_
     refine eV rfl (xb_ (places := [(0, 1), (1, 1)]) (zero := [.int .i64 0, .int .i64 0]) (cs := [_, _]) (by kernel_rfl) (by kernel_rfl) (by kernel_rfl) rfl (by kernel_rfl)) rfl ?_
     refine oP hst rfl (xe (cs := [.int .i64 0, .int .i64 0]) (by kernel_rfl) (by kernel_rfl)) (fun _ => rfl) (fun σ b7 hst => ?_)
     refine o_set0 hst rfl (xS rfl rfl rfl (hst.get 0 rfl) (m := 2) (by kernel_rfl) rfl (Nat.le_of_ble_eq_true rfl) (lC rfl (lC rfl l0_)) (cells' := [_, _]) rfl) rfl (fun σ hst => ?_)
     refine eN ?_
     refine tN ?_
     refine eS ?_
     refine eR rfl ?_
     refine eV rfl (xN rfl (hst.get 1 rfl) (n := 4) (vs := [_, _, _, _]) (by kernel_rfl) (Nat.le_of_ble_eq_true rfl) rfl) rfl ?_
     refine eV rfl (xN rfl (hst.get 0 rfl) (n := 2) (vs := [_, _]) (by kernel_rfl) (Nat.le_of_ble_eq_true rfl) rfl) rfl ?_
     refine oV rfl (xC rfl rfl rfl (by kernel_rfl)) (fun _ => rfl) (w_EventI hG hA1 ⟨.ofNat (tm + 1), .ofNat row.length⟩ (eventG_of hckh hnew) hst) (fun σ hst => ?_)
     refine eV rfl (xM rfl) rfl ?_
     refine eV rfl (xU rfl rfl) rfl ?_
     refine eV rfl (xU rfl rfl) rfl ?_
     refine oP hst rfl (xe (cs := [.int .i64 0, .int .i64 0, .int .i64 0, .int .i64 0, .int .i64 0]) (by kernel_rfl) (by kernel_rfl)) (fun _ => rfl) (fun σ b8 hst => ?_)
     refine o_set0 hst rfl (xS rfl rfl rfl (hst.get 0 rfl) (m := 5) (by kernel_rfl) rfl (Nat.le_of_ble_eq_true rfl) (lC rfl (lC rfl (lC rfl (lC rfl (lC rfl l0_))))) (cells' := [_, _, _, _, _]) rfl) rfl (fun σ hst => ?_)
     refine eV rfl (xA rfl) rfl ?_
     refine eN ?_
     refine tN ?_
     refine eS ?_
     obtain ⟨LC20, hst, hLC20⟩ := hst.named
     refine ev_cutW [151, 152, 153, 154, 155, 156, 157, 158, 159, 160, 161, 162, 163, 164, 165, 166, 167, 168, 169, 170, 171, 172, 173, 174, 175, 176, 177, 178, 179, 180] (fun t σ => ∃ (q : Bool), q = false ∧ t.get 180 = some (.bool q) ∧ St σ (K.adds M1) LC20) ?_ ?_
     ·subst hLC20
      refine eR rfl ?_
      refine eV rfl (xN rfl (hst.get 2 rfl) (n := 4) (vs := [_, _, _, _]) (by kernel_rfl) (Nat.le_of_ble_eq_true rfl) rfl) rfl ?_
      refine oV rfl (xC rfl rfl rfl (by kernel_rfl)) (fun _ => rfl) (w_CheckI hG hA1 hckh hst) (fun σ hst => ?_)
      refine eV rfl (xB rfl rfl rfl) rfl ?_
      refine oS rfl (xM rfl) (fun _ => rfl) (fun h154 => ?_) (fun h154 => ?_)
      ·exact absurd h154 (by decide)
      ·refine eV rfl (xN rfl (hst.get 2 rfl) (n := 4) (vs := [_, _, _, _]) (by kernel_rfl) (Nat.le_of_ble_eq_true rfl) rfl) rfl ?_
       refine oV rfl (xC rfl rfl rfl (by kernel_rfl)) (fun _ => rfl) (w_CountI hG hA1 hcnt2 hst) (fun σ hst => ?_)
       refine eV rfl (xM rfl) rfl ?_
       refine eV rfl (xB rfl rfl rfl) rfl ?_
       refine eV rfl (xB rfl rfl rfl) rfl ?_
       refine eV rfl (xP rfl rfl) rfl ?_
       refine oS rfl (xM rfl) (fun _ => rfl) (fun h161 => ?_) (fun h161 => ?_)
       ·exact absurd (h161.symm.trans (cnt_ok (by have := count_le (g := g); omega))) (by decide)
       ·refine eV rfl (xM rfl) rfl ?_
        refine eV rfl (xn rfl) rfl ?_
        refine eV rfl (xP rfl rfl) rfl ?_
        refine eV rfl (xM rfl) rfl ?_
        refine eV rfl (xN rfl (hst.get 0 rfl) (n := 5) (vs := [_, _, _, _, _]) (by kernel_rfl) (Nat.le_of_ble_eq_true rfl) rfl) rfl ?_
        refine eV rfl (xN rfl (hst.get 4 rfl) (n := 5) (vs := [_, _, _, _, _]) (by kernel_rfl) (Nat.le_of_ble_eq_true rfl) rfl) rfl ?_
        refine eV rfl (x_neS (n := 5) (ca := [_, _, _, _, _]) (cb := [_, _, _, _, _]) (by kernel_rfl) rfl rfl rfl rfl) rfl ?_
        refine eV rfl (xP rfl rfl) rfl ?_
        refine oS rfl (xM rfl) (fun _ => rfl) (fun h170 => ?_) (fun h170 => ?_)
        ·exact absurd h170 (by rw [sameX_iff.2 rfl]; decide)
        ·refine eV rfl (xM rfl) rfl ?_
         refine eV rfl (xB rfl rfl rfl) rfl ?_
         refine oS rfl (xM rfl) (fun _ => rfl) (fun h173 => ?_) (fun h173 => ?_)
         ·refine eV rfl (xN rfl (hst.get 2 rfl) (n := 4) (vs := [_, _, _, _]) (by kernel_rfl) (Nat.le_of_ble_eq_true rfl) rfl) rfl ?_
          refine eV rfl (xN rfl (hst.get 1 rfl) (n := 2) (vs := [_, _]) (by kernel_rfl) (Nat.le_of_ble_eq_true rfl) rfl) rfl ?_
          refine oV rfl (xC rfl rfl rfl (by kernel_rfl)) (fun _ => rfl) (w_PlaceI hG hA1 ⟨.ofNat (tm + 1), .ofNat row.length⟩ (place_ok (eventG_of hckh hnew) (hpl h173)) hst) (fun σ hst => ?_)
          refine eV rfl (xM rfl) rfl ?_
          refine eV rfl (xB rfl rfl rfl) rfl ?_
          refine eV rfl (xP rfl rfl) rfl ?_
          refine eV rfl (xP rfl rfl) rfl ?_
          refine eN ?_
          exact ⟨rfl, (by (iterate 30 refine OffW.put rfl ?_); exact OffW.refl _ _), _, by rw [eqI_self]; rfl, rfl, hst⟩
         ·refine eU rfl rfl ?_
          refine eU rfl rfl ?_
          refine eU rfl rfl ?_
          refine eU rfl rfl ?_
          refine eU rfl rfl ?_
          refine eV rfl (xP rfl rfl) rfl ?_
          refine eV rfl (xP rfl rfl) rfl ?_
          refine eN ?_
          exact ⟨rfl, (by (iterate 30 refine OffW.put rfl ?_); exact OffW.refl _ _), _, rfl, rfl, hst⟩
     clear hst; intro t σ hoff hI; obtain ⟨q20, hq20, hv180, hst⟩ := hI
     subst hLC20
     obtain ⟨o151, o152, o153, o154, o155, o156, o157, o158, hoff⟩ := hoff.ex8 rfl rfl
     obtain ⟨o159, o160, o161, o162, o163, o164, o165, o166, hoff⟩ := hoff.ex8 rfl rfl
     obtain ⟨o167, o168, o169, o170, o171, o172, o173, o174, hoff⟩ := hoff.ex8 rfl rfl
     obtain ⟨o175, o176, o177, o178, hoff⟩ := hoff.ex4 rfl
     obtain ⟨o179, hoff⟩ := hoff.ex1 rfl
     obtain ⟨o180, hoff⟩ := hoff.ex1 rfl
     obtain rfl := hoff.nil; clear hoff
     replace hv180 : o180 = some _ := hv180; subst hv180
     subst hq20
     refine eF rfl ?_
     refine eI ?_
     refine tN ?_
     refine eS ?_
     refine eS ?_
     refine eR rfl ?_
     refine eV rfl (xA rfl) rfl ?_
     refine eN ?_
     refine tN ?_
     refine eB ?_
     obtain ⟨LL2, hst, hLL2⟩ := hst.named
     refine eW [14, 27, 28, 29, 30, 31, 32, 33, 181, 182, 183, 184, 185, 186, 187, 188, 189, 190, 191, 192, 193, 194, 195, 196, 197, 198, 199, 200, 201, 202, 203, 204, 205, 206] (fun j t σ => ∃ (i : Nat), j + i = countG g ∧ t.get 27 = some (.int .i64 (.ofNat i)) ∧ St σ (K.adds M1) LL2) (countG g) ⟨0, rfl, rfl, hst⟩ ?_
     clear hst; intro j23 t σ hoff hI; obtain ⟨i, hj23, hv27, hst⟩ := hI
     subst hLL2
     obtain ⟨o14, o27, o28, o29, o30, o31, o32, o33, hoff⟩ := hoff.ex8 rfl rfl
     obtain ⟨o181, o182, o183, o184, o185, o186, o187, o188, hoff⟩ := hoff.ex8 rfl rfl
     obtain ⟨o189, o190, o191, o192, o193, o194, o195, o196, hoff⟩ := hoff.ex8 rfl rfl
     obtain ⟨o197, o198, o199, o200, o201, o202, o203, o204, hoff⟩ := hoff.ex8 rfl rfl
     obtain ⟨o205, hoff⟩ := hoff.ex1 rfl
     obtain ⟨o206, hoff⟩ := hoff.ex1 rfl
     obtain rfl := hoff.nil; clear hoff
     replace hv27 : o27 = some _ := hv27; subst hv27
     refine eS ?_
     refine eS ?_
     refine eR rfl ?_
     refine eV rfl (xM rfl) rfl ?_
     refine eV rfl (xM rfl) rfl ?_
     refine eV rfl (xB rfl rfl rfl) rfl ?_
     refine eN ?_
     refine tN ?_
     refine e2_ rfl (fun h183 => ?_) (fun h183 => ?_)
     ·refine eI ?_
      refine tN ?_
      refine eS ?_
      refine eB ?_
      refine eS ?_
      refine eR rfl ?_
      refine eV rfl (xN rfl (hst.get 7 rfl) (n := 4) (vs := [_, _, _, _]) (by kernel_rfl) (Nat.le_of_ble_eq_true rfl) rfl) rfl ?_
      refine eV rfl (xM rfl) rfl ?_
      obtain ⟨idB, evB, hatB, hevB⟩ := at_event (lt_yes h183)
      refine oV rfl (xC rfl rfl rfl (by kernel_rfl)) (fun _ => rfl) (w_AtI hG h (by have := lt_yes h183; have := count_le (g := g); omega) hatB hst) (fun σ hst => ?_)
      refine eV rfl (xM rfl) rfl ?_
      refine eV rfl (xU rfl rfl) rfl ?_
      refine eV rfl (xU rfl rfl) rfl ?_
      refine oP hst rfl (xe (cs := [.int .i64 0, .int .i64 0]) (by kernel_rfl) (by kernel_rfl)) (fun _ => rfl) (fun σ b9 hst => ?_)
      refine o_set0 hst rfl (xS rfl rfl rfl (hst.get 0 rfl) (m := 2) (by kernel_rfl) rfl (Nat.le_of_ble_eq_true rfl) (lC rfl (lC rfl l0_)) (cells' := [_, _]) rfl) rfl (fun σ hst => ?_)
      refine eV rfl (xA rfl) rfl ?_
      refine eN ?_
      refine tN ?_
      refine eS ?_
      refine eR rfl ?_
      refine eV rfl (xN rfl (hst.get 8 rfl) (n := 4) (vs := [_, _, _, _]) (by kernel_rfl) (Nat.le_of_ble_eq_true rfl) rfl) rfl ?_
      refine eV rfl (xN rfl (hst.get 0 rfl) (n := 2) (vs := [_, _]) (by kernel_rfl) (Nat.le_of_ble_eq_true rfl) rfl) rfl ?_
      refine oV rfl (xC rfl rfl rfl (by kernel_rfl)) (fun _ => rfl) (w_EventI hG h idB hevB hst) (fun σ hst => ?_)
      refine eV rfl (xM rfl) rfl ?_
      refine eV rfl (xU rfl rfl) rfl ?_
      refine eV rfl (xU rfl rfl) rfl ?_
      refine oP hst rfl (xe (cs := [.int .i64 0, .int .i64 0, .int .i64 0, .int .i64 0, .int .i64 0]) (by kernel_rfl) (by kernel_rfl)) (fun _ => rfl) (fun σ b10 hst => ?_)
      refine o_set0 hst rfl (xS rfl rfl rfl (hst.get 0 rfl) (m := 5) (by kernel_rfl) rfl (Nat.le_of_ble_eq_true rfl) (lC rfl (lC rfl (lC rfl (lC rfl (lC rfl l0_))))) (cells' := [_, _, _, _, _]) rfl) rfl (fun σ hst => ?_)
      refine eV rfl (xA rfl) rfl ?_
      refine eN ?_
      refine tN ?_
      refine eS ?_
      refine eR rfl ?_
      refine eV rfl (xN rfl (hst.get 4 rfl) (n := 4) (vs := [_, _, _, _]) (by kernel_rfl) (Nat.le_of_ble_eq_true rfl) rfl) rfl ?_
      refine eV rfl (xN rfl (hst.get 1 rfl) (n := 2) (vs := [_, _]) (by kernel_rfl) (Nat.le_of_ble_eq_true rfl) rfl) rfl ?_
      refine oV rfl (xC rfl rfl rfl (by kernel_rfl)) (fun _ => rfl) (w_EventI hG hA1 idB (eventG_of hckh (hold _ _ (eventG_at hevB))) hst) (fun σ hst => ?_)
      refine eV rfl (xM rfl) rfl ?_
      refine eV rfl (xU rfl rfl) rfl ?_
      refine eV rfl (xU rfl rfl) rfl ?_
      refine oP hst rfl (xe (cs := [.int .i64 0, .int .i64 0, .int .i64 0, .int .i64 0, .int .i64 0]) (by kernel_rfl) (by kernel_rfl)) (fun _ => rfl) (fun σ b11 hst => ?_)
      refine o_set0 hst rfl (xS rfl rfl rfl (hst.get 0 rfl) (m := 5) (by kernel_rfl) rfl (Nat.le_of_ble_eq_true rfl) (lC rfl (lC rfl (lC rfl (lC rfl (lC rfl l0_))))) (cells' := [_, _, _, _, _]) rfl) rfl (fun σ hst => ?_)
      refine eV rfl (xA rfl) rfl ?_
      refine eN ?_
      refine tN ?_
      refine eS ?_
      refine eR rfl ?_
      refine eV rfl (xN rfl (hst.get 1 rfl) (n := 5) (vs := [_, _, _, _, _]) (by kernel_rfl) (Nat.le_of_ble_eq_true rfl) rfl) rfl ?_
      refine eV rfl (xN rfl (hst.get 0 rfl) (n := 5) (vs := [_, _, _, _, _]) (by kernel_rfl) (Nat.le_of_ble_eq_true rfl) rfl) rfl ?_
      refine eV rfl (x_neS (n := 5) (ca := [_, _, _, _, _]) (cb := [_, _, _, _, _]) (by kernel_rfl) rfl rfl rfl rfl) rfl ?_
      refine eN ?_
      refine tN ?_
      refine e2_ rfl (fun h206 => ?_) (fun h206 => ?_)
      ·exact absurd h206 (by rw [sameX_iff.2 rfl]; decide)
      ·refine eI ?_
       refine bN ?_
       refine tN ?_
       refine eR rfl ?_
       refine eV rfl (xM rfl) rfl ?_
       refine eV rfl (xB rfl rfl rfl) rfl ?_
       refine eV rfl (xA rfl) rfl ?_
       refine eN ?_
       have hst := hst.pop
       have hst := hst.pop
       have hst := hst.pop
       refine lN ⟨j23 - 1, by have := lt_yes h183; omega, (by (iterate 67 refine OffW.put rfl ?_); exact OffW.refl _ _), i + 1, by have := lt_yes h183; omega, congrArg (fun z => some (AV.int .i64 z)) (wr_succ (by have := lt_yes h183; have := count_le (g := g); omega)), hst⟩
     ·refine eX ?_
      refine tX ?_
      refine lX ?_
      refine bX ?_
      refine tN ?_
      refine eS ?_
      refine eS ?_
      refine eR rfl ?_
      refine eV rfl (xA rfl) rfl ?_
      refine eN ?_
      refine tN ?_
      refine eB ?_
      obtain ⟨LL3, hst, hLL3⟩ := hst.named
      refine eW [14, 34, 35, 36, 37, 207, 208, 209, 210, 211, 212, 213, 214, 215, 216, 217, 218, 219, 220, 221, 222, 223, 224, 225, 226, 227, 228, 229, 230, 231, 232, 233, 234, 235, 236, 237, 238, 239, 240, 241] (fun j t σ => ∃ (i : Nat), j + i = g.init.length ∧ t.get 34 = some (.int .i64 (.ofNat i)) ∧ St σ (K.adds M1) LL3) (g.init.length) ⟨0, rfl, rfl, hst⟩ ?_
      clear hst; intro j31 t σ hoff hI; obtain ⟨i, hj31, hv34, hst⟩ := hI
      subst hLL3
      obtain ⟨o14, o34, o35, o36, o37, o207, o208, o209, hoff⟩ := hoff.ex8 rfl rfl
      obtain ⟨o210, o211, o212, o213, o214, o215, o216, o217, hoff⟩ := hoff.ex8 rfl rfl
      obtain ⟨o218, o219, o220, o221, o222, o223, o224, o225, hoff⟩ := hoff.ex8 rfl rfl
      obtain ⟨o226, o227, o228, o229, o230, o231, o232, o233, hoff⟩ := hoff.ex8 rfl rfl
      obtain ⟨o234, o235, o236, o237, o238, o239, o240, o241, hoff⟩ := hoff.ex8 rfl rfl
      obtain rfl := hoff.nil; clear hoff
      replace hv34 : o34 = some _ := hv34; subst hv34
      refine eS ?_
      refine eS ?_
      refine eR rfl ?_
      refine eV rfl (xM rfl) rfl ?_
      refine eV rfl (xF rfl (k := 0) (by kernel_rfl)) rfl ?_
      refine eV rfl (x1_ rfl (hst.get 7 rfl) (by kernel_rfl) rfl) rfl ?_
      refine eV rfl (x_len' h.init rfl rfl rfl (e := 2) (by kernel_rfl) rfl) rfl ?_
      refine eV rfl (xB rfl rfl rfl) rfl ?_
      refine eN ?_
      refine tN ?_
      refine e2_ rfl (fun h211 => ?_) (fun h211 => ?_)
      ·refine eI ?_
       refine tN ?_
       refine eS ?_
       refine eB ?_
       refine eS ?_
       refine eR rfl ?_
       refine eV rfl (xA rfl) rfl ?_
       refine eN ?_
       refine tN ?_
       refine eS ?_
       refine eR rfl ?_
       refine eV rfl (xN rfl (hst.get 2 rfl) (n := 4) (vs := [_, _, _, _]) (by kernel_rfl) (Nat.le_of_ble_eq_true rfl) rfl) rfl ?_
       refine eV rfl (xM rfl) rfl ?_
       refine oC rfl (xC rfl rfl rfl (by kernel_rfl)) (fun _ => rfl) (w_Writes hG hA1 (fun l hl => by have := order_le hckh l hl; omega) _ hst) ?_
       rintro u216 σ ⟨M216, hM216, hst⟩
       replace hst := hst.keeps
       replace h := h.lift (M := M216); replace h2 := h2.lift (M := M216); replace h3 := h3.lift (M := M216); replace hA1 := hA1.lift (M := M216)
       have hS216 := hM216.hasS (K := (K.adds M1).adds M216) fun y hy => .inr hy
       refine eV rfl (xA rfl) rfl ?_
       refine eN ?_
       refine tN ?_
       refine eS ?_
       refine eS ?_
       refine eR rfl ?_
       obtain ⟨LB, hst, hLB⟩ := hst.named
       refine eV rfl (xA rfl) rfl ?_
       refine eN ?_
       refine tN ?_
       refine eB ?_
       refine eW [35, 37, 217, 218, 219, 220, 221, 222, 223, 224, 225, 226, 227, 228, 229, 230, 231, 232, 233, 234, 235] (fun j t σ => ∃ (i2 : Nat) (u : AV) (M : Own), j + i2 = (writesG gh (.ofNat i)).length ∧ OwnS 2 47 RId (((writesG gh (.ofNat i)).take i2).filter (neId ⟨.ofNat (tm + 1), .ofNat row.length⟩)) u M ∧ t.get 35 = some (u) ∧ t.get 37 = some (.int .i64 (.ofNat i2)) ∧ St σ ((K.adds M1).adds M216) (M ++ LB)) ((writesG gh (.ofNat i)).length) ⟨0, .nilSlice, [], rfl, .inl ⟨rfl, rfl, rfl⟩, rfl, rfl, hst⟩ ?_
       clear hst; intro j36 t σ hoff hI; obtain ⟨i2, u, M, hj36, hO, hv35, hv37, hst⟩ := hI
       obtain ⟨o35, o37, o217, o218, o219, o220, o221, o222, hoff⟩ := hoff.ex8 rfl rfl
       obtain ⟨o223, o224, o225, o226, o227, o228, o229, o230, hoff⟩ := hoff.ex8 rfl rfl
       obtain ⟨o231, o232, o233, o234, hoff⟩ := hoff.ex4 rfl
       obtain ⟨o235, hoff⟩ := hoff.ex1 rfl
       obtain rfl := hoff.nil; clear hoff
       replace hv35 : o35 = some _ := hv35; subst hv35
       replace hv37 : o37 = some _ := hv37; subst hv37
       subst hLB
       refine eS ?_
       refine eS ?_
       refine eR rfl ?_
       refine eV rfl (xM rfl) rfl ?_
       refine eV rfl (xM rfl) rfl ?_
       refine eV rfl (x_len' hS216 rfl rfl rfl (e := 47) (by kernel_rfl) rfl) rfl ?_
       refine eV rfl (xB rfl rfl rfl) rfl ?_
       refine eN ?_
       refine tN ?_
       refine e2_ rfl (fun h220 => ?_) (fun h220 => ?_)
       ·refine eI ?_
        refine tN ?_
        refine eS ?_
        refine eB ?_
        refine eS ?_
        refine eP (l := [(0, []), (1, []), (2, []), (3, []), (4, []), (5, [])]) (by kernel_rfl) (by kernel_rfl) ?_
        refine pV rfl rfl (xM rfl) rfl ?_
        refine pV rfl rfl (xM rfl) rfl ?_
        obtain ⟨x225, hx225, hi225⟩ := at_lt h220
        refine pi (e := 47) (m := 2) hS216 hx225 rfl rfl rfl (by kernel_rfl) (by kernel_rfl) rfl rfl (fun _ => rfl) (fun p225 vs225 hp225 hl225 hr225 => ?_)
        obtain rfl := hr225
        refine pV rfl rfl (xw hst hp225 rfl (by kernel_rfl) rfl) rfl ?_
        refine pV rfl rfl (xN rfl (hst.pops.pop.get 0 rfl) (n := 2) (vs := [_, _]) (by kernel_rfl) (Nat.le_of_ble_eq_true rfl) rfl) rfl ?_
        refine pV rfl rfl (x_neS (n := 2) (ca := [_, _]) (cb := [_, _]) (by kernel_rfl) rfl rfl rfl rfl) rfl ?_
        refine pN ?_
        refine tN ?_
        refine e2_ rfl (fun h228 => ?_) (fun h228 => ?_)
        ·refine eR rfl ?_
         refine eV rfl (xM rfl) rfl ?_
         refine eV rfl (xM rfl) rfl ?_
         refine eV rfl (xM rfl) rfl ?_
         refine oI (e := 47) (m := 2) hS216 hx225 rfl rfl (by kernel_rfl) (by kernel_rfl) rfl rfl (fun _ => rfl) (fun p232 vs232 hp232 hl232 hr232 => ?_)
         obtain rfl := hr232
         refine eV rfl (xw hst hp232 rfl (by kernel_rfl) rfl) rfl ?_
         refine o_mk hst rfl (x_buildS (e := 47) (m := 2) (z := [.int .i64 0, .int .i64 0]) (cs := [_, _]) (by kernel_rfl) (by kernel_rfl) (by kernel_rfl) (by kernel_rfl) (fillA_cons rfl rfl rfl rfl fillA_nil)) (fun _ => rfl) (fun σ b9 hst => ?_)
         obtain ⟨σ, u2, M2, happ, hO2, hst⟩ := ownS_append (P := Try.prog) (ts := #[62, 62]) (t := 62) (e := 47) hO hst (hasS_oneR (R := RId) (x := x225) (m := 2) rfl rfl (.inr ⟨rfl, rfl⟩)) RId.leaf (by simp) (by simp) (by have h1 := List.length_filter_le (neId ⟨.ofNat (tm + 1), .ofNat row.length⟩) ((writesG gh (.ofNat i)).take i2); have h2 := writes_le (g := gh) (i := i); rw [List.length_take] at h1; omega) rfl (by kernel_rfl) (by kernel_rfl) (by kernel_rfl)
         refine eV rfl (x_appendOp rfl rfl rfl rfl (by kernel_rfl) happ) rfl ?_
         refine eV rfl (xA rfl) rfl ?_
         refine eN ?_
         refine bN ?_
         refine tN ?_
         refine eR rfl ?_
         refine eV rfl (xM rfl) rfl ?_
         refine eV rfl (xB rfl rfl rfl) rfl ?_
         refine eV rfl (xA rfl) rfl ?_
         refine eN ?_
         refine lN ⟨j36 - 1, by have := lt_yes h220; omega, (by (iterate 42 refine OffW.put rfl ?_); exact OffW.refl _ _), i2 + 1, u2, M2, by have := lt_yes h220; omega, by rw [flt_yes (id := ⟨.ofNat (tm + 1), .ofNat row.length⟩) hx225 h228]; exact hO2, rfl, congrArg (fun z => some (AV.int .i64 z)) (wr_succ (by have := lt_yes h220; have := writes_le (g := gh) (i := i); omega)), hst⟩
        ·refine eI ?_
         refine bN ?_
         refine tN ?_
         refine eR rfl ?_
         refine eV rfl (xM rfl) rfl ?_
         refine eV rfl (xB rfl rfl rfl) rfl ?_
         refine eV rfl (xA rfl) rfl ?_
         refine eN ?_
         refine lN ⟨j36 - 1, by have := lt_yes h220; omega, (by (iterate 34 refine OffW.put rfl ?_); exact OffW.refl _ _), i2 + 1, u, M, by have := lt_yes h220; omega, by rw [flt_no (id := ⟨.ofNat (tm + 1), .ofNat row.length⟩) hx225 h228]; exact hO, rfl, congrArg (fun z => some (AV.int .i64 z)) (wr_succ (by have := lt_yes h220; have := writes_le (g := gh) (i := i); omega)), hst⟩
       ·have hs : sameX (((writesG gh (.ofNat i)).take i2).filter (neId ⟨.ofNat (tm + 1), .ofNat row.length⟩)) (writesG g (.ofNat i)) = true := sameX_iff.2 (by rw [List.take_of_length_le (lt_no h220)]; exact hwr i (lt_yes h211))
        refine eX ?_
        refine tX ?_
        refine lX ?_
        refine bX ?_
        refine tN ?_
        refine eS ?_
        refine eR rfl ?_
        refine eV rfl (xM rfl) rfl ?_
        refine eV rfl (xN rfl (hst.pops.pop.pop.pop.pop.pop.pop.pop.get 0 rfl) (n := 4) (vs := [_, _, _, _]) (by kernel_rfl) (Nat.le_of_ble_eq_true rfl) rfl) rfl ?_
        refine eV rfl (xM rfl) rfl ?_
        refine oC rfl (xC rfl rfl rfl (by kernel_rfl)) (fun _ => rfl) (w_Writes hG h (fun l hl => by have := order_le hck l hl; omega) _ hst) ?_
        rintro u239 σ ⟨M239, hM239, hst⟩
        refine oV rfl (xC rfl rfl rfl (by kernel_rfl)) (fun _ => rfl) (w_Ids hG hst.keeps.keeps (hO.hasS fun y hy => .inr hy) (hM239.hasS fun y hy => .inl (.inr hy))) (fun σ hst => ?_)
        replace hst := ((hst.weaken (KP.le_adds _ _)).weaken (KP.le_adds _ _)).weaken (KP.le_adds _ _)
        refine eV rfl (xn rfl) rfl ?_
        refine eN ?_
        refine tN ?_
        refine e2_ rfl (fun h241 => ?_) (fun h241 => ?_)
        ·exact absurd h241 (by rw [hs]; decide)
        ·refine eI ?_
         refine bN ?_
         refine tN ?_
         refine eR rfl ?_
         refine eV rfl (xM rfl) rfl ?_
         refine eV rfl (xB rfl rfl rfl) rfl ?_
         refine eV rfl (xA rfl) rfl ?_
         refine eN ?_
         refine lN ⟨j31 - 1, by have := lt_yes h211; omega, (by (iterate 85 refine OffW.put rfl ?_); exact OffW.refl _ _), i + 1, by have := lt_yes h211; omega, congrArg (fun z => some (AV.int .i64 z)) (wr_succ (by have := lt_yes h211; have := h.init.len_le; omega)), hst⟩
      ·refine eX ?_
       refine tX ?_
       refine lX ?_
       refine bX ?_
       refine tN ?_
       refine eS ?_
       refine eR rfl ?_
       refine eV rfl (xA rfl) rfl ?_
       refine eN ?_
       refine tN ?_
       refine eT ?_
       exact r1_ rfl rfl rfl
end Go.Ev

/- Graphs, events, Ids as arguments: what a contract is worth in any world. -/
namespace Go.Ev
variable [Env]
open Go.Proofs
set_option maxRecDepth 4000
set_option maxHeartbeats 8000000
/-! Data that are graphs. -/
section
variable {H : Type} {σ : AHeap}
def toXId (d : DataW H) : XId := ⟨litI (partD d 0), litI (partD d 1)⟩
def toXEv (d : DataW H) : XEv := ⟨litI (partD d 0), litI (partD d 1), litI (partD d 2), litI (partD d 3), litI (partD d 4)⟩
def toXG (d : DataW H) : XG := ⟨(elemsD (partD d 0)).map litI, (elemsD (partD d 1)).map fun r => (elemsD r).map toXEv, (elemsD (partD d 2)).map fun r => (elemsD r).map toXId, (elemsD (partD d 3)).map fun r => (elemsD r).map toXId⟩
theorem rId_of {fuel : Nat} {d : DataW H} {vs : List AV} (hf : Fit Try.prog (fuel + 2) 47 d) (hd : HasD Try.prog σ (fuel + 2) 47 d vs) : RId (toXId d) vs := by
  obtain ⟨hl, h⟩ := struct_of (m := 2) Try.underlying47 (by kernel_rfl) (by kernel_rfl) hf hd
  obtain ⟨a, b, rfl⟩ : ∃ a b, vs = [a, b] := by
    match vs, hl with
    | [a, b], _ => exact ⟨a, b, rfl⟩
  obtain ⟨f0, d0⟩ : Fit Try.prog _ 3 (partD d 0) ∧ HasD Try.prog σ _ 3 (partD d 0) (([a, b].drop 0).take (Try.prog.cellsOf 3)) := h 0 _ rfl
  obtain ⟨f1, d1⟩ : Fit Try.prog _ 3 (partD d 1) ∧ HasD Try.prog σ _ 3 (partD d 1) (([a, b].drop 1).take (Try.prog.cellsOf 3)) := h 1 _ rfl
  have c3 : Try.prog.cellsOf 3 = 1 := by kernel_rfl
  have e0 := (int_of Try.underlying3 f0 d0).1
  have e1 := (int_of Try.underlying3 f1 d1).1
  rw [c3] at e0 e1
  simp only [List.drop_zero, List.take_succ_cons, List.take_zero, List.drop_succ_cons, List.cons.injEq, and_true] at e0 e1
  subst e0; subst e1
  rfl
theorem rEv_of {fuel : Nat} {d : DataW H} {vs : List AV} (hf : Fit Try.prog (fuel + 2) 45 d) (hd : HasD Try.prog σ (fuel + 2) 45 d vs) : REv (toXEv d) vs := by
  obtain ⟨hl, h⟩ := struct_of (m := 5) Try.underlying45 (by kernel_rfl) (by kernel_rfl) hf hd
  obtain ⟨a, b, c, e, g, rfl⟩ : ∃ a b c e g, vs = [a, b, c, e, g] := by
    match vs, hl with
    | [a, b, c, e, g], _ => exact ⟨a, b, c, e, g, rfl⟩
  obtain ⟨f0, d0⟩ : Fit Try.prog _ 3 (partD d 0) ∧ HasD Try.prog σ _ 3 (partD d 0) (([a, b, c, e, g].drop 0).take (Try.prog.cellsOf 3)) := h 0 _ rfl
  obtain ⟨f1, d1⟩ : Fit Try.prog _ 3 (partD d 1) ∧ HasD Try.prog σ _ 3 (partD d 1) (([a, b, c, e, g].drop 1).take (Try.prog.cellsOf 3)) := h 1 _ rfl
  obtain ⟨f2, d2⟩ : Fit Try.prog _ 3 (partD d 2) ∧ HasD Try.prog σ _ 3 (partD d 2) (([a, b, c, e, g].drop 2).take (Try.prog.cellsOf 3)) := h 2 _ rfl
  obtain ⟨f3, d3⟩ : Fit Try.prog _ 2 (partD d 3) ∧ HasD Try.prog σ _ 2 (partD d 3) (([a, b, c, e, g].drop 3).take (Try.prog.cellsOf 2)) := h 3 _ rfl
  obtain ⟨f4, d4⟩ : Fit Try.prog _ 2 (partD d 4) ∧ HasD Try.prog σ _ 2 (partD d 4) (([a, b, c, e, g].drop 4).take (Try.prog.cellsOf 2)) := h 4 _ rfl
  have c3 : Try.prog.cellsOf 3 = 1 := by kernel_rfl
  have c2 : Try.prog.cellsOf 2 = 1 := by kernel_rfl
  have e0 := (int_of Try.underlying3 f0 d0).1
  have e1 := (int_of Try.underlying3 f1 d1).1
  have e2 := (int_of Try.underlying3 f2 d2).1
  have e3 := (int_of Try.underlying2 f3 d3).1
  have e4 := (int_of Try.underlying2 f4 d4).1
  rw [c3] at e0 e1 e2
  rw [c2] at e3 e4
  simp only [List.drop_zero, List.take_succ_cons, List.take_zero, List.drop_succ_cons, List.cons.injEq, and_true] at e0 e1 e2 e3 e4
  subst e0; subst e1; subst e2; subst e3; subst e4
  rfl
theorem hasG_data (hn : ∀ (b : Nat) (o : AObj), σ.m.get b = some o → b < σ.next) {fuel : Nat} {d : DataW H} {vs : List AV} (hf : Fit Try.prog (fuel + 5) 43 d) (hd : HasD Try.prog σ (fuel + 5) 43 d vs) : ∃ a b c e, vs = [a, b, c, e] ∧ HasG (KOf σ) (toXG d) a b c e := by
  obtain ⟨hl, h⟩ := struct_of (m := 4) Try.underlying43 (by kernel_rfl) (by kernel_rfl) hf hd
  obtain ⟨a, b, c, e, rfl⟩ : ∃ a b c e, vs = [a, b, c, e] := by
    match vs, hl with
    | [a, b, c, e], _ => exact ⟨a, b, c, e, rfl⟩
  obtain ⟨f0, d0⟩ : Fit Try.prog _ 39 (partD d 0) ∧ HasD Try.prog σ _ 39 (partD d 0) (([a, b, c, e].drop 0).take (Try.prog.cellsOf 39)) := h 0 _ rfl
  obtain ⟨f1, d1⟩ : Fit Try.prog _ 40 (partD d 1) ∧ HasD Try.prog σ _ 40 (partD d 1) (([a, b, c, e].drop 1).take (Try.prog.cellsOf 40)) := h 1 _ rfl
  obtain ⟨f2, d2⟩ : Fit Try.prog _ 41 (partD d 2) ∧ HasD Try.prog σ _ 41 (partD d 2) (([a, b, c, e].drop 2).take (Try.prog.cellsOf 41)) := h 2 _ rfl
  obtain ⟨f3, d3⟩ : Fit Try.prog _ 41 (partD d 3) ∧ HasD Try.prog σ _ 41 (partD d 3) (([a, b, c, e].drop 3).take (Try.prog.cellsOf 41)) := h 3 _ rfl
  have c39 : Try.prog.cellsOf 39 = 1 := by kernel_rfl
  have c40 : Try.prog.cellsOf 40 = 1 := by kernel_rfl
  have c41 : Try.prog.cellsOf 41 = 1 := by kernel_rfl
  have c2 : Try.prog.cellsOf 2 = 1 := by kernel_rfl
  obtain ⟨v0, e0, h0⟩ := slice_of (m := 1) litI RInt Try.underlying39 c2 (by decide) hn f0 d0 fun x vs hf hd => (int_of Try.underlying2 hf hd).1
  have rowE : ∀ (x : DataW H) (vs : List AV), Fit Try.prog (fuel + 3) 61 x → HasD Try.prog σ (fuel + 3) 61 x vs → RL (KOf σ) 5 REv ((elemsD x).map toXEv) vs := fun x vs hf hd =>
    slice_of (m := 5) toXEv REv Try.underlying61 (by kernel_rfl) (by decide) hn hf hd fun x vs hf hd => rEv_of hf hd
  have rowI : ∀ (x : DataW H) (vs : List AV), Fit Try.prog (fuel + 3) 62 x → HasD Try.prog σ (fuel + 3) 62 x vs → RL (KOf σ) 2 RId ((elemsD x).map toXId) vs := fun x vs hf hd =>
    slice_of (m := 2) toXId RId Try.underlying62 (by kernel_rfl) (by decide) hn hf hd fun x vs hf hd => rId_of hf hd
  obtain ⟨v1, e1, h1⟩ := slice_of (m := 1) (fun r => (elemsD r).map toXEv) (RL (KOf σ) 5 REv) Try.underlying40 (by kernel_rfl) (by decide) hn f1 d1 rowE
  obtain ⟨v2, e2, h2⟩ := slice_of (m := 1) (fun r => (elemsD r).map toXId) (RL (KOf σ) 2 RId) Try.underlying41 (by kernel_rfl) (by decide) hn f2 d2 rowI
  obtain ⟨v3, e3, h3⟩ := slice_of (m := 1) (fun r => (elemsD r).map toXId) (RL (KOf σ) 2 RId) Try.underlying41 (by kernel_rfl) (by decide) hn f3 d3 rowI
  rw [c39] at e0; rw [c40] at e1; rw [c41] at e2 e3
  simp only [List.drop_zero, List.take_succ_cons, List.take_zero, List.drop_succ_cons, List.cons.injEq, and_true] at e0 e1 e2 e3
  subst e0; subst e1; subst e2; subst e3
  exact ⟨_, _, _, _, rfl, h0, h1, h2, h3⟩
end
/-! Cells that are read. -/
section
variable {H : Type} {enc : TypeId × Value → H} {w : World}
theorem trod_int {fuel : Nat} {t : TypeId} {cs : List Value} {x : DataW H × List MemPlace} (hu : Try.prog.underlying t = some (.int .i64)) (h : DataW.trod enc Try.prog w 0 (fun _ => true) true fuel t cs = some x) : ∃ n, cs = [.int .i64 n] := by
  cases fuel with
  | zero => simp [DataW.trod] at h
  | succ fuel =>
    unfold DataW.trod at h
    rw [hu] at h
    dsimp only at h
    split at h <;> first | (rename_i he; cases he; done) | skip
    all_goals first
      | (rename_i k1 k2 n he
         cases he
         split at h
         · rename_i hk
           obtain ⟨hk1, _⟩ := hk
           subst hk1
           exact ⟨n, rfl⟩
         · cases h)
      | cases h
theorem trod_struct {fuel : Nat} {t : TypeId} {cs : List Value} {x : DataW H × List MemPlace} {fs : Array Field} (hu : Try.prog.underlying t = some (.struct fs)) (h : DataW.trod enc Try.prog w 0 (fun _ => true) true fuel t cs = some x) :
    cs.length = Try.prog.cellsOf t ∧ ∃ fuel', ∀ (i : Nat) (f : Field), fs[i]? = some f → ∃ y, DataW.trod enc Try.prog w 0 (fun _ => true) true fuel' f.type ((cs.drop f.offset).take (Try.prog.cellsOf f.type)) = some y := by
  cases fuel with
  | zero => simp [DataW.trod] at h
  | succ fuel =>
    unfold DataW.trod at h
    rw [hu] at h
    dsimp only at h
    split at h
    · rename_i hl
      obtain ⟨xs, hxs, _⟩ := Option.map_eq_some_iff.1 h
      obtain ⟨k1, k2⟩ := mapM_all hxs
      refine ⟨hl, fuel, fun i f hf => ?_⟩
      obtain ⟨y, _, hy⟩ := k2 i f (by rw [Array.getElem?_toList]; exact hf)
      exact ⟨y, hy⟩
    · cases h
theorem trod_id {fuel : Nat} {cs : List Value} {x : DataW H × List MemPlace} (h : DataW.trod enc Try.prog w 0 (fun _ => true) true fuel 47 cs = some x) : ∃ i : XId, cs = [.int .i64 i.thread, .int .i64 i.index] := by
  obtain ⟨hl, F, hp⟩ := trod_struct Try.underlying47 h
  have hl : cs.length = 2 := hl.trans (by kernel_rfl)
  obtain ⟨a, b, rfl⟩ : ∃ a b, cs = [a, b] := by
    match cs, hl with
    | [a, b], _ => exact ⟨a, b, rfl⟩
  have c3 : Try.prog.cellsOf 3 = 1 := by kernel_rfl
  obtain ⟨y0, h0⟩ : ∃ y, DataW.trod enc Try.prog w 0 (fun _ => true) true F 3 (([a, b].drop 0).take (Try.prog.cellsOf 3)) = some y := hp 0 _ rfl
  obtain ⟨y1, h1⟩ : ∃ y, DataW.trod enc Try.prog w 0 (fun _ => true) true F 3 (([a, b].drop 1).take (Try.prog.cellsOf 3)) = some y := hp 1 _ rfl
  rw [c3] at h0 h1
  obtain ⟨n0, e0⟩ := trod_int Try.underlying3 h0
  obtain ⟨n1, e1⟩ := trod_int Try.underlying3 h1
  simp only [List.drop_zero, List.take_succ_cons, List.take_zero, List.drop_succ_cons, List.cons.injEq, and_true] at e0 e1
  subst e0; subst e1
  exact ⟨⟨n0, n1⟩, rfl⟩
theorem trod_ev {fuel : Nat} {cs : List Value} {x : DataW H × List MemPlace} (h : DataW.trod enc Try.prog w 0 (fun _ => true) true fuel 45 cs = some x) : ∃ e : XEv, cs = [.int .i64 e.kind, .int .i64 e.loc, .int .i64 e.order, .int .i64 e.read, .int .i64 e.write] := by
  obtain ⟨hl, F, hp⟩ := trod_struct Try.underlying45 h
  have hl : cs.length = 5 := hl.trans (by kernel_rfl)
  obtain ⟨a, b, c, e, g, rfl⟩ : ∃ a b c e g, cs = [a, b, c, e, g] := by
    match cs, hl with
    | [a, b, c, e, g], _ => exact ⟨a, b, c, e, g, rfl⟩
  have c3 : Try.prog.cellsOf 3 = 1 := by kernel_rfl
  have c2 : Try.prog.cellsOf 2 = 1 := by kernel_rfl
  obtain ⟨y0, h0⟩ : ∃ y, DataW.trod enc Try.prog w 0 (fun _ => true) true F 3 (([a, b, c, e, g].drop 0).take (Try.prog.cellsOf 3)) = some y := hp 0 _ rfl
  obtain ⟨y1, h1⟩ : ∃ y, DataW.trod enc Try.prog w 0 (fun _ => true) true F 3 (([a, b, c, e, g].drop 1).take (Try.prog.cellsOf 3)) = some y := hp 1 _ rfl
  obtain ⟨y2, h2⟩ : ∃ y, DataW.trod enc Try.prog w 0 (fun _ => true) true F 3 (([a, b, c, e, g].drop 2).take (Try.prog.cellsOf 3)) = some y := hp 2 _ rfl
  obtain ⟨y3, h3⟩ : ∃ y, DataW.trod enc Try.prog w 0 (fun _ => true) true F 2 (([a, b, c, e, g].drop 3).take (Try.prog.cellsOf 2)) = some y := hp 3 _ rfl
  obtain ⟨y4, h4⟩ : ∃ y, DataW.trod enc Try.prog w 0 (fun _ => true) true F 2 (([a, b, c, e, g].drop 4).take (Try.prog.cellsOf 2)) = some y := hp 4 _ rfl
  rw [c3] at h0 h1 h2
  rw [c2] at h3 h4
  obtain ⟨n0, e0⟩ := trod_int Try.underlying3 h0
  obtain ⟨n1, e1⟩ := trod_int Try.underlying3 h1
  obtain ⟨n2, e2⟩ := trod_int Try.underlying3 h2
  obtain ⟨n3, e3⟩ := trod_int Try.underlying2 h3
  obtain ⟨n4, e4⟩ := trod_int Try.underlying2 h4
  simp only [List.drop_zero, List.take_succ_cons, List.take_zero, List.drop_succ_cons, List.cons.injEq, and_true] at e0 e1 e2 e3 e4
  subst e0; subst e1; subst e2; subst e3; subst e4
  exact ⟨⟨n0, n1, n2, n3, n4⟩, rfl⟩
/-- Slices among cells: nil, or in a block. -/
def NilOr (w : World) (v : Value) : Prop := v = .slice none 0 0 ∨ ∃ (a : Addr) (len cap : Nat) (c : Array Value) (e : TypeId) (fr : Nat × Nat), v = .slice (some a) len cap ∧ w.heap[a.block]? = some (.cells c e fr)
theorem nilOr_of {base : Nat} {t e : TypeId} {v : Value} (hu : Try.prog.underlying t = some (.slice e)) (hok : Cell.okWide Try.prog w .any base t v) : NilOr w v := by
  unfold Cell.okWide at hok
  rw [hu] at hok
  dsimp only at hok
  unfold Cell.ok at hok
  rw [hu] at hok
  cases v with
  | slice a len cap =>
    cases a with
    | none =>
      try dsimp only at hok
      split at hok <;> first | (rename_i he; cases he; done) | skip
      all_goals first
        | (rename_i he; cases he; exact .inl rfl)
        | (rename_i h1 h2; cases h2; done)
        | exact hok.elim
    | some a =>
      obtain ⟨_, _, _, hsp, row, cells, hsh, _⟩ := hok
      unfold World.shape? at hsh
      split at hsh
      · rename_i c e fr hh
        exact .inr ⟨a, len, cap, c, e, fr, rfl, hh⟩
      · cases hsh
  | _ => exact hok.elim
/-- A graph that is an argument: its four slices. -/
theorem graph_value {base : Nat} {v : Value} (hok : Value.okWide Try.prog w .any base 43 v) : ∃ c : Array Value, v = .agg c ∧ c.size = 4 ∧ ∀ v ∈ c.toList, NilOr w v := by
  unfold Value.okWide at hok
  rw [Try.underlying43] at hok
  obtain ⟨c, rfl, hs, ts, ht, _, hall⟩ := hok
  have hs : c.size = 4 := hs.trans (by kernel_rfl)
  have ht' : Try.prog.cellTypes Try.prog.depth 43 = some [39, 40, 41, 41] := by kernel_rfl
  rw [ht'] at ht
  cases ht
  refine ⟨c, rfl, hs, fun v hv => ?_⟩
  obtain ⟨i, hi⟩ := List.getElem?_of_mem hv
  rw [Array.getElem?_toList] at hi
  have hlt : i < 4 := by rw [← hs]; exact (Array.getElem?_eq_some_iff.1 hi).1
  obtain ⟨u, hu, hok⟩ := hall i v hi
  obtain rfl | rfl | rfl | rfl : i = 0 ∨ i = 1 ∨ i = 2 ∨ i = 3 := by omega
  · obtain rfl : (39 : Nat) = u := by simpa using hu
    exact nilOr_of Try.underlying39 hok
  · obtain rfl : (40 : Nat) = u := by simpa using hu
    exact nilOr_of Try.underlying40 hok
  · obtain rfl : (41 : Nat) = u := by simpa using hu
    exact nilOr_of Try.underlying41 hok
  · obtain rfl : (41 : Nat) = u := by simpa using hu
    exact nilOr_of Try.underlying41 hok
theorem mapM_of {α β : Type} {f : α → Option β} : ∀ {l : List α}, (∀ x ∈ l, ∃ y, f x = some y) → ∃ ys, l.mapM f = some ys
  | [], _ => ⟨[], rfl⟩
  | x :: l, h => by
    obtain ⟨y, hy⟩ := h x (List.mem_cons_self ..)
    obtain ⟨ys, hys⟩ := mapM_of (l := l) fun z hz => h z (List.mem_cons_of_mem _ hz)
    exact ⟨y :: ys, by simp [hy, hys]⟩
/-- Graphs laid to be read. -/
theorem lay_graphs (ho : OldW w) {F : Nat} {l : List (Array Value)} (hs : ∀ c ∈ l, c.size = 4 ∧ ∀ v ∈ c.toList, NilOr w v) (ht : ∀ c ∈ l, ∃ x, DataW.trod enc Try.prog w 0 (fun _ => true) true (F + 5) 43 c.toList = some x) :
    ∃ (ρ : Ren) (σ : AHeap), Inv ρ σ w ∧ AllRo σ ∧ ∀ c ∈ l, ∃ g a b e d, VRs ρ [a, b, e, d] c.toList ∧ HasG (KOf σ) g a b e d := by
  by_cases hw : ∃ (r : Nat) (c : Array Value) (e : TypeId) (fr : Nat × Nat), w.heap[r]? = some (Obj.cells c e fr)
  · obtain ⟨xs, hxs⟩ := mapM_of (f := fun q : TypeId × List Value => DataW.trod enc Try.prog w 0 (fun _ => true) true (F + 5) q.1 q.2) (l := l.map fun c => (43, c.toList)) (fun q hq => by
      obtain ⟨c, hc, rfl⟩ := List.mem_map.1 hq
      exact ht c hc)
    obtain ⟨ρ, σ, vss, hi, hr, _, n1, n2, hh⟩ := layPieces (enc := enc) (P := Try.prog) (fuel := F + 5) (lay hw (F + 5)) _ xs hxs (fun _ => none) σ0 (inv0 w ho) AllRo.leaf
    refine ⟨ρ, σ, hi, hr, fun c hc => ?_⟩
    obtain ⟨i, hic⟩ := List.getElem?_of_mem hc
    have hlt : i < l.length := (List.getElem?_eq_some_iff.1 hic).1
    rw [List.length_map] at n1 n2
    obtain ⟨vs, hvs⟩ := at_of (l := vss) (i := i) (by omega)
    obtain ⟨k1, k2⟩ := mapM_all hxs
    have hq : (l.map fun c => ((43 : TypeId), c.toList))[i]? = some (43, c.toList) := by rw [List.getElem?_map, hic]; rfl
    obtain ⟨x, hx, hx2⟩ := k2 i _ hq
    obtain ⟨d1, v1⟩ := hh i _ _ _ hq hx hvs
    obtain ⟨a, b, e, d, rfl, hG⟩ := hasG_data (fun b o => HasD.fresh hi) (fit_of_trod _ _ _ _ x.2 hx2) d1
    exact ⟨_, a, b, e, d, v1, hG⟩
  · refine ⟨fun _ => none, σ0, inv0 w ho, AllRo.leaf, fun c hc => ?_⟩
    obtain ⟨h4, hn⟩ := hs c hc
    have hnil : ∀ v ∈ c.toList, v = .slice none 0 0 := fun v hv => by
      rcases hn v hv with h | ⟨a, len, cap, c', e, fr, _, hb⟩
      · exact h
      · exact absurd ⟨_, _, _, _, hb⟩ hw
    have hlen : c.toList.length = 4 := by rw [Array.length_toList]; exact h4
    obtain ⟨x0, x1, x2, x3, hcl⟩ : ∃ x0 x1 x2 x3, c.toList = [x0, x1, x2, x3] := by
      match c.toList, hlen with
      | [x0, x1, x2, x3], _ => exact ⟨x0, x1, x2, x3, rfl⟩
    rw [hcl] at hnil ⊢
    obtain rfl := hnil x0 (by simp)
    obtain rfl := hnil x1 (by simp)
    obtain rfl := hnil x2 (by simp)
    obtain rfl := hnil x3 (by simp)
    have vn : ∀ ρ : Ren, VR ρ .nilSlice (.slice none 0 0) := fun ρ => by simp only [VR]
    exact ⟨⟨[], [], [], []⟩, .nilSlice, .nilSlice, .nilSlice, .nilSlice, VRs.cons (vn _) (VRs.cons (vn _) (VRs.cons (vn _) (VRs.cons (vn _) VRs.nil))), .inl ⟨rfl, rfl⟩, .inl ⟨rfl, rfl⟩, .inl ⟨rfl, rfl⟩, .inl ⟨rfl, rfl⟩⟩
theorem trodAll_cons {P : Program} {ts : List TypeId} {t : TypeId} {vs : List Value} {ds : List (DataW H)} {ps : List MemPlace} {sp : Nat → Bool} (h : DataW.TrodAll enc P w 0 sp true (t :: ts) vs ds ps) :
    ∃ v vs' d ds', vs = v :: vs' ∧ ds = d :: ds' ∧ (∃ n p, DataW.trod enc P w 0 sp true n t v.cells.toList = some (d, p)) ∧ ∃ q, DataW.TrodAll enc P w 0 sp true ts vs' ds' q := by
  match vs, ds, h with
  | v :: vs', d :: ds', ⟨p, q, ⟨n, h1⟩, h2, _⟩ => exact ⟨v, vs', d, ds', rfl, rfl, ⟨n, p, h1⟩, q, h2⟩
theorem trodAll_nil {P : Program} {vs : List Value} {ds : List (DataW H)} {ps : List MemPlace} {sp : Nat → Bool} (h : DataW.TrodAll enc P w 0 sp true [] vs ds ps) : vs = [] ∧ ds = [] := by
  match vs, ds, h with
  | [], [], _ => exact ⟨rfl, rfl⟩
end
end Go.Ev

/- The graph laws' lives, reckoned by the kernel; the context in which the laws are walked. -/
namespace Go.Ev
variable [Env]
open Go.Proofs
set_option maxRecDepth 4000
set_option maxHeartbeats 8000000
theorem drawnG : Try.prog.follows .mixedOrders = true := by kernel_rfl
def isOvG (g : Nat) : Bool := Nat.beq g 85
def isInsG (f : Nat) : Bool := Nat.beq f 49
theorem ov85 : OvFact Try.prog 85 := by
 obtain ⟨j, hj⟩ : ∃ j, Try.prog.info? 47 = some j := Option.isSome_iff_exists.1 (by kernel_rfl)
 exact .inl ⟨by kernel_rfl, Try.f85, 62, 4, 47, j, Try.func85, by kernel_rfl, by kernel_rfl, by kernel_rfl, by kernel_rfl, by kernel_rfl, hj⟩
theorem ovsG (g : Nat) (h : isOvG g = true) : OvFact Try.prog g := by
 have : g = 85 := Nat.eq_of_beq_eq_true h
 subst this
 exact ov85
noncomputable def GL : Cx := ⟨0, isOvG, isInsG, fun _ _ => none, [], [], fun _ _ _ => none, fun _ _ _ => none⟩
theorem okGL : CxOK Try.prog GL := ⟨ovsG, (fun f args v h => by cases h), (fun e h => by cases h), (fun f a s v h => by cases h)⟩
theorem said14 (E : Nat → TypeId) : saysTrue (evalF Try.prog GL 1000 14 [] (σG 0 [] E)) = true := by kernel_rfl
theorem known14 : Known Try.prog 0 [] 14 [] (.bool true) := known_true (G := GL) drawnG okGL (by rfl) said14
noncomputable def tblG (f : Nat) (args : List AV) : Option AV := bif Nat.beq f 14 then (match args with | [] => some (.bool true) | _ => none) else none
noncomputable def GC : Cx := ⟨0, isOvG, isInsG, tblG, [], [], fun _ _ _ => none, fun _ _ _ => none⟩
theorem okGC : CxOK Try.prog GC := by
 refine ⟨ovsG, fun f args v h => ?_, (fun e h => by cases h), (fun f a s v h => by cases h)⟩
 have h : tblG f args = some v := h
 show Known Try.prog 0 [] f args v
 unfold tblG at h
 cases h14 : Nat.beq f 14 with
 | true =>
  rw [h14] at h
  simp only [cond_true] at h
  cases args with
  | nil => cases h; rw [Nat.eq_of_beq_eq_true h14]; exact known14
  | cons _ _ => cases h
 | false =>
  rw [h14] at h
  cases h
theorem plainGC : Plain GC := ⟨fun _ _ _ => rfl, fun f a h => by show tblG f a = none; unfold tblG; rw [show Nat.beq f 14 = false from h]; rfl, rfl, fun _ _ _ => rfl, fun f h => h⟩
theorem grGC (ρ : Ren) : GR ρ GC := fun g h => absurd h (Nat.not_lt_zero _)
section
variable {H : Type} {enc : TypeId × Value → H} {w : World}
theorem agg_toList {c : Array Value} {l : List Value} (h : c.toList = l) : c = l.toArray := by rw [← h]
theorem vr_id {ρ : Ren} {c : Array Value} {i : XId} (h : c.toList = [.int .i64 i.thread, .int .i64 i.index]) : VR ρ (.agg [.int .i64 i.thread, .int .i64 i.index]) (.agg c) := by
 simp only [VR]
 exact ⟨c, rfl, by rw [h]; exact VRs.cons (by simp only [VR]) (VRs.cons (by simp only [VR]) VRs.nil)⟩
theorem vr_ev {ρ : Ren} {c : Array Value} {e : XEv} (h : c.toList = [.int .i64 e.kind, .int .i64 e.loc, .int .i64 e.order, .int .i64 e.read, .int .i64 e.write]) : VR ρ (.agg [.int .i64 e.kind, .int .i64 e.loc, .int .i64 e.order, .int .i64 e.read, .int .i64 e.write]) (.agg c) := by
 simp only [VR]
 exact ⟨c, rfl, by rw [h]; exact VRs.cons (by simp only [VR]) (VRs.cons (by simp only [VR]) (VRs.cons (by simp only [VR]) (VRs.cons (by simp only [VR]) (VRs.cons (by simp only [VR]) VRs.nil))))⟩
end
end Go.Ev

