/- Part of the proof: an evaluator of the model's code, rules for walks on it, walks. Without conditions. -/
import Derived.Test.YtgppgbbkngfanaaGreatDoorEc
import Derived.Test.YtgppgbbkngfanaaGreatDoorEd
import Derived.Test.YtgppgbbkngfanaaGreatDoorRows
import Derived.Shelf.SlSortCmp.NoneTotal
import Derived.Test.YtgppgbbkngfanaaGreatDoorProg
import Derived.KernelRfl
set_option linter.unusedSectionVars false
set_option linter.unusedVariables false
set_option linter.unusedSimpArgs false
noncomputable section
namespace Go.Ev
variable [Env]
open Go.Proofs
set_option maxRecDepth 4000
set_option maxHeartbeats 8000000
theorem take_all {α : Type} {l : List α} {i : Nat} (h : l.length ≤ i) : l.take i = l := List.take_of_length_le h
theorem w_numbers {G : Cx} (hG : Plain G) {K : KP} {g : XG} (hF : FewZ g) {a b c d : AV} (hg : HasG K g a b c d) {σ : AHeap} {L : Own} (hst : St σ K L) :
    EvCall Tryz.prog G 52 [.agg [a, b, c, d]] σ fun v σ' => ∃ M, OwnS 1 2 RInt (numsG g) v M ∧ St σ' K (M ++ L) := by
  have hZ := hF.n
  refine ev_body hG Tryz.func52 rfl (t := PT.leaf.put (some (.agg [a, b, c, d])) 0) (by rfl) ?_
  refine ev_seq ?_
  refine ev_region rfl ?_
  refine o_ptr hst rfl (x_box rfl rfl) (fun _ => rfl) (fun σ b1 hst => ?_)
  obtain ⟨K1, hle1, hmem, hst⟩ := hst.keeps_ex (M := [_])
  have hb1 : K1 b1 (.row [a, b, c, d] 41 false) := hmem _ (.head _); clear hmem; have hg1 := hg.mono hle1
  refine evOps_val rfl (x_assign rfl) rfl ?_
  refine evOps_nil ?_
  refine thenQ_normal ?_
  refine ev_seq ?_
  refine ev_region rfl ?_
  refine evOps_val rfl (x_field rfl (k := 1) (by kernel_rfl)) rfl ?_
  refine evOps_val rfl (x_load1 rfl (hst.getK hb1) (by kernel_rfl) rfl) rfl ?_
  refine evOps_val rfl (x_len' hg1.threads rfl rfl rfl (e := 70) (by kernel_rfl) rfl) rfl ?_
  refine o_mk hst rfl (x_buildS (e := 2) (m := 1) (z := [.int .i64 0]) (cs := [_]) (by kernel_rfl) (by kernel_rfl) (by kernel_rfl) (by kernel_rfl) (fillA_cons rfl rfl rfl rfl fillA_nil)) (fun _ => rfl) (fun σ b2 hst => ?_)
  have hO0 : OwnS 1 2 RInt [Int.ofNat g.threads.length] (.slice b2 0 1 (.known 1)) [(b2, .row [.int .i64 (.ofNat g.threads.length)] 2 false)] := ownS_ints (xs := [Int.ofNat g.threads.length]) (by simp)
  obtain ⟨M0, hM0⟩ : ∃ M0 : Own, M0 = [(b2, .row [.int .i64 (.ofNat g.threads.length)] 2 false)] := ⟨_, rfl⟩
  rw [← hM0] at hO0; replace hst : St σ K1 (M0 ++ L) := by rw [hM0]; exact hst
  refine evOps_val rfl (x_assign rfl) rfl ?_
  refine evOps_nil ?_
  refine thenQ_normal ?_
  refine ev_seq ?_
  refine ev_seq ?_
  refine ev_region rfl ?_
  refine evOps_val rfl (x_assign rfl) rfl ?_
  refine evOps_nil ?_
  refine thenQ_normal ?_
  refine ev_block ?_
  refine ev_loopW [3, 4, 16, 17, 18, 19, 20, 21, 22, 23, 24, 25, 26, 27, 28, 29, 30, 31] (fun j t σ => ∃ (i : Nat) (u : AV) (M1 : Own), (j + i = g.threads.length ∧ OwnS 1 2 RInt ([Int.ofNat g.threads.length] ++ ((g.threads.take i).map fun r => Int.ofNat r.length)) u M1) ∧ t.get 3 = some (u) ∧ t.get 4 = some (.int .i64 (.ofNat i)) ∧ St σ K1 (M1 ++ L)) (g.threads.length) ⟨0, _, _, ⟨rfl, hO0⟩, rfl, rfl, hst⟩ ?_
  clear hst; intro j3 t σ hoff hI; obtain ⟨i, u, M1, ⟨hj3, hO1⟩, hv3, hv4, hst⟩ := hI
  replace hoff := hoff.ex8 rfl rfl; obtain ⟨o3, o4, o16, o17, o18, o19, o20, o21, hoff⟩ := hoff
  replace hoff := hoff.ex8 rfl rfl; obtain ⟨o22, o23, o24, o25, o26, o27, o28, o29, hoff⟩ := hoff
  replace hoff := hoff.ex1 rfl; obtain ⟨o30, hoff⟩ := hoff
  replace hoff := hoff.ex1 rfl; obtain ⟨o31, hoff⟩ := hoff
  obtain rfl := hoff.nil; clear hoff
  replace hv3 : o3 = some _ := hv3; subst hv3
  replace hv4 : o4 = some _ := hv4; subst hv4
  refine ev_seq ?_
  refine ev_seq ?_
  refine ev_region rfl ?_
  refine evOps_val rfl (x_move rfl) rfl ?_
  refine evOps_val rfl (x_field rfl (k := 1) (by kernel_rfl)) rfl ?_
  refine evOps_val rfl (x_load1 rfl (hst.getK hb1) (by kernel_rfl) rfl) rfl ?_
  refine evOps_val rfl (x_len' hg1.threads rfl rfl rfl (e := 70) (by kernel_rfl) rfl) rfl ?_
  refine evOps_val rfl (x_bin rfl rfl rfl) rfl ?_
  refine evOps_nil ?_
  refine thenQ_normal ?_
  refine ev_cond2 rfl (fun h20 => ?_) (fun h20 => ?_)
  · skip
    refine ev_skip ?_
    refine thenQ_normal ?_
    refine ev_seq ?_
    refine ev_block ?_
    refine ev_region rfl ?_
    refine evOps_val rfl (x_move rfl) rfl ?_
    refine evOps_val rfl (x_field rfl (k := 1) (by kernel_rfl)) rfl ?_
    refine evOps_val rfl (x_load1 rfl (hst.getK hb1) (by kernel_rfl) rfl) rfl ?_
    refine evOps_val rfl (x_move rfl) rfl ?_
    obtain ⟨x27, hx27, hi27⟩ := at_lt h20
    refine o_idx (e := 70) (m := 1) hg1.threads hx27 rfl rfl (by kernel_rfl) (by kernel_rfl) rfl rfl (fun _ => rfl) (fun p27 vs27 hp27 hl27 hr27 => ?_)
    have hr27' := hr27; obtain ⟨v27, rfl, hk27⟩ := hr27'
    refine evOps_val rfl (x_pload1 hst hp27 rfl (by kernel_rfl) rfl) rfl ?_
    refine evOps_val rfl (x_len' hk27 rfl rfl rfl (e := 78) (by kernel_rfl) rfl) rfl ?_
    refine o_mk hst rfl (x_buildS (e := 2) (m := 1) (z := [.int .i64 0]) (cs := [_]) (by kernel_rfl) (by kernel_rfl) (by kernel_rfl) (by kernel_rfl) (fillA_cons rfl rfl rfl rfl fillA_nil)) (fun _ => rfl) (fun σ b2 hst => ?_)
    replace hst := hst.pull (.there .here)
    replace hst := hst.pull (.seg (OwnIn.here (X := [_])))
    refine o_app1 (R := RInt) (m := 1) (e := 2) hO1 hst (hasS_ints (xs := [Int.ofNat x27.length]) (.inr ⟨rfl, rfl⟩) (by simp)) RInt.leaf (by have := len_za (g := g) i; simp only [List.length_append, List.length_cons, List.length_nil]; omega) rfl rfl rfl rfl rfl rfl rfl (fun _ => rfl) (fun σ u31 M31 hO31 hst => ?_)
    refine evOps_val rfl (x_assign rfl) rfl ?_
    refine evOps_nil ?_
    refine blockQ_normal ?_
    refine thenQ_normal ?_
    refine ev_region rfl ?_
    refine evOps_val rfl (x_move rfl) rfl ?_
    refine evOps_val rfl (x_bin rfl rfl rfl) rfl ?_
    refine evOps_val rfl (x_assign rfl) rfl ?_
    refine evOps_nil ?_
    refine loopQ_normal ⟨j3 - 1, (by have := lt_yes h20; omega), (by (iterate 36 refine OffW.put rfl ?_); exact OffW.refl _ _), i + 1, _, _, ⟨by have := lt_yes h20; omega, by rw [map_take hx27, ← List.append_assoc]; exact hO31⟩, rfl, congrArg (fun z => some (AV.int .i64 z)) (wr_succ (by have := lt_yes h20; have := hF.t; omega)), hst⟩
  · skip
    refine ev_exit ?_
    refine thenQ_exit ?_
    refine loopQ_exit ?_
    refine blockQ_exit ?_
    refine thenQ_normal ?_
    refine ev_seq ?_
    refine ev_seq ?_
    refine ev_region rfl ?_
    have hi3 : g.threads.length ≤ i := lt_no h20
    rw [take_all hi3] at hO1
    obtain ⟨p1, hp1⟩ : ∃ x : List Int, x = [Int.ofNat g.threads.length] ++ g.threads.map fun r => Int.ofNat r.length := ⟨_, rfl⟩
    rw [← hp1] at hO1; have hbp1 : p1.length ≤ 1 + g.threads.length := by rw [hp1, List.length_append, List.length_map]; exact Nat.le_refl _
    refine evOps_val rfl (x_assign rfl) rfl ?_
    refine evOps_nil ?_
    refine thenQ_normal ?_
    refine ev_block ?_
    refine ev_loopW [3, 5, 6, 7, 32, 33, 34, 35, 36, 37, 38, 39, 40, 41, 42, 43, 44, 45, 46, 47, 48, 49, 50, 51, 52, 53, 54, 55, 56, 57, 58, 59, 60, 61, 62, 63, 64, 65, 66, 67, 68, 69] (fun j t σ => ∃ (i2 : Nat) (u : AV) (M2 : Own), (j + i2 = g.threads.length ∧ OwnS 1 2 RInt (p1 ++ ((g.threads.take i2).flatMap fun r => r.flatMap XEv.ints)) u M2) ∧ t.get 3 = some (u) ∧ t.get 5 = some (.int .i64 (.ofNat i2)) ∧ St σ K1 (M2 ++ L)) (g.threads.length) ⟨0, _, _, ⟨rfl, by rw [List.take_zero, List.flatMap_nil, List.append_nil]; exact hO1⟩, rfl, rfl, hst⟩ ?_
    clear hst; intro j7 t σ hoff hI; obtain ⟨i2, u, M2, ⟨hj7, hO2⟩, hv3, hv5, hst⟩ := hI
    replace hoff := hoff.ex8 rfl rfl; obtain ⟨o3, o5, o6, o7, o32, o33, o34, o35, hoff⟩ := hoff
    replace hoff := hoff.ex8 rfl rfl; obtain ⟨o36, o37, o38, o39, o40, o41, o42, o43, hoff⟩ := hoff
    replace hoff := hoff.ex8 rfl rfl; obtain ⟨o44, o45, o46, o47, o48, o49, o50, o51, hoff⟩ := hoff
    replace hoff := hoff.ex8 rfl rfl; obtain ⟨o52, o53, o54, o55, o56, o57, o58, o59, hoff⟩ := hoff
    replace hoff := hoff.ex8 rfl rfl; obtain ⟨o60, o61, o62, o63, o64, o65, o66, o67, hoff⟩ := hoff
    replace hoff := hoff.ex1 rfl; obtain ⟨o68, hoff⟩ := hoff
    replace hoff := hoff.ex1 rfl; obtain ⟨o69, hoff⟩ := hoff
    obtain rfl := hoff.nil; clear hoff
    replace hv3 : o3 = some _ := hv3; subst hv3
    replace hv5 : o5 = some _ := hv5; subst hv5
    refine ev_seq ?_
    refine ev_seq ?_
    refine ev_region rfl ?_
    refine evOps_val rfl (x_move rfl) rfl ?_
    refine evOps_val rfl (x_field rfl (k := 1) (by kernel_rfl)) rfl ?_
    refine evOps_val rfl (x_load1 rfl (hst.getK hb1) (by kernel_rfl) rfl) rfl ?_
    refine evOps_val rfl (x_len' hg1.threads rfl rfl rfl (e := 70) (by kernel_rfl) rfl) rfl ?_
    refine evOps_val rfl (x_bin rfl rfl rfl) rfl ?_
    refine evOps_nil ?_
    refine thenQ_normal ?_
    refine ev_cond2 rfl (fun h36 => ?_) (fun h36 => ?_)
    · skip
      refine ev_skip ?_
      refine thenQ_normal ?_
      refine ev_seq ?_
      refine ev_block ?_
      refine ev_seq ?_
      refine ev_region rfl ?_
      obtain ⟨row, hrow⟩ := at_of (lt_yes h36); have hr14 := hF.r row (List.mem_of_getElem? hrow)
      refine evOps_val rfl (x_assign rfl) rfl ?_
      refine evOps_nil ?_
      refine thenQ_normal ?_
      refine ev_block ?_
      refine ev_loopW [3, 6, 7, 39, 40, 41, 42, 43, 44, 45, 46, 47, 48, 49, 50, 51, 52, 53, 54, 55, 56, 57, 58, 59, 60, 61, 62, 63, 64, 65, 66, 67, 68, 69] (fun j t σ => ∃ (q : Nat) (u : AV) (M3 : Own), (j + q = row.length ∧ OwnS 1 2 RInt (p1 ++ ((g.threads.take i2).flatMap fun r => r.flatMap XEv.ints) ++ ((row.take q).flatMap XEv.ints)) u M3) ∧ t.get 3 = some (u) ∧ t.get 6 = some (.int .i64 (.ofNat q)) ∧ St σ K1 (M3 ++ L)) (row.length) ⟨0, _, _, ⟨rfl, by rw [List.take_zero, List.flatMap_nil, List.append_nil]; exact hO2⟩, rfl, rfl, hst⟩ ?_
      clear hst; intro j10 t σ hoff hI; obtain ⟨q, u, M3, ⟨hj10, hO3⟩, hv3, hv6, hst⟩ := hI
      replace hoff := hoff.ex8 rfl rfl; obtain ⟨o3, o6, o7, o39, o40, o41, o42, o43, hoff⟩ := hoff
      replace hoff := hoff.ex8 rfl rfl; obtain ⟨o44, o45, o46, o47, o48, o49, o50, o51, hoff⟩ := hoff
      replace hoff := hoff.ex8 rfl rfl; obtain ⟨o52, o53, o54, o55, o56, o57, o58, o59, hoff⟩ := hoff
      replace hoff := hoff.ex8 rfl rfl; obtain ⟨o60, o61, o62, o63, o64, o65, o66, o67, hoff⟩ := hoff
      replace hoff := hoff.ex1 rfl; obtain ⟨o68, hoff⟩ := hoff
      replace hoff := hoff.ex1 rfl; obtain ⟨o69, hoff⟩ := hoff
      obtain rfl := hoff.nil; clear hoff
      replace hv3 : o3 = some _ := hv3; subst hv3
      replace hv6 : o6 = some _ := hv6; subst hv6
      refine ev_seq ?_
      refine ev_seq ?_
      refine ev_region rfl ?_
      refine evOps_val rfl (x_move rfl) rfl ?_
      refine evOps_val rfl (x_field rfl (k := 1) (by kernel_rfl)) rfl ?_
      refine evOps_val rfl (x_load1 rfl (hst.getK hb1) (by kernel_rfl) rfl) rfl ?_
      refine evOps_val rfl (x_move rfl) rfl ?_
      refine o_idx (e := 70) (m := 1) hg1.threads hrow rfl rfl (by kernel_rfl) (by kernel_rfl) rfl rfl (fun _ => rfl) (fun p43 vs43 hp43 hl43 hr43 => ?_)
      have hr43' := hr43; obtain ⟨v43, rfl, hk43⟩ := hr43'
      refine evOps_val rfl (x_pload1 hst hp43 rfl (by kernel_rfl) rfl) rfl ?_
      refine evOps_val rfl (x_len' hk43 rfl rfl rfl (e := 78) (by kernel_rfl) rfl) rfl ?_
      refine evOps_val rfl (x_bin rfl rfl rfl) rfl ?_
      refine evOps_nil ?_
      refine thenQ_normal ?_
      refine ev_cond2 rfl (fun h46 => ?_) (fun h46 => ?_)
      · skip
        refine ev_skip ?_
        refine thenQ_normal ?_
        refine ev_seq ?_
        refine ev_block ?_
        refine ev_seq ?_
        refine ev_region rfl ?_
        refine evOps_val rfl (x_field rfl (k := 1) (by kernel_rfl)) rfl ?_
        refine evOps_val rfl (x_load1 rfl (hst.getK hb1) (by kernel_rfl) rfl) rfl ?_
        refine evOps_val rfl (x_move rfl) rfl ?_
        refine o_idx (e := 70) (m := 1) hg1.threads hrow rfl rfl (by kernel_rfl) (by kernel_rfl) rfl rfl (fun _ => rfl) (fun p52 vs52 hp52 hl52 hr52 => ?_)
        have hr52' := hr52; obtain ⟨v52, rfl, hk52⟩ := hr52'
        refine evOps_val rfl (x_pload1 hst hp52 rfl (by kernel_rfl) rfl) rfl ?_
        refine evOps_val rfl (x_move rfl) rfl ?_
        obtain ⟨x55, hx55, hi55⟩ := at_lt h46
        refine o_idx (e := 78) (m := 5) hk52 hx55 rfl rfl (by kernel_rfl) (by kernel_rfl) rfl rfl (fun _ => rfl) (fun p55 vs55 hp55 hl55 hr55 => ?_)
        obtain rfl := hr55
        refine evOps_val rfl (x_ploadW hst hp55 rfl (by kernel_rfl) rfl) rfl ?_
        refine o_ptr hst rfl (x_new (cs := [.int .i64 0, .int .i64 0, .int .i64 0, .int .i64 0, .int .i64 0]) (by kernel_rfl) (by kernel_rfl)) (fun _ => rfl) (fun σ b2 hst => ?_)
        refine o_set0 hst rfl (x_storeC rfl rfl rfl (hst.get 0 rfl) (m := 5) (by kernel_rfl) rfl (Nat.le_of_ble_eq_true rfl) (allLeaf_cons rfl (allLeaf_cons rfl (allLeaf_cons rfl (allLeaf_cons rfl (allLeaf_cons rfl allLeaf_nil))))) (cells' := [_, _, _, _, _]) rfl) rfl (fun σ hst => ?_)
        refine evOps_nil ?_
        refine thenQ_normal ?_
        refine ev_region rfl ?_
        refine evOps_val rfl (x_move rfl) rfl ?_
        refine evOps_val rfl (x_field rfl (k := 0) (by kernel_rfl)) rfl ?_
        refine evOps_val rfl (x_load1 rfl (hst.get 0 rfl) (by kernel_rfl) rfl) rfl ?_
        refine evOps_val rfl (x_field rfl (k := 1) (by kernel_rfl)) rfl ?_
        refine evOps_val rfl (x_load1 rfl (hst.get 0 rfl) (by kernel_rfl) rfl) rfl ?_
        refine evOps_val rfl (x_field rfl (k := 2) (by kernel_rfl)) rfl ?_
        refine evOps_val rfl (x_load1 rfl (hst.get 0 rfl) (by kernel_rfl) rfl) rfl ?_
        refine evOps_val rfl (x_field rfl (k := 3) (by kernel_rfl)) rfl ?_
        refine evOps_val rfl (x_load1 rfl (hst.get 0 rfl) (by kernel_rfl) rfl) rfl ?_
        refine evOps_val rfl (x_field rfl (k := 4) (by kernel_rfl)) rfl ?_
        refine evOps_val rfl (x_load1 rfl (hst.get 0 rfl) (by kernel_rfl) rfl) rfl ?_
        refine o_mk hst rfl (x_buildS (e := 2) (m := 1) (z := [.int .i64 0]) (cs := [_, _, _, _, _]) (by kernel_rfl) (by kernel_rfl) (by kernel_rfl) (by kernel_rfl) (fillA_cons rfl rfl rfl rfl (fillA_cons rfl rfl rfl rfl (fillA_cons rfl rfl rfl rfl (fillA_cons rfl rfl rfl rfl (fillA_cons rfl rfl rfl rfl fillA_nil)))))) (fun _ => rfl) (fun σ b3 hst => ?_)
        replace hst := hst.pull (.there (.there .here))
        replace hst := hst.pull (.seg (OwnIn.here (X := [_])))
        refine o_app1 (R := RInt) (m := 1) (e := 2) hO3 hst (hasS_ints (xs := [x55.kind, x55.loc, x55.order, x55.read, x55.write]) (.inr ⟨rfl, rfl⟩) (by simp)) RInt.leaf (by have := len_zb hrow hx55; simp only [List.length_append, List.length_cons, List.length_nil]; omega) rfl rfl rfl rfl rfl rfl rfl (fun _ => rfl) (fun σ u69 M69 hO69 hst => ?_)
        replace hst := hst.sub (sub_seg (.cons _ (.refl _)))
        refine evOps_val rfl (x_assign rfl) rfl ?_
        refine evOps_nil ?_
        refine blockQ_normal ?_
        refine thenQ_normal ?_
        refine ev_region rfl ?_
        refine evOps_val rfl (x_move rfl) rfl ?_
        refine evOps_val rfl (x_bin rfl rfl rfl) rfl ?_
        refine evOps_val rfl (x_assign rfl) rfl ?_
        refine evOps_nil ?_
        refine loopQ_normal ⟨j10 - 1, (by have := lt_yes h46; omega), (by (iterate 68 refine OffW.put rfl ?_); exact OffW.refl _ _), q + 1, _, _, ⟨by have := lt_yes h46; omega, by rw [flatMap_take hx55, ← List.append_assoc]; exact hO69⟩, rfl, congrArg (fun z => some (AV.int .i64 z)) (wr_succ (by have := lt_yes h46; omega)), hst⟩
      · skip
        refine ev_exit ?_
        refine thenQ_exit ?_
        refine loopQ_exit ?_
        refine blockQ_exit ?_
        refine blockQ_normal ?_
        refine thenQ_normal ?_
        refine ev_region rfl ?_
        refine evOps_val rfl (x_move rfl) rfl ?_
        refine evOps_val rfl (x_bin rfl rfl rfl) rfl ?_
        refine evOps_val rfl (x_assign rfl) rfl ?_
        refine evOps_nil ?_
        refine loopQ_normal ⟨j7 - 1, (by have := lt_yes h36; omega), (by (iterate 93 refine OffW.put rfl ?_); exact OffW.refl _ _), i2 + 1, _, _, ⟨by have := lt_yes h36; omega, by rw [flatMap_take hrow, ← List.append_assoc]; rw [take_all (lt_no h46)] at hO3; exact hO3⟩, rfl, congrArg (fun z => some (AV.int .i64 z)) (wr_succ (by have := lt_yes h36; have := hF.t; omega)), hst⟩
    · skip
      refine ev_exit ?_
      refine thenQ_exit ?_
      refine loopQ_exit ?_
      refine blockQ_exit ?_
      refine thenQ_normal ?_
      refine ev_seq ?_
      refine ev_region rfl ?_
      have hi7 : g.threads.length ≤ i2 := lt_no h36
      rw [take_all hi7] at hO2
      obtain ⟨p2, hp2⟩ : ∃ x : List Int, x = p1 ++ g.threads.flatMap fun r => r.flatMap XEv.ints := ⟨_, rfl⟩
      rw [← hp2] at hO2; have hbp2 : p2.length ≤ 1 + g.threads.length + (g.threads.flatMap fun r => r.flatMap XEv.ints).length := by rw [hp2, List.length_append]; omega
      refine evOps_val rfl (x_move rfl) rfl ?_
      refine evOps_val rfl (x_field rfl (k := 2) (by kernel_rfl)) rfl ?_
      refine evOps_val rfl (x_load1 rfl (hst.getK hb1) (by kernel_rfl) rfl) rfl ?_
      refine evOps_val rfl (x_len' hg1.from_ rfl rfl rfl (e := 71) (by kernel_rfl) rfl) rfl ?_
      refine o_mk hst rfl (x_buildS (e := 2) (m := 1) (z := [.int .i64 0]) (cs := [_]) (by kernel_rfl) (by kernel_rfl) (by kernel_rfl) (by kernel_rfl) (fillA_cons rfl rfl rfl rfl fillA_nil)) (fun _ => rfl) (fun σ b2 hst => ?_)
      replace hst := hst.pull (.there .here)
      replace hst := hst.pull (.seg (OwnIn.here (X := [_])))
      refine o_app1 (R := RInt) (m := 1) (e := 2) hO2 hst (hasS_ints (xs := [Int.ofNat g.from_.length]) (.inr ⟨rfl, rfl⟩) (by simp)) RInt.leaf (by simp; omega) rfl rfl rfl rfl rfl rfl rfl (fun _ => rfl) (fun σ u75 M75 hO75 hst => ?_)
      refine evOps_val rfl (x_assign rfl) rfl ?_
      refine evOps_nil ?_
      refine thenQ_normal ?_
      refine ev_seq ?_
      refine ev_seq ?_
      refine ev_region rfl ?_
      obtain ⟨p3, hp3⟩ : ∃ x : List Int, x = p2 ++ [Int.ofNat g.from_.length] := ⟨_, rfl⟩
      rw [← hp3] at hO75; have hbp3 : p3.length ≤ 2 + g.threads.length + (g.threads.flatMap fun r => r.flatMap XEv.ints).length := by rw [hp3, List.length_append]; show p2.length + 1 ≤ _; omega
      refine evOps_val rfl (x_assign rfl) rfl ?_
      refine evOps_nil ?_
      refine thenQ_normal ?_
      refine ev_block ?_
      refine ev_loopW [3, 8, 9, 76, 77, 78, 79, 80, 81, 82, 83, 84, 85, 86, 87, 88, 89, 90, 91, 92, 93, 94, 95, 96, 97, 98, 99, 100, 101, 102, 103, 104, 105, 106, 107, 108, 109, 110, 111, 112, 113, 114, 115, 116, 117, 118, 119, 120, 121, 122] (fun j t σ => ∃ (i3 : Nat) (u : AV) (M4 : Own), (j + i3 = g.from_.length ∧ OwnS 1 2 RInt (p3 ++ ((g.from_.take i3).flatMap encIds)) u M4) ∧ t.get 3 = some (u) ∧ t.get 8 = some (.int .i64 (.ofNat i3)) ∧ St σ K1 (M4 ++ L)) (g.from_.length) ⟨0, _, _, ⟨rfl, by rw [List.take_zero, List.flatMap_nil, List.append_nil]; exact hO75⟩, rfl, rfl, hst⟩ ?_
      clear hst; intro j16 t σ hoff hI; obtain ⟨i3, u, M4, ⟨hj16, hO4⟩, hv3, hv8, hst⟩ := hI
      replace hoff := hoff.ex8 rfl rfl; obtain ⟨o3, o8, o9, o76, o77, o78, o79, o80, hoff⟩ := hoff
      replace hoff := hoff.ex8 rfl rfl; obtain ⟨o81, o82, o83, o84, o85, o86, o87, o88, hoff⟩ := hoff
      replace hoff := hoff.ex8 rfl rfl; obtain ⟨o89, o90, o91, o92, o93, o94, o95, o96, hoff⟩ := hoff
      replace hoff := hoff.ex8 rfl rfl; obtain ⟨o97, o98, o99, o100, o101, o102, o103, o104, hoff⟩ := hoff
      replace hoff := hoff.ex8 rfl rfl; obtain ⟨o105, o106, o107, o108, o109, o110, o111, o112, hoff⟩ := hoff
      replace hoff := hoff.ex8 rfl rfl; obtain ⟨o113, o114, o115, o116, o117, o118, o119, o120, hoff⟩ := hoff
      replace hoff := hoff.ex1 rfl; obtain ⟨o121, hoff⟩ := hoff
      replace hoff := hoff.ex1 rfl; obtain ⟨o122, hoff⟩ := hoff
      obtain rfl := hoff.nil; clear hoff
      replace hv3 : o3 = some _ := hv3; subst hv3
      replace hv8 : o8 = some _ := hv8; subst hv8
      refine ev_seq ?_
      refine ev_seq ?_
      refine ev_region rfl ?_
      refine evOps_val rfl (x_move rfl) rfl ?_
      refine evOps_val rfl (x_field rfl (k := 2) (by kernel_rfl)) rfl ?_
      refine evOps_val rfl (x_load1 rfl (hst.getK hb1) (by kernel_rfl) rfl) rfl ?_
      refine evOps_val rfl (x_len' hg1.from_ rfl rfl rfl (e := 71) (by kernel_rfl) rfl) rfl ?_
      refine evOps_val rfl (x_bin rfl rfl rfl) rfl ?_
      refine evOps_nil ?_
      refine thenQ_normal ?_
      refine ev_cond2 rfl (fun h80 => ?_) (fun h80 => ?_)
      · skip
        refine ev_skip ?_
        refine thenQ_normal ?_
        refine ev_seq ?_
        refine ev_block ?_
        refine ev_seq ?_
        refine ev_region rfl ?_
        obtain ⟨fr, hfr⟩ := at_of (lt_yes h80); have hf14 := hF.fr fr (List.mem_of_getElem? hfr)
        refine evOps_val rfl (x_move rfl) rfl ?_
        refine evOps_val rfl (x_field rfl (k := 2) (by kernel_rfl)) rfl ?_
        refine evOps_val rfl (x_load1 rfl (hst.getK hb1) (by kernel_rfl) rfl) rfl ?_
        refine evOps_val rfl (x_move rfl) rfl ?_
        refine o_idx (e := 71) (m := 1) hg1.from_ hfr rfl rfl (by kernel_rfl) (by kernel_rfl) rfl rfl (fun _ => rfl) (fun p87 vs87 hp87 hl87 hr87 => ?_)
        have hr87' := hr87; obtain ⟨v87, rfl, hk87⟩ := hr87'
        refine evOps_val rfl (x_pload1 hst hp87 rfl (by kernel_rfl) rfl) rfl ?_
        refine evOps_val rfl (x_len' hk87 rfl rfl rfl (e := 81) (by kernel_rfl) rfl) rfl ?_
        refine o_mk hst rfl (x_buildS (e := 2) (m := 1) (z := [.int .i64 0]) (cs := [_]) (by kernel_rfl) (by kernel_rfl) (by kernel_rfl) (by kernel_rfl) (fillA_cons rfl rfl rfl rfl fillA_nil)) (fun _ => rfl) (fun σ b3 hst => ?_)
        replace hst := hst.pull (.there .here)
        replace hst := hst.pull (.seg (OwnIn.here (X := [_])))
        refine o_app1 (R := RInt) (m := 1) (e := 2) hO4 hst (hasS_ints (xs := [Int.ofNat fr.length]) (.inr ⟨rfl, rfl⟩) (by simp)) RInt.leaf (by have := len_z1 hfr; simp only [List.length_append, List.length_cons, List.length_nil]; omega) rfl rfl rfl rfl rfl rfl rfl (fun _ => rfl) (fun σ u91 M91 hO91 hst => ?_)
        refine evOps_val rfl (x_assign rfl) rfl ?_
        refine evOps_nil ?_
        refine thenQ_normal ?_
        refine ev_seq ?_
        refine ev_region rfl ?_
        refine evOps_val rfl (x_assign rfl) rfl ?_
        refine evOps_nil ?_
        refine thenQ_normal ?_
        refine ev_block ?_
        refine ev_loopW [3, 9, 92, 93, 94, 95, 96, 97, 98, 99, 100, 101, 102, 103, 104, 105, 106, 107, 108, 109, 110, 111, 112, 113, 114, 115, 116, 117, 118, 119, 120, 121, 122] (fun j t σ => ∃ (q3 : Nat) (u : AV) (M5 : Own), (j + q3 = fr.length ∧ OwnS 1 2 RInt (p3 ++ ((g.from_.take i3).flatMap encIds) ++ [Int.ofNat fr.length] ++ ((fr.take q3).flatMap XId.ints)) u M5) ∧ t.get 3 = some (u) ∧ t.get 9 = some (.int .i64 (.ofNat q3)) ∧ St σ K1 (M5 ++ L)) (fr.length) ⟨0, _, _, ⟨rfl, by rw [List.take_zero, List.flatMap_nil, List.append_nil]; exact hO91⟩, rfl, rfl, hst⟩ ?_
        clear hst; intro j20 t σ hoff hI; obtain ⟨q3, u, M5, ⟨hj20, hO5⟩, hv3, hv9, hst⟩ := hI
        replace hoff := hoff.ex8 rfl rfl; obtain ⟨o3, o9, o92, o93, o94, o95, o96, o97, hoff⟩ := hoff
        replace hoff := hoff.ex8 rfl rfl; obtain ⟨o98, o99, o100, o101, o102, o103, o104, o105, hoff⟩ := hoff
        replace hoff := hoff.ex8 rfl rfl; obtain ⟨o106, o107, o108, o109, o110, o111, o112, o113, hoff⟩ := hoff
        replace hoff := hoff.ex8 rfl rfl; obtain ⟨o114, o115, o116, o117, o118, o119, o120, o121, hoff⟩ := hoff
        replace hoff := hoff.ex1 rfl; obtain ⟨o122, hoff⟩ := hoff
        obtain rfl := hoff.nil; clear hoff
        replace hv3 : o3 = some _ := hv3; subst hv3
        replace hv9 : o9 = some _ := hv9; subst hv9
        refine ev_seq ?_
        refine ev_seq ?_
        refine ev_region rfl ?_
        refine evOps_val rfl (x_move rfl) rfl ?_
        refine evOps_val rfl (x_field rfl (k := 2) (by kernel_rfl)) rfl ?_
        refine evOps_val rfl (x_load1 rfl (hst.getK hb1) (by kernel_rfl) rfl) rfl ?_
        refine evOps_val rfl (x_move rfl) rfl ?_
        refine o_idx (e := 71) (m := 1) hg1.from_ hfr rfl rfl (by kernel_rfl) (by kernel_rfl) rfl rfl (fun _ => rfl) (fun p96 vs96 hp96 hl96 hr96 => ?_)
        have hr96' := hr96; obtain ⟨v96, rfl, hk96⟩ := hr96'
        refine evOps_val rfl (x_pload1 hst hp96 rfl (by kernel_rfl) rfl) rfl ?_
        refine evOps_val rfl (x_len' hk96 rfl rfl rfl (e := 81) (by kernel_rfl) rfl) rfl ?_
        refine evOps_val rfl (x_bin rfl rfl rfl) rfl ?_
        refine evOps_nil ?_
        refine thenQ_normal ?_
        refine ev_cond2 rfl (fun h99 => ?_) (fun h99 => ?_)
        · skip
          refine ev_skip ?_
          refine thenQ_normal ?_
          refine ev_seq ?_
          refine ev_block ?_
          refine ev_region_plan (l := [(0, []), (1, []), (2, []), (3, []), (4, []), (5, []), (6, []), (7, []), (8, []), (9, []), (10, []), (11, []), (12, []), (13, []), (14, []), (15, []), (16, []), (17, []), (18, []), (19, []), (20, []), (21, [])]) (by kernel_rfl) (by kernel_rfl) ?_
          refine evPlan_val rfl rfl (x_move rfl) rfl ?_
          refine evPlan_val rfl rfl (x_field rfl (k := 2) (by kernel_rfl)) rfl ?_
          refine evPlan_val rfl rfl (x_load1 rfl (hst.getK hb1) (by kernel_rfl) rfl) rfl ?_
          refine evPlan_val rfl rfl (x_move rfl) rfl ?_
          refine p_idx (e := 71) (m := 1) hg1.from_ hfr rfl rfl rfl (by kernel_rfl) (by kernel_rfl) rfl rfl (fun _ => rfl) (fun p106 vs106 hp106 hl106 hr106 => ?_)
          have hr106' := hr106; obtain ⟨v106, rfl, hk106⟩ := hr106'
          refine evPlan_val rfl rfl (x_pload1 hst hp106 rfl (by kernel_rfl) rfl) rfl ?_
          refine evPlan_val rfl rfl (x_move rfl) rfl ?_
          obtain ⟨x109, hx109, hi109⟩ := at_lt h99
          refine p_idx (e := 81) (m := 2) hk106 hx109 rfl rfl rfl (by kernel_rfl) (by kernel_rfl) rfl rfl (fun _ => rfl) (fun p109 vs109 hp109 hl109 hr109 => ?_)
          obtain rfl := hr109
          refine p_pfield hp109 rfl rfl rfl rfl (k := 0) (by kernel_rfl) (Nat.le_of_ble_eq_true rfl) (fun _ => rfl) (fun p110 hp110 => ?_)
          refine evPlan_val rfl rfl (x_pload1 hst hp110 rfl (by kernel_rfl) rfl) rfl ?_
          refine evPlan_val rfl rfl (x_field rfl (k := 2) (by kernel_rfl)) rfl ?_
          refine evPlan_val rfl rfl (x_load1 rfl (hst.getK hb1) (by kernel_rfl) rfl) rfl ?_
          refine evPlan_val rfl rfl (x_move rfl) rfl ?_
          refine p_idx (e := 71) (m := 1) hg1.from_ hfr rfl rfl rfl (by kernel_rfl) (by kernel_rfl) rfl rfl (fun _ => rfl) (fun p115 vs115 hp115 hl115 hr115 => ?_)
          have hr115' := hr115; obtain ⟨v115, rfl, hk115⟩ := hr115'
          refine evPlan_val rfl rfl (x_pload1 hst hp115 rfl (by kernel_rfl) rfl) rfl ?_
          refine evPlan_val rfl rfl (x_move rfl) rfl ?_
          refine p_idx (e := 81) (m := 2) hk115 hx109 rfl rfl rfl (by kernel_rfl) (by kernel_rfl) rfl rfl (fun _ => rfl) (fun p118 vs118 hp118 hl118 hr118 => ?_)
          obtain rfl := hr118
          refine p_pfield hp118 rfl rfl rfl rfl (k := 1) (by kernel_rfl) (Nat.le_of_ble_eq_true rfl) (fun _ => rfl) (fun p119 hp119 => ?_)
          refine evPlan_val rfl rfl (x_pload1 hst hp119 rfl (by kernel_rfl) rfl) rfl ?_
          refine p_mk hst rfl rfl (x_buildS (e := 2) (m := 1) (z := [.int .i64 0]) (cs := [_, _]) (by kernel_rfl) (by kernel_rfl) (by kernel_rfl) (by kernel_rfl) (fillA_cons rfl rfl rfl rfl (fillA_cons rfl rfl rfl rfl fillA_nil))) (fun _ => rfl) (fun σ b4 hst => ?_)
          replace hst := hst.pull (.there .here)
          replace hst := hst.pull (.seg (OwnIn.here (X := [_])))
          refine p_app1 (R := RInt) (m := 1) (e := 2) hO5 hst (hasS_ints (xs := [x109.thread, x109.index]) (.inr ⟨rfl, rfl⟩) (by simp)) RInt.leaf (by have := len_z2 hfr hx109; simp only [List.length_append, List.length_cons, List.length_nil]; omega) rfl rfl rfl rfl rfl rfl rfl rfl (fun _ => rfl) (fun σ u122 M122 hO122 hst => ?_)
          refine ⟨still_nil, ?_⟩
          refine evPlan_val rfl rfl (x_assign rfl) rfl ?_
          refine evPlan_nil ?_
          refine blockQ_normal ?_
          refine thenQ_normal ?_
          refine ev_region rfl ?_
          refine evOps_val rfl (x_move rfl) rfl ?_
          refine evOps_val rfl (x_bin rfl rfl rfl) rfl ?_
          refine evOps_val rfl (x_assign rfl) rfl ?_
          refine evOps_nil ?_
          refine loopQ_normal ⟨j20 - 1, (by have := lt_yes h99; omega), (by (iterate 66 refine OffW.put rfl ?_); exact OffW.refl _ _), q3 + 1, _, _, ⟨by have := lt_yes h99; omega, by rw [flatMap_take hx109, ← List.append_assoc]; exact hO122⟩, rfl, congrArg (fun z => some (AV.int .i64 z)) (wr_succ (by have := lt_yes h99; omega)), hst⟩
        · skip
          refine ev_exit ?_
          refine thenQ_exit ?_
          refine loopQ_exit ?_
          refine blockQ_exit ?_
          refine blockQ_normal ?_
          refine thenQ_normal ?_
          refine ev_region rfl ?_
          refine evOps_val rfl (x_move rfl) rfl ?_
          refine evOps_val rfl (x_bin rfl rfl rfl) rfl ?_
          refine evOps_val rfl (x_assign rfl) rfl ?_
          refine evOps_nil ?_
          refine loopQ_normal ⟨j16 - 1, (by have := lt_yes h80; omega), (by (iterate 110 refine OffW.put rfl ?_); exact OffW.refl _ _), i3 + 1, _, _, ⟨by have := lt_yes h80; omega, by rw [flatMap_take hfr, ← List.append_assoc]; rw [take_all (lt_no h99)] at hO5; rw [List.append_assoc] at hO5; exact hO5⟩, rfl, congrArg (fun z => some (AV.int .i64 z)) (wr_succ (by have := lt_yes h80; have := hF.f; have := hF.o; omega)), hst⟩
      · skip
        refine ev_exit ?_
        refine thenQ_exit ?_
        refine loopQ_exit ?_
        refine blockQ_exit ?_
        refine thenQ_normal ?_
        refine ev_seq ?_
        refine ev_region rfl ?_
        have hi16 : g.from_.length ≤ i3 := lt_no h80
        rw [take_all hi16] at hO4
        obtain ⟨p4, hp4⟩ : ∃ x : List Int, x = p3 ++ g.from_.flatMap encIds := ⟨_, rfl⟩
        rw [← hp4] at hO4; have hbp4 : p4.length ≤ 2 + g.threads.length + (g.threads.flatMap fun r => r.flatMap XEv.ints).length + (g.from_.flatMap encIds).length := by rw [hp4, List.length_append]; omega
        refine evOps_val rfl (x_move rfl) rfl ?_
        refine evOps_val rfl (x_field rfl (k := 3) (by kernel_rfl)) rfl ?_
        refine evOps_val rfl (x_load1 rfl (hst.getK hb1) (by kernel_rfl) rfl) rfl ?_
        refine evOps_val rfl (x_len' hg1.order rfl rfl rfl (e := 71) (by kernel_rfl) rfl) rfl ?_
        refine o_mk hst rfl (x_buildS (e := 2) (m := 1) (z := [.int .i64 0]) (cs := [_]) (by kernel_rfl) (by kernel_rfl) (by kernel_rfl) (by kernel_rfl) (fillA_cons rfl rfl rfl rfl fillA_nil)) (fun _ => rfl) (fun σ b3 hst => ?_)
        replace hst := hst.pull (.there .here)
        replace hst := hst.pull (.seg (OwnIn.here (X := [_])))
        refine o_app1 (R := RInt) (m := 1) (e := 2) hO4 hst (hasS_ints (xs := [Int.ofNat g.order.length]) (.inr ⟨rfl, rfl⟩) (by simp)) RInt.leaf (by simp; omega) rfl rfl rfl rfl rfl rfl rfl (fun _ => rfl) (fun σ u128 M128 hO128 hst => ?_)
        refine evOps_val rfl (x_assign rfl) rfl ?_
        refine evOps_nil ?_
        refine thenQ_normal ?_
        refine ev_seq ?_
        refine ev_seq ?_
        refine ev_region rfl ?_
        obtain ⟨p5, hp5⟩ : ∃ x : List Int, x = p4 ++ [Int.ofNat g.order.length] := ⟨_, rfl⟩
        rw [← hp5] at hO128; have hbp5 : p5.length ≤ 3 + g.threads.length + (g.threads.flatMap fun r => r.flatMap XEv.ints).length + (g.from_.flatMap encIds).length := by rw [hp5, List.length_append]; show p4.length + 1 ≤ _; omega
        refine evOps_val rfl (x_assign rfl) rfl ?_
        refine evOps_nil ?_
        refine thenQ_normal ?_
        refine ev_block ?_
        refine ev_loopW [3, 10, 11, 129, 130, 131, 132, 133, 134, 135, 136, 137, 138, 139, 140, 141, 142, 143, 144, 145, 146, 147, 148, 149, 150, 151, 152, 153, 154, 155, 156, 157, 158, 159, 160, 161, 162, 163, 164, 165, 166, 167, 168, 169, 170, 171, 172, 173, 174, 175] (fun j t σ => ∃ (i4 : Nat) (u : AV) (M6 : Own), (j + i4 = g.order.length ∧ OwnS 1 2 RInt (p5 ++ ((g.order.take i4).flatMap encIds)) u M6) ∧ t.get 3 = some (u) ∧ t.get 10 = some (.int .i64 (.ofNat i4)) ∧ St σ K1 (M6 ++ L)) (g.order.length) ⟨0, _, _, ⟨rfl, by rw [List.take_zero, List.flatMap_nil, List.append_nil]; exact hO128⟩, rfl, rfl, hst⟩ ?_
        clear hst; intro j25 t σ hoff hI; obtain ⟨i4, u, M6, ⟨hj25, hO6⟩, hv3, hv10, hst⟩ := hI
        replace hoff := hoff.ex8 rfl rfl; obtain ⟨o3, o10, o11, o129, o130, o131, o132, o133, hoff⟩ := hoff
        replace hoff := hoff.ex8 rfl rfl; obtain ⟨o134, o135, o136, o137, o138, o139, o140, o141, hoff⟩ := hoff
        replace hoff := hoff.ex8 rfl rfl; obtain ⟨o142, o143, o144, o145, o146, o147, o148, o149, hoff⟩ := hoff
        replace hoff := hoff.ex8 rfl rfl; obtain ⟨o150, o151, o152, o153, o154, o155, o156, o157, hoff⟩ := hoff
        replace hoff := hoff.ex8 rfl rfl; obtain ⟨o158, o159, o160, o161, o162, o163, o164, o165, hoff⟩ := hoff
        replace hoff := hoff.ex8 rfl rfl; obtain ⟨o166, o167, o168, o169, o170, o171, o172, o173, hoff⟩ := hoff
        replace hoff := hoff.ex1 rfl; obtain ⟨o174, hoff⟩ := hoff
        replace hoff := hoff.ex1 rfl; obtain ⟨o175, hoff⟩ := hoff
        obtain rfl := hoff.nil; clear hoff
        replace hv3 : o3 = some _ := hv3; subst hv3
        replace hv10 : o10 = some _ := hv10; subst hv10
        refine ev_seq ?_
        refine ev_seq ?_
        refine ev_region rfl ?_
        refine evOps_val rfl (x_move rfl) rfl ?_
        refine evOps_val rfl (x_field rfl (k := 3) (by kernel_rfl)) rfl ?_
        refine evOps_val rfl (x_load1 rfl (hst.getK hb1) (by kernel_rfl) rfl) rfl ?_
        refine evOps_val rfl (x_len' hg1.order rfl rfl rfl (e := 71) (by kernel_rfl) rfl) rfl ?_
        refine evOps_val rfl (x_bin rfl rfl rfl) rfl ?_
        refine evOps_nil ?_
        refine thenQ_normal ?_
        refine ev_cond2 rfl (fun h133 => ?_) (fun h133 => ?_)
        · skip
          refine ev_skip ?_
          refine thenQ_normal ?_
          refine ev_seq ?_
          refine ev_block ?_
          refine ev_seq ?_
          refine ev_region rfl ?_
          obtain ⟨od, hod⟩ := at_of (lt_yes h133); have ho56 := hF.or_ od (List.mem_of_getElem? hod)
          refine evOps_val rfl (x_move rfl) rfl ?_
          refine evOps_val rfl (x_field rfl (k := 3) (by kernel_rfl)) rfl ?_
          refine evOps_val rfl (x_load1 rfl (hst.getK hb1) (by kernel_rfl) rfl) rfl ?_
          refine evOps_val rfl (x_move rfl) rfl ?_
          refine o_idx (e := 71) (m := 1) hg1.order hod rfl rfl (by kernel_rfl) (by kernel_rfl) rfl rfl (fun _ => rfl) (fun p140 vs140 hp140 hl140 hr140 => ?_)
          have hr140' := hr140; obtain ⟨v140, rfl, hk140⟩ := hr140'
          refine evOps_val rfl (x_pload1 hst hp140 rfl (by kernel_rfl) rfl) rfl ?_
          refine evOps_val rfl (x_len' hk140 rfl rfl rfl (e := 81) (by kernel_rfl) rfl) rfl ?_
          refine o_mk hst rfl (x_buildS (e := 2) (m := 1) (z := [.int .i64 0]) (cs := [_]) (by kernel_rfl) (by kernel_rfl) (by kernel_rfl) (by kernel_rfl) (fillA_cons rfl rfl rfl rfl fillA_nil)) (fun _ => rfl) (fun σ b4 hst => ?_)
          replace hst := hst.pull (.there .here)
          replace hst := hst.pull (.seg (OwnIn.here (X := [_])))
          refine o_app1 (R := RInt) (m := 1) (e := 2) hO6 hst (hasS_ints (xs := [Int.ofNat od.length]) (.inr ⟨rfl, rfl⟩) (by simp)) RInt.leaf (by have := len_z1 hod; simp only [List.length_append, List.length_cons, List.length_nil]; omega) rfl rfl rfl rfl rfl rfl rfl (fun _ => rfl) (fun σ u144 M144 hO144 hst => ?_)
          refine evOps_val rfl (x_assign rfl) rfl ?_
          refine evOps_nil ?_
          refine thenQ_normal ?_
          refine ev_seq ?_
          refine ev_region rfl ?_
          refine evOps_val rfl (x_assign rfl) rfl ?_
          refine evOps_nil ?_
          refine thenQ_normal ?_
          refine ev_block ?_
          refine ev_loopW [3, 11, 145, 146, 147, 148, 149, 150, 151, 152, 153, 154, 155, 156, 157, 158, 159, 160, 161, 162, 163, 164, 165, 166, 167, 168, 169, 170, 171, 172, 173, 174, 175] (fun j t σ => ∃ (q4 : Nat) (u : AV) (M7 : Own), (j + q4 = od.length ∧ OwnS 1 2 RInt (p5 ++ ((g.order.take i4).flatMap encIds) ++ [Int.ofNat od.length] ++ ((od.take q4).flatMap XId.ints)) u M7) ∧ t.get 3 = some (u) ∧ t.get 11 = some (.int .i64 (.ofNat q4)) ∧ St σ K1 (M7 ++ L)) (od.length) ⟨0, _, _, ⟨rfl, by rw [List.take_zero, List.flatMap_nil, List.append_nil]; exact hO144⟩, rfl, rfl, hst⟩ ?_
          clear hst; intro j29 t σ hoff hI; obtain ⟨q4, u, M7, ⟨hj29, hO7⟩, hv3, hv11, hst⟩ := hI
          replace hoff := hoff.ex8 rfl rfl; obtain ⟨o3, o11, o145, o146, o147, o148, o149, o150, hoff⟩ := hoff
          replace hoff := hoff.ex8 rfl rfl; obtain ⟨o151, o152, o153, o154, o155, o156, o157, o158, hoff⟩ := hoff
          replace hoff := hoff.ex8 rfl rfl; obtain ⟨o159, o160, o161, o162, o163, o164, o165, o166, hoff⟩ := hoff
          replace hoff := hoff.ex8 rfl rfl; obtain ⟨o167, o168, o169, o170, o171, o172, o173, o174, hoff⟩ := hoff
          replace hoff := hoff.ex1 rfl; obtain ⟨o175, hoff⟩ := hoff
          obtain rfl := hoff.nil; clear hoff
          replace hv3 : o3 = some _ := hv3; subst hv3
          replace hv11 : o11 = some _ := hv11; subst hv11
          refine ev_seq ?_
          refine ev_seq ?_
          refine ev_region rfl ?_
          refine evOps_val rfl (x_move rfl) rfl ?_
          refine evOps_val rfl (x_field rfl (k := 3) (by kernel_rfl)) rfl ?_
          refine evOps_val rfl (x_load1 rfl (hst.getK hb1) (by kernel_rfl) rfl) rfl ?_
          refine evOps_val rfl (x_move rfl) rfl ?_
          refine o_idx (e := 71) (m := 1) hg1.order hod rfl rfl (by kernel_rfl) (by kernel_rfl) rfl rfl (fun _ => rfl) (fun p149 vs149 hp149 hl149 hr149 => ?_)
          have hr149' := hr149; obtain ⟨v149, rfl, hk149⟩ := hr149'
          refine evOps_val rfl (x_pload1 hst hp149 rfl (by kernel_rfl) rfl) rfl ?_
          refine evOps_val rfl (x_len' hk149 rfl rfl rfl (e := 81) (by kernel_rfl) rfl) rfl ?_
          refine evOps_val rfl (x_bin rfl rfl rfl) rfl ?_
          refine evOps_nil ?_
          refine thenQ_normal ?_
          refine ev_cond2 rfl (fun h152 => ?_) (fun h152 => ?_)
          · skip
            refine ev_skip ?_
            refine thenQ_normal ?_
            refine ev_seq ?_
            refine ev_block ?_
            refine ev_region_plan (l := [(0, []), (1, []), (2, []), (3, []), (4, []), (5, []), (6, []), (7, []), (8, []), (9, []), (10, []), (11, []), (12, []), (13, []), (14, []), (15, []), (16, []), (17, []), (18, []), (19, []), (20, []), (21, [])]) (by kernel_rfl) (by kernel_rfl) ?_
            refine evPlan_val rfl rfl (x_move rfl) rfl ?_
            refine evPlan_val rfl rfl (x_field rfl (k := 3) (by kernel_rfl)) rfl ?_
            refine evPlan_val rfl rfl (x_load1 rfl (hst.getK hb1) (by kernel_rfl) rfl) rfl ?_
            refine evPlan_val rfl rfl (x_move rfl) rfl ?_
            refine p_idx (e := 71) (m := 1) hg1.order hod rfl rfl rfl (by kernel_rfl) (by kernel_rfl) rfl rfl (fun _ => rfl) (fun p159 vs159 hp159 hl159 hr159 => ?_)
            have hr159' := hr159; obtain ⟨v159, rfl, hk159⟩ := hr159'
            refine evPlan_val rfl rfl (x_pload1 hst hp159 rfl (by kernel_rfl) rfl) rfl ?_
            refine evPlan_val rfl rfl (x_move rfl) rfl ?_
            obtain ⟨x162, hx162, hi162⟩ := at_lt h152
            refine p_idx (e := 81) (m := 2) hk159 hx162 rfl rfl rfl (by kernel_rfl) (by kernel_rfl) rfl rfl (fun _ => rfl) (fun p162 vs162 hp162 hl162 hr162 => ?_)
            obtain rfl := hr162
            refine p_pfield hp162 rfl rfl rfl rfl (k := 0) (by kernel_rfl) (Nat.le_of_ble_eq_true rfl) (fun _ => rfl) (fun p163 hp163 => ?_)
            refine evPlan_val rfl rfl (x_pload1 hst hp163 rfl (by kernel_rfl) rfl) rfl ?_
            refine evPlan_val rfl rfl (x_field rfl (k := 3) (by kernel_rfl)) rfl ?_
            refine evPlan_val rfl rfl (x_load1 rfl (hst.getK hb1) (by kernel_rfl) rfl) rfl ?_
            refine evPlan_val rfl rfl (x_move rfl) rfl ?_
            refine p_idx (e := 71) (m := 1) hg1.order hod rfl rfl rfl (by kernel_rfl) (by kernel_rfl) rfl rfl (fun _ => rfl) (fun p168 vs168 hp168 hl168 hr168 => ?_)
            have hr168' := hr168; obtain ⟨v168, rfl, hk168⟩ := hr168'
            refine evPlan_val rfl rfl (x_pload1 hst hp168 rfl (by kernel_rfl) rfl) rfl ?_
            refine evPlan_val rfl rfl (x_move rfl) rfl ?_
            refine p_idx (e := 81) (m := 2) hk168 hx162 rfl rfl rfl (by kernel_rfl) (by kernel_rfl) rfl rfl (fun _ => rfl) (fun p171 vs171 hp171 hl171 hr171 => ?_)
            obtain rfl := hr171
            refine p_pfield hp171 rfl rfl rfl rfl (k := 1) (by kernel_rfl) (Nat.le_of_ble_eq_true rfl) (fun _ => rfl) (fun p172 hp172 => ?_)
            refine evPlan_val rfl rfl (x_pload1 hst hp172 rfl (by kernel_rfl) rfl) rfl ?_
            refine p_mk hst rfl rfl (x_buildS (e := 2) (m := 1) (z := [.int .i64 0]) (cs := [_, _]) (by kernel_rfl) (by kernel_rfl) (by kernel_rfl) (by kernel_rfl) (fillA_cons rfl rfl rfl rfl (fillA_cons rfl rfl rfl rfl fillA_nil))) (fun _ => rfl) (fun σ b5 hst => ?_)
            replace hst := hst.pull (.there .here)
            replace hst := hst.pull (.seg (OwnIn.here (X := [_])))
            refine p_app1 (R := RInt) (m := 1) (e := 2) hO7 hst (hasS_ints (xs := [x162.thread, x162.index]) (.inr ⟨rfl, rfl⟩) (by simp)) RInt.leaf (by have := len_z2 hod hx162; simp only [List.length_append, List.length_cons, List.length_nil]; omega) rfl rfl rfl rfl rfl rfl rfl rfl (fun _ => rfl) (fun σ u175 M175 hO175 hst => ?_)
            refine ⟨still_nil, ?_⟩
            refine evPlan_val rfl rfl (x_assign rfl) rfl ?_
            refine evPlan_nil ?_
            refine blockQ_normal ?_
            refine thenQ_normal ?_
            refine ev_region rfl ?_
            refine evOps_val rfl (x_move rfl) rfl ?_
            refine evOps_val rfl (x_bin rfl rfl rfl) rfl ?_
            refine evOps_val rfl (x_assign rfl) rfl ?_
            refine evOps_nil ?_
            refine loopQ_normal ⟨j29 - 1, (by have := lt_yes h152; omega), (by (iterate 66 refine OffW.put rfl ?_); exact OffW.refl _ _), q4 + 1, _, _, ⟨by have := lt_yes h152; omega, by rw [flatMap_take hx162, ← List.append_assoc]; exact hO175⟩, rfl, congrArg (fun z => some (AV.int .i64 z)) (wr_succ (by have := lt_yes h152; omega)), hst⟩
          · skip
            refine ev_exit ?_
            refine thenQ_exit ?_
            refine loopQ_exit ?_
            refine blockQ_exit ?_
            refine blockQ_normal ?_
            refine thenQ_normal ?_
            refine ev_region rfl ?_
            refine evOps_val rfl (x_move rfl) rfl ?_
            refine evOps_val rfl (x_bin rfl rfl rfl) rfl ?_
            refine evOps_val rfl (x_assign rfl) rfl ?_
            refine evOps_nil ?_
            refine loopQ_normal ⟨j25 - 1, (by have := lt_yes h133; omega), (by (iterate 110 refine OffW.put rfl ?_); exact OffW.refl _ _), i4 + 1, _, _, ⟨by have := lt_yes h133; omega, by rw [flatMap_take hod, ← List.append_assoc]; rw [take_all (lt_no h152)] at hO7; rw [List.append_assoc] at hO7; exact hO7⟩, rfl, congrArg (fun z => some (AV.int .i64 z)) (wr_succ (by have := lt_yes h133; have := hF.f; have := hF.o; omega)), hst⟩
        · skip
          refine ev_exit ?_
          refine thenQ_exit ?_
          refine loopQ_exit ?_
          refine blockQ_exit ?_
          refine thenQ_normal ?_
          refine ev_seq ?_
          refine ev_region rfl ?_
          have hi25 : g.order.length ≤ i4 := lt_no h133
          rw [take_all hi25] at hO6
          obtain ⟨p6, hp6⟩ : ∃ x : List Int, x = p5 ++ g.order.flatMap encIds := ⟨_, rfl⟩
          rw [← hp6] at hO6; have hbp6 : p6.length ≤ 3 + g.threads.length + (g.threads.flatMap fun r => r.flatMap XEv.ints).length + (g.from_.flatMap encIds).length + (g.order.flatMap encIds).length := by rw [hp6, List.length_append]; omega
          refine evOps_val rfl (x_move rfl) rfl ?_
          refine evOps_val rfl (x_field rfl (k := 0) (by kernel_rfl)) rfl ?_
          refine evOps_val rfl (x_load1 rfl (hst.getK hb1) (by kernel_rfl) rfl) rfl ?_
          refine evOps_val rfl (x_len' hg1.init rfl rfl rfl (e := 2) (by kernel_rfl) rfl) rfl ?_
          refine o_mk hst rfl (x_buildS (e := 2) (m := 1) (z := [.int .i64 0]) (cs := [_]) (by kernel_rfl) (by kernel_rfl) (by kernel_rfl) (by kernel_rfl) (fillA_cons rfl rfl rfl rfl fillA_nil)) (fun _ => rfl) (fun σ b4 hst => ?_)
          replace hst := hst.pull (.there .here)
          replace hst := hst.pull (.seg (OwnIn.here (X := [_])))
          refine o_app1 (R := RInt) (m := 1) (e := 2) hO6 hst (hasS_ints (xs := [Int.ofNat g.init.length]) (.inr ⟨rfl, rfl⟩) (by simp)) RInt.leaf (by simp; omega) rfl rfl rfl rfl rfl rfl rfl (fun _ => rfl) (fun σ u181 M181 hO181 hst => ?_)
          refine evOps_val rfl (x_assign rfl) rfl ?_
          refine evOps_nil ?_
          refine thenQ_normal ?_
          refine ev_seq ?_
          refine ev_region rfl ?_
          refine evOps_val rfl (x_move rfl) rfl ?_
          refine evOps_val rfl (x_field rfl (k := 0) (by kernel_rfl)) rfl ?_
          refine evOps_val rfl (x_load1 rfl (hst.getK hb1) (by kernel_rfl) rfl) rfl ?_
          refine o_appK (R := RInt) (m := 1) (e := 2) hO181 hst hg1.init RInt.leaf (by have := hF.i; simp only [List.length_append, List.length_cons, List.length_nil]; omega) rfl rfl rfl rfl rfl rfl rfl (fun _ => rfl) (fun σ u185 M185 hO185 hst => ?_)
          refine evOps_val rfl (x_assign rfl) rfl ?_
          refine evOps_nil ?_
          refine thenQ_normal ?_
          refine ev_ret ?_
          exact end_ret1 rfl rfl ⟨M185, by have e := hO185; rw [hp6, hp5, hp4, hp3, hp2, hp1] at e; unfold numsG; simpa only [List.append_assoc, List.append_nil] using e, hst.weaken hle1⟩
theorem lexP_at {A B : List Int} {i : Nat} {x y : Int} (hx : A[i]? = some x) (hy : B[i]? = some y) : lexP (A.drop i) (B.drop i) = bif eqI (cmpZ x y) 0 then lexP (A.drop (i + 1)) (B.drop (i + 1)) else cmpZ x y := by
  rw [drop_at hx, drop_at hy]; rfl
theorem lexP_end {A B : List Int} {i : Nat} (h : A.length ≤ i ∨ B.length ≤ i) : lexP (A.drop i) (B.drop i) = 0 := by
  rcases h with h | h
  · rw [List.drop_of_length_le h]; rfl
  · rw [List.drop_of_length_le h]
    cases A.drop i <;> rfl
theorem cmpZ_lt {x y : Int} (h : ltI x y = true) : cmpZ x y = -1 := by unfold cmpZ; rw [h]; rfl
theorem cmpZ_gt {x y : Int} (h : ltI y x = true) : cmpZ x y = 1 := by
  have h2 : ltI x y = false := by rw [ltI_eq] at h ⊢; simp at h ⊢; omega
  unfold cmpZ; rw [h, h2]; rfl
theorem cmpZ_same {x y : Int} (h1 : ltI x y = false) (h2 : ltI y x = false) : cmpZ x y = 0 := by unfold cmpZ; rw [h1, h2]; rfl
theorem r_Compare {G : Cx} (hG : Plain G) {K : KP} {g1 g2 : XG} {a1 b1 c1 d1 a2 b2 c2 d2 : AV} (h1 : HasG K g1 a1 b1 c1 d1) (h2 : HasG K g2 a2 b2 c2 d2) (hR1 : FewZ g1) (hR2 : FewZ g2) {σ : AHeap} {L : Own} (hst : St σ K L) :
    EvCall Tryz.prog G 20 [.agg [a1, b1, c1, d1], .agg [a2, b2, c2, d2]] σ fun v σ' => v = .int .i64 (cmpG g1 g2) ∧ St σ' K L := by
  refine ev_body hG Tryz.func20 rfl (t := (PT.leaf.put (some (.agg [a1, b1, c1, d1])) 0).put (some (.agg [a2, b2, c2, d2])) 1) (by rfl) ?_
  refine ev_seq ?_
  refine ev_region rfl ?_
  refine o_ptr hst rfl (x_box rfl rfl) (fun _ => rfl) (fun σ b1 hst => ?_)
  refine o_ptr hst rfl (x_box rfl rfl) (fun _ => rfl) (fun σ b2 hst => ?_)
  refine evOps_val rfl (x_assign rfl) rfl ?_
  refine evOps_nil ?_
  refine thenQ_normal ?_
  refine ev_seq ?_
  refine ev_region_plan (l := [(0, []), (2, []), (1, [2]), (3, []), (4, []), (5, [])]) (by kernel_rfl) (by kernel_rfl) ?_
  refine evPlan_val rfl rfl (x_loadN rfl (hst.get 1 rfl) (n := 4) (vs := [_, _, _, _]) (by kernel_rfl) (Nat.le_of_ble_eq_true rfl) rfl) rfl ?_
  refine evPlan_val rfl rfl (x_loadN rfl (hst.get 0 rfl) (n := 4) (vs := [_, _, _, _]) (by kernel_rfl) (Nat.le_of_ble_eq_true rfl) rfl) rfl ?_
  refine p_call rfl rfl (x_call rfl rfl rfl (by kernel_rfl)) (fun _ => rfl) (w_numbers hG hR1 h1 hst) ?_
  rintro u9 σ ⟨M9, hO9, hst⟩
  refine ⟨(still_cons (still_read rfl rfl rfl rfl rfl (x_loadN rfl (hst.pops.get 0 rfl) (n := 4) (vs := [_, _, _, _]) (by kernel_rfl) (Nat.le_of_ble_eq_true rfl) rfl) (beqA_agg (beqL_cons h2.init.beq1 (beqL_cons h2.threads.beq1 (beqL_cons h2.from_.beq1 (beqL_cons h2.order.beq1 beqL_nil)))))) still_nil), ?_⟩
  refine p_call rfl rfl (x_call rfl rfl rfl (by kernel_rfl)) (fun _ => rfl) (w_numbers hG hR2 h2 hst) ?_
  rintro u11 σ ⟨M11, hO11, hst⟩
  refine ⟨still_nil, ?_⟩
  refine evPlan_val rfl rfl (x_assign rfl) rfl ?_
  refine evPlan_val rfl rfl (x_assign rfl) rfl ?_
  refine evPlan_nil ?_
  refine thenQ_normal ?_
  refine ev_seq ?_
  refine ev_seq ?_
  refine ev_region rfl ?_
  obtain ⟨K1, hle1, hmem, hst⟩ := hst.keeps_ex (M := M11)
  have hn11 := hO11.hasS (K := K1) hmem; clear hmem
  obtain ⟨K2, hle2, hmem, hst⟩ := hst.keeps_ex (M := M9)
  have hn9 := hO9.hasS (K := K2) hmem; have hn11 := hn11.mono hle2 fun _ _ h => h; clear hmem
  refine evOps_val rfl (x_assign rfl) rfl ?_
  refine evOps_nil ?_
  refine thenQ_normal ?_
  refine ev_block ?_
  obtain ⟨LL1, hst, hLL1⟩ := hst.named
  refine ev_loopW [4, 7, 12, 13, 14, 15, 16, 17, 18, 19, 20, 21, 22, 23, 24, 25, 26, 27, 28, 29, 30, 31, 32, 33, 34, 35, 36, 37, 38, 39, 40, 41] (fun j t σ => ∃ (i : Nat), (j + i = (numsG g1).length ∧ lexP (numsG g1) (numsG g2) = lexP ((numsG g1).drop i) ((numsG g2).drop i)) ∧ t.get 7 = some (.int .i64 (.ofNat i)) ∧ St σ K2 LL1) ((numsG g1).length) ⟨0, ⟨rfl, rfl⟩, rfl, hst⟩ ?_
  clear hst; intro j3 t σ hoff hI; obtain ⟨i, ⟨hj3, hpre⟩, hv7, hst⟩ := hI
  subst hLL1
  replace hoff := hoff.ex8 rfl rfl; obtain ⟨o4, o7, o12, o13, o14, o15, o16, o17, hoff⟩ := hoff
  replace hoff := hoff.ex8 rfl rfl; obtain ⟨o18, o19, o20, o21, o22, o23, o24, o25, hoff⟩ := hoff
  replace hoff := hoff.ex8 rfl rfl; obtain ⟨o26, o27, o28, o29, o30, o31, o32, o33, hoff⟩ := hoff
  replace hoff := hoff.ex8 rfl rfl; obtain ⟨o34, o35, o36, o37, o38, o39, o40, o41, hoff⟩ := hoff
  obtain rfl := hoff.nil; clear hoff
  replace hv7 : o7 = some _ := hv7; subst hv7
  refine ev_seq ?_
  refine ev_seq ?_
  refine ev_region rfl ?_
  refine evOps_val rfl (x_move rfl) rfl ?_
  refine evOps_val rfl (x_move rfl) rfl ?_
  refine evOps_val rfl (x_len' hn9 rfl rfl rfl (e := 2) (by kernel_rfl) rfl) rfl ?_
  refine evOps_val rfl (x_bin rfl rfl rfl) rfl ?_
  refine o_split rfl (x_move rfl) (fun _ => rfl) (fun h16 => ?_) (fun h16 => ?_)
  · skip
    refine evOps_val rfl (x_move rfl) rfl ?_
    refine evOps_val rfl (x_move rfl) rfl ?_
    refine evOps_val rfl (x_len' hn11 rfl rfl rfl (e := 2) (by kernel_rfl) rfl) rfl ?_
    refine evOps_val rfl (x_bin rfl rfl rfl) rfl ?_
    refine evOps_val rfl (x_pick rfl rfl) rfl ?_
    refine evOps_nil ?_
    refine thenQ_normal ?_
    refine ev_cond2 rfl (fun h21 => ?_) (fun h21 => ?_)
    · skip
      refine ev_skip ?_
      refine thenQ_normal ?_
      refine ev_seq ?_
      refine ev_block ?_
      refine ev_seq ?_
      refine ev_seq ?_
      refine ev_region_plan (l := [(0, []), (1, []), (2, []), (3, []), (4, []), (5, []), (6, []), (7, []), (8, [])]) (by kernel_rfl) (by kernel_rfl) ?_
      refine evPlan_val rfl rfl (x_move rfl) rfl ?_
      refine evPlan_val rfl rfl (x_move rfl) rfl ?_
      have hlA : i < (numsG g1).length := lt_yes h16; have hlB : i < (numsG g2).length := lt_yes h21
      obtain ⟨x26, hx26⟩ := at_of hlA; obtain ⟨x30, hx30⟩ := at_of hlB
      refine p_idx (e := 2) (m := 1) hn9 hx26 rfl rfl rfl (by kernel_rfl) (by kernel_rfl) rfl rfl (fun _ => rfl) (fun p26 vs26 hp26 hl26 hr26 => ?_)
      obtain rfl := hr26
      refine evPlan_val rfl rfl (x_pload1 hst hp26 rfl (by kernel_rfl) rfl) rfl ?_
      refine evPlan_val rfl rfl (x_move rfl) rfl ?_
      refine evPlan_val rfl rfl (x_move rfl) rfl ?_
      refine p_idx (e := 2) (m := 1) hn11 hx30 rfl rfl rfl (by kernel_rfl) (by kernel_rfl) rfl rfl (fun _ => rfl) (fun p30 vs30 hp30 hl30 hr30 => ?_)
      obtain rfl := hr30
      refine evPlan_val rfl rfl (x_pload1 hst hp30 rfl (by kernel_rfl) rfl) rfl ?_
      refine evPlan_val rfl rfl (x_bin rfl rfl rfl) rfl ?_
      refine evPlan_nil ?_
      refine thenQ_normal ?_
      refine ev_cond2 rfl (fun h32 => ?_) (fun h32 => ?_)
      · skip
        refine ev_seq ?_
        refine ev_region rfl ?_
        refine evOps_val rfl (x_assign rfl) rfl ?_
        refine evOps_nil ?_
        refine thenQ_normal ?_
        refine ev_ret ?_
        refine thenQ_ret (blockQ_ret (thenQ_ret (loopQ_ret (blockQ_ret (thenQ_ret (?_))))))
        exact end_ret1 rfl rfl ⟨by rw [← lexP_G, hpre, lexP_at hx26 hx30, cmpZ_lt h32]; rfl, (hst.pop.pop).weaken (KP.le_trans hle1 hle2)⟩
      · skip
        refine ev_skip ?_
        refine thenQ_normal ?_
        refine ev_seq ?_
        refine ev_region_plan (l := [(0, []), (1, []), (2, []), (3, []), (4, []), (5, []), (6, []), (7, []), (8, [])]) (by kernel_rfl) (by kernel_rfl) ?_
        refine evPlan_val rfl rfl (x_move rfl) rfl ?_
        refine evPlan_val rfl rfl (x_move rfl) rfl ?_
        have hx35 := hx26; have hx39 := hx30
        refine p_idx (e := 2) (m := 1) hn9 hx35 rfl rfl rfl (by kernel_rfl) (by kernel_rfl) rfl rfl (fun _ => rfl) (fun p35 vs35 hp35 hl35 hr35 => ?_)
        obtain rfl := hr35
        refine evPlan_val rfl rfl (x_pload1 hst hp35 rfl (by kernel_rfl) rfl) rfl ?_
        refine evPlan_val rfl rfl (x_move rfl) rfl ?_
        refine evPlan_val rfl rfl (x_move rfl) rfl ?_
        refine p_idx (e := 2) (m := 1) hn11 hx39 rfl rfl rfl (by kernel_rfl) (by kernel_rfl) rfl rfl (fun _ => rfl) (fun p39 vs39 hp39 hl39 hr39 => ?_)
        obtain rfl := hr39
        refine evPlan_val rfl rfl (x_pload1 hst hp39 rfl (by kernel_rfl) rfl) rfl ?_
        refine evPlan_val rfl rfl (x_bin rfl rfl rfl) rfl ?_
        refine evPlan_nil ?_
        refine thenQ_normal ?_
        refine ev_cond2 rfl (fun h41 => ?_) (fun h41 => ?_)
        · skip
          refine ev_seq ?_
          refine ev_region rfl ?_
          refine evOps_val rfl (x_assign rfl) rfl ?_
          refine evOps_nil ?_
          refine thenQ_normal ?_
          refine ev_ret ?_
          refine blockQ_ret (thenQ_ret (loopQ_ret (blockQ_ret (thenQ_ret (?_)))))
          exact end_ret1 rfl rfl ⟨by rw [← lexP_G, hpre, lexP_at hx35 hx39, cmpZ_gt h41]; rfl, (hst.pop.pop).weaken (KP.le_trans hle1 hle2)⟩
        · skip
          refine ev_skip ?_
          refine blockQ_normal ?_
          refine thenQ_normal ?_
          refine ev_region rfl ?_
          refine evOps_val rfl (x_move rfl) rfl ?_
          refine evOps_val rfl (x_bin rfl rfl rfl) rfl ?_
          refine evOps_val rfl (x_assign rfl) rfl ?_
          refine evOps_nil ?_
          refine loopQ_normal ⟨j3 - 1, (by omega), (by (iterate 63 refine OffW.put rfl ?_); exact OffW.refl _ _), i + 1, ⟨by omega, by rw [hpre, lexP_at hx26 hx30, cmpZ_same h32 h41]; rfl⟩, congrArg (fun z => some (AV.int .i64 z)) (wr_succ (by have := hn9.len_le; omega)), hst⟩
    · skip
      refine ev_exit ?_
      refine thenQ_exit ?_
      refine loopQ_exit ?_
      refine blockQ_exit ?_
      refine thenQ_normal ?_
      refine ev_seq ?_
      refine ev_region rfl ?_
      refine evOps_val rfl (x_assign rfl) rfl ?_
      refine evOps_nil ?_
      refine thenQ_normal ?_
      refine ev_ret ?_
      exact end_ret1 rfl rfl ⟨by rw [← lexP_G, hpre, lexP_end (.inr (lt_no h21))], (hst.pop.pop).weaken (KP.le_trans hle1 hle2)⟩
  · skip
    refine evOps_unwanted rfl rfl ?_
    refine evOps_unwanted rfl rfl ?_
    refine evOps_unwanted rfl rfl ?_
    refine evOps_unwanted rfl rfl ?_
    refine evOps_val rfl (x_pick rfl rfl) rfl ?_
    refine evOps_nil ?_
    refine thenQ_normal ?_
    refine ev_cond_false rfl ?_
    refine ev_exit ?_
    refine thenQ_exit ?_
    refine loopQ_exit ?_
    refine blockQ_exit ?_
    refine thenQ_normal ?_
    refine ev_seq ?_
    refine ev_region rfl ?_
    refine evOps_val rfl (x_assign rfl) rfl ?_
    refine evOps_nil ?_
    refine thenQ_normal ?_
    refine ev_ret ?_
    exact end_ret1 rfl rfl ⟨by rw [← lexP_G, hpre, lexP_end (.inl (lt_no h16))], (hst.pop.pop).weaken (KP.le_trans hle1 hle2)⟩
theorem r_SameG {G : Cx} (hG : Plain G) {K : KP} {g1 g2 : XG} {a1 b1 c1 d1 a2 b2 c2 d2 : AV} (h1 : HasG K g1 a1 b1 c1 d1) (h2 : HasG K g2 a2 b2 c2 d2) (hR1 : FewZ g1) (hR2 : FewZ g2) {σ : AHeap} {L : Own} (hst : St σ K L) :
    EvCall Tryz.prog G 21 [.agg [a1, b1, c1, d1], .agg [a2, b2, c2, d2]] σ fun v σ' => v = .bool (eqI (cmpG g1 g2) 0) ∧ St σ' K L := by
  refine ev_body hG Tryz.func21 rfl (t := (PT.leaf.put (some (.agg [a1, b1, c1, d1])) 0).put (some (.agg [a2, b2, c2, d2])) 1) (by rfl) ?_
  refine ev_seq ?_
  refine ev_region rfl ?_
  refine o_ptr hst rfl (x_box rfl rfl) (fun _ => rfl) (fun σ b1 hst => ?_)
  refine o_ptr hst rfl (x_box rfl rfl) (fun _ => rfl) (fun σ b2 hst => ?_)
  refine evOps_val rfl (x_assign rfl) rfl ?_
  refine evOps_nil ?_
  refine thenQ_normal ?_
  refine ev_seq ?_
  refine ev_region rfl ?_
  refine evOps_val rfl (x_loadN rfl (hst.get 1 rfl) (n := 4) (vs := [_, _, _, _]) (by kernel_rfl) (Nat.le_of_ble_eq_true rfl) rfl) rfl ?_
  refine evOps_val rfl (x_loadN rfl (hst.get 0 rfl) (n := 4) (vs := [_, _, _, _]) (by kernel_rfl) (Nat.le_of_ble_eq_true rfl) rfl) rfl ?_
  refine o_callV rfl (x_call rfl rfl rfl (by kernel_rfl)) (fun _ => rfl) (r_Compare hG h1 h2 hR1 hR2 hst) (fun σ hst => ?_)
  refine evOps_val rfl (x_bin rfl rfl rfl) rfl ?_
  refine evOps_val rfl (x_assign rfl) rfl ?_
  refine evOps_nil ?_
  refine thenQ_normal ?_
  refine ev_ret ?_
  exact end_ret1 rfl rfl ⟨rfl, hst.pop.pop⟩
def RUd (u : AV) (vs : List AV) : Prop := vs = [u] ∧ cellsA u = some [u] ∧ leafB u = true
theorem RUd.leaf : ∀ x vs, RUd x vs → allLeaf vs = true := fun u _ h => by
  obtain ⟨rfl, _, h2⟩ := h
  exact allLeaf_cons h2 allLeaf_nil
def FewD (g : XG) : Prop := g.init.length ≤ 1048576 ∧ g.threads.length ≤ 1048576 ∧ (∀ l ∈ g.threads, l.length ≤ 1048576) ∧ g.from_.length ≤ 1048576 ∧ (∀ l ∈ g.from_, l.length ≤ 1048576) ∧ g.order.length ≤ 1048576 ∧ (∀ l ∈ g.order, l.length ≤ 1048576)
theorem few_ofZ {g : XG} (h : FewZ g) : FewD g := ⟨by have := h.i; omega, by have := h.t; omega, fun l hl => by have := h.r l hl; omega, by have := h.f; omega, fun l hl => by have := h.fr l hl; omega, by have := h.o; omega, fun l hl => by have := h.or_ l hl; omega⟩
structure OwnD (g : XG) (u0 : AV) (M0 : Own) (u1 : AV) (us1 : List AV) (O1 I1 : Own) (u2 : AV) (us2 : List AV) (O2 I2 : Own) (u3 : AV) (us3 : List AV) (O3 I3 : Own) : Prop where
  init : OwnS 1 2 RInt g.init u0 M0
  threads : OwnSs 5 78 REv g.threads us1 I1
  from_ : OwnSs 2 81 RId g.from_ us2 I2
  order : OwnSs 2 81 RId g.order us3 I3
  o1 : OwnS 1 70 RUd us1 u1 O1
  o2 : OwnS 1 71 RUd us2 u2 O2
  o3 : OwnS 1 71 RUd us3 u3 O3
abbrev ownD (M0 O1 I1 O2 I2 O3 I3 L : Own) : Own := O3 ++ (I3 ++ (O2 ++ (I2 ++ (O1 ++ (I1 ++ (M0 ++ L))))))
theorem d_Copy {G : Cx} (hG : Plain G) {K : KP} {g : XG} {a b c d : AV} (hg : HasG K g a b c d) (hbd : FewD g) {σ : AHeap} {L : Own} (hst : St σ K L) :
    EvCall Tryz.prog G 22 [.agg [a, b, c, d]] σ fun v σ' => ∃ u0 M0 u1 us1 O1 I1 u2 us2 O2 I2 u3 us3 O3 I3, v = .agg [u0, u1, u2, u3] ∧ OwnD g u0 M0 u1 us1 O1 I1 u2 us2 O2 I2 u3 us3 O3 I3 ∧ St σ' K (ownD M0 O1 I1 O2 I2 O3 I3 L) := by
  obtain ⟨hn0, hn1, hm1, hn2, hm2, hn3, hm3⟩ := hbd
  refine ev_body hG Tryz.func22 rfl (t := PT.leaf.put (some (.agg [a, b, c, d])) 0) (by rfl) ?_
  refine ev_seq ?_
  refine ev_region rfl ?_
  refine o_ptr hst rfl (x_box rfl rfl) (fun _ => rfl) (fun σ b1 hst => ?_)
  refine o_ptr hst rfl (x_new (cs := [.nilSlice, .nilSlice, .nilSlice, .nilSlice]) (by kernel_rfl) (by kernel_rfl)) (fun _ => rfl) (fun σ b2 hst => ?_)
  refine evOps_nil ?_
  refine thenQ_normal ?_
  refine ev_seq ?_
  refine ev_region rfl ?_
  refine o_mk hst rfl (x_buildS (e := 2) (m := 1) (z := [.int .i64 0]) (cs := []) (by kernel_rfl) (by kernel_rfl) (by kernel_rfl) (by kernel_rfl) fillA_nil) (fun _ => rfl) (fun σ b3 hst => ?_)
  replace hst : St σ _ ([(b3, .row [] 2 false)] ++ _) := hst
  refine evOps_val rfl (x_field rfl (k := 0) (by kernel_rfl)) rfl ?_
  refine evOps_val rfl (x_load1 rfl (hst.pops.pop.get 0 rfl) (by kernel_rfl) rfl) rfl ?_
  refine o_appK (R := RInt) (m := 1) (e := 2) OwnS.empty hst hg.init RInt.leaf (by show 0 + _ ≤ _; omega) rfl rfl rfl rfl rfl rfl rfl (fun _ => rfl) (fun σ u10 M10 hO10 hst => ?_)
  refine evOps_val rfl (x_build (places := [(0, 1), (1, 1), (2, 1), (3, 1)]) (zero := [.nilSlice, .nilSlice, .nilSlice, .nilSlice]) (cs := [_, _, _, _]) (by kernel_rfl) (by kernel_rfl) (by kernel_rfl) (fillA_cons rfl rfl hO10.leaf.1 rfl fillA_nil) (by kernel_rfl)) rfl ?_
  refine o_ptr hst rfl (x_new (cs := [.nilSlice, .nilSlice, .nilSlice, .nilSlice]) (by kernel_rfl) (by kernel_rfl)) (fun _ => rfl) (fun σ b4 hst => ?_)
  refine o_set0 hst rfl (x_storeC rfl rfl rfl (hst.get 0 rfl) (m := 4) (by kernel_rfl) rfl (Nat.le_of_ble_eq_true rfl) (allLeaf_cons hO10.leaf.2 (allLeaf_cons rfl (allLeaf_cons rfl (allLeaf_cons rfl allLeaf_nil)))) (cells' := [_, _, _, _]) rfl) rfl (fun σ hst => ?_)
  refine evOps_nil ?_
  refine thenQ_normal ?_
  refine ev_seq ?_
  refine ev_seq ?_
  refine ev_region rfl ?_
  refine evOps_val rfl (x_assign rfl) rfl ?_
  refine evOps_nil ?_
  refine thenQ_normal ?_
  refine ev_block ?_
  refine ev_loopW [4, 12, 13, 14, 15, 16, 17, 18, 19, 20, 21, 22, 23, 24, 25, 26, 27, 28, 29, 30] (fun j t σ => ∃ (i : Nat) (u1 : AV) (us1 : List AV) (O1 I1 : Own), j + i = g.threads.length ∧ OwnSs 5 78 REv (g.threads.take i) us1 I1 ∧ OwnS 1 70 RUd us1 u1 O1 ∧ t.get 4 = some (.int .i64 (.ofNat i)) ∧ St σ K (O1 ++ (I1 ++ ((b4, .row [u10, u1, .nilSlice, .nilSlice] 41 false) :: (M10 ++ ((b2, .row [.nilSlice, .nilSlice, .nilSlice, .nilSlice] 41 false) :: (b1, .row [a, b, c, d] 41 false) :: L)))))) (g.threads.length) ⟨0, .nilSlice, [], [], [], rfl, .nil, OwnS.nil, rfl, hst⟩ ?_
  clear hst; intro j3 t σ hoff hI; obtain ⟨i, u1, us1, O1, I1, hj3, hI1, hO1, hv4, hst⟩ := hI
  replace hoff := hoff.ex8 rfl rfl; obtain ⟨o4, o12, o13, o14, o15, o16, o17, o18, hoff⟩ := hoff
  replace hoff := hoff.ex8 rfl rfl; obtain ⟨o19, o20, o21, o22, o23, o24, o25, o26, hoff⟩ := hoff
  replace hoff := hoff.ex4 rfl; obtain ⟨o27, o28, o29, o30, hoff⟩ := hoff
  obtain rfl := hoff.nil; clear hoff
  replace hv4 : o4 = some _ := hv4; subst hv4
  refine ev_seq ?_
  refine ev_seq ?_
  refine ev_region rfl ?_
  refine evOps_val rfl (x_move rfl) rfl ?_
  refine evOps_val rfl (x_field rfl (k := 1) (by kernel_rfl)) rfl ?_
  refine evOps_val rfl (x_load1 rfl (hst.pops.pops.pop.pops.pop.get 0 rfl) (by kernel_rfl) rfl) rfl ?_
  refine evOps_val rfl (x_len' hg.threads rfl rfl rfl (e := 70) (by kernel_rfl) rfl) rfl ?_
  refine evOps_val rfl (x_bin rfl rfl rfl) rfl ?_
  refine evOps_nil ?_
  refine thenQ_normal ?_
  refine ev_cond2 rfl (fun h16 => ?_) (fun h16 => ?_)
  · skip
    refine ev_skip ?_
    refine thenQ_normal ?_
    refine ev_seq ?_
    refine ev_block ?_
    refine ev_region_plan (l := [(0, []), (1, []), (2, []), (3, []), (4, []), (5, []), (6, []), (7, []), (8, [1]), (9, []), (10, []), (11, []), (12, [])]) (by kernel_rfl) (by kernel_rfl) ?_
    refine evPlan_val rfl rfl (x_field rfl (k := 1) (by kernel_rfl)) rfl ?_
    refine evPlan_val rfl rfl (x_load1 rfl (hst.pops.pops.get 0 rfl) (by kernel_rfl) rfl) rfl ?_
    refine p_mk hst rfl rfl (x_buildS (e := 78) (m := 5) (z := [.int .i64 0, .int .i64 0, .int .i64 0, .int .i64 0, .int .i64 0]) (cs := []) (by kernel_rfl) (by kernel_rfl) (by kernel_rfl) (by kernel_rfl) fillA_nil) (fun _ => rfl) (fun σ b5 hst => ?_)
    replace hst : St σ _ ([(b5, .row [] 78 false)] ++ _) := hst
    refine evPlan_val rfl rfl (x_field rfl (k := 1) (by kernel_rfl)) rfl ?_
    refine evPlan_val rfl rfl (x_load1 rfl (hst.pops.pops.pops.pop.pops.pop.get 0 rfl) (by kernel_rfl) rfl) rfl ?_
    refine evPlan_val rfl rfl (x_move rfl) rfl ?_
    obtain ⟨x25, hx25, hi25⟩ := at_lt h16
    refine p_idx (e := 70) (m := 1) hg.threads hx25 rfl rfl rfl (by kernel_rfl) (by kernel_rfl) rfl rfl (fun _ => rfl) (fun p25 vs25 hp25 hl25 hr25 => ?_)
    have hr25' := hr25; obtain ⟨v25, rfl, hk25⟩ := hr25'
    refine evPlan_val rfl rfl (x_pload1 hst hp25 rfl (by kernel_rfl) rfl) rfl ?_
    refine p_appK (R := REv) (m := 5) (e := 78) OwnS.empty hst hk25 REv.leaf (by have := hm1 _ (List.mem_of_getElem? hx25); show 0 + _ ≤ _; omega) rfl rfl rfl rfl rfl rfl rfl rfl (fun _ => rfl) (fun σ u27 M27 hO27 hst => ?_)
    refine ⟨(still_cons (still_read rfl rfl rfl rfl rfl (x_load1 rfl (hst.pops.pops.pops.get 0 rfl) (by kernel_rfl) rfl) (hO1.keep (K := fun _ _ => False)).beqA) still_nil), ?_⟩
    refine p_mk hst rfl rfl (x_buildS (e := 70) (m := 1) (z := [.nilSlice]) (cs := [u27]) (by kernel_rfl) (by kernel_rfl) (by kernel_rfl) (by kernel_rfl) (fillA_cons rfl rfl hO27.leaf.1 rfl fillA_nil)) (fun _ => rfl) (fun σ b6 hst => ?_)
    replace hst := hst.pull (.there (.seg .here))
    replace hst := hst.pull (.seg (OwnIn.here (X := [_])))
    refine p_app1 (R := RUd) (m := 1) (e := 70) hO1 hst (has_one1 (m := 1) rfl (show RUd u27 [u27] from ⟨rfl, hO27.leaf⟩)) RUd.leaf (by have h1 := hI1.length; rw [List.length_take] at h1; show _ + 1 ≤ _; omega) rfl rfl rfl rfl rfl rfl rfl rfl (fun _ => rfl) (fun σ u29 M29 hO29 hst => ?_)
    refine ⟨still_nil, ?_⟩
    refine evPlan_val rfl rfl (x_field rfl (k := 1) (by kernel_rfl)) rfl ?_
    refine p_setU hst (.seg (.seg (.seg .here))) rfl rfl (x_storeC rfl rfl hO29.leaf.1 (hst.pops.pops.pops.get 0 rfl) (m := 1) (by kernel_rfl) rfl (Nat.le_of_ble_eq_true rfl) (allLeaf_cons hO29.leaf.2 allLeaf_nil) (cells' := [_, _, _, _]) rfl) rfl (fun σ hst => ?_)
    refine ⟨still_nil, ?_⟩
    refine evPlan_nil ?_
    refine blockQ_normal ?_
    refine thenQ_normal ?_
    refine ev_region rfl ?_
    rw [← List.append_assoc M27 I1] at hst
    refine evOps_val rfl (x_move rfl) rfl ?_
    refine evOps_val rfl (x_bin rfl rfl rfl) rfl ?_
    refine evOps_val rfl (x_assign rfl) rfl ?_
    refine evOps_nil ?_
    refine loopQ_normal ⟨j3 - 1, (by have := lt_yes h16; omega), (by (iterate 40 refine OffW.put rfl ?_); exact OffW.refl _ _), i + 1, u29, us1 ++ [u27], M29, M27 ++ I1, (by have := lt_yes h16; omega), (by rw [List.take_add_one, hx25]; exact .snoc hI1 hO27), hO29, congrArg (fun z => some (AV.int .i64 z)) (wr_succ (by have := hg.threads.len_le; omega)), hst⟩
  · skip
    refine ev_exit ?_
    refine thenQ_exit ?_
    refine loopQ_exit ?_
    refine blockQ_exit ?_
    refine thenQ_normal ?_
    refine ev_seq ?_
    refine ev_seq ?_
    refine ev_region rfl ?_
    refine evOps_val rfl (x_assign rfl) rfl ?_
    refine evOps_nil ?_
    refine thenQ_normal ?_
    refine ev_block ?_
    refine ev_loopW [5, 31, 32, 33, 34, 35, 36, 37, 38, 39, 40, 41, 42, 43, 44, 45, 46, 47, 48, 49] (fun j t σ => ∃ (i : Nat) (u2 : AV) (us2 : List AV) (O2 I2 : Own), j + i = g.from_.length ∧ OwnSs 2 81 RId (g.from_.take i) us2 I2 ∧ OwnS 1 71 RUd us2 u2 O2 ∧ t.get 5 = some (.int .i64 (.ofNat i)) ∧ St σ K (O2 ++ (I2 ++ (O1 ++ (I1 ++ ((b4, .row [u10, u1, u2, .nilSlice] 41 false) :: (M10 ++ ((b2, .row [.nilSlice, .nilSlice, .nilSlice, .nilSlice] 41 false) :: (b1, .row [a, b, c, d] 41 false) :: L)))))))) (g.from_.length) ⟨0, .nilSlice, [], [], [], rfl, .nil, OwnS.nil, rfl, hst⟩ ?_
    clear hst; intro j7 t σ hoff hI; obtain ⟨i, u2, us2, O2, I2, hj7, hI2, hO2, hv5, hst⟩ := hI
    replace hoff := hoff.ex8 rfl rfl; obtain ⟨o5, o31, o32, o33, o34, o35, o36, o37, hoff⟩ := hoff
    replace hoff := hoff.ex8 rfl rfl; obtain ⟨o38, o39, o40, o41, o42, o43, o44, o45, hoff⟩ := hoff
    replace hoff := hoff.ex4 rfl; obtain ⟨o46, o47, o48, o49, hoff⟩ := hoff
    obtain rfl := hoff.nil; clear hoff
    replace hv5 : o5 = some _ := hv5; subst hv5
    refine ev_seq ?_
    refine ev_seq ?_
    refine ev_region rfl ?_
    refine evOps_val rfl (x_move rfl) rfl ?_
    refine evOps_val rfl (x_field rfl (k := 2) (by kernel_rfl)) rfl ?_
    refine evOps_val rfl (x_load1 rfl (hst.pops.pops.pops.pops.pop.pops.pop.get 0 rfl) (by kernel_rfl) rfl) rfl ?_
    refine evOps_val rfl (x_len' hg.from_ rfl rfl rfl (e := 71) (by kernel_rfl) rfl) rfl ?_
    refine evOps_val rfl (x_bin rfl rfl rfl) rfl ?_
    refine evOps_nil ?_
    refine thenQ_normal ?_
    refine ev_cond2 rfl (fun h35 => ?_) (fun h35 => ?_)
    · skip
      refine ev_skip ?_
      refine thenQ_normal ?_
      refine ev_seq ?_
      refine ev_block ?_
      refine ev_region_plan (l := [(0, []), (1, []), (2, []), (3, []), (4, []), (5, []), (6, []), (7, []), (8, [1]), (9, []), (10, []), (11, []), (12, [])]) (by kernel_rfl) (by kernel_rfl) ?_
      refine evPlan_val rfl rfl (x_field rfl (k := 2) (by kernel_rfl)) rfl ?_
      refine evPlan_val rfl rfl (x_load1 rfl (hst.pops.pops.pops.pops.get 0 rfl) (by kernel_rfl) rfl) rfl ?_
      refine p_mk hst rfl rfl (x_buildS (e := 81) (m := 2) (z := [.int .i64 0, .int .i64 0]) (cs := []) (by kernel_rfl) (by kernel_rfl) (by kernel_rfl) (by kernel_rfl) fillA_nil) (fun _ => rfl) (fun σ b5 hst => ?_)
      replace hst : St σ _ ([(b5, .row [] 81 false)] ++ _) := hst
      refine evPlan_val rfl rfl (x_field rfl (k := 2) (by kernel_rfl)) rfl ?_
      refine evPlan_val rfl rfl (x_load1 rfl (hst.pops.pops.pops.pops.pops.pop.pops.pop.get 0 rfl) (by kernel_rfl) rfl) rfl ?_
      refine evPlan_val rfl rfl (x_move rfl) rfl ?_
      obtain ⟨x44, hx44, hi44⟩ := at_lt h35
      refine p_idx (e := 71) (m := 1) hg.from_ hx44 rfl rfl rfl (by kernel_rfl) (by kernel_rfl) rfl rfl (fun _ => rfl) (fun p44 vs44 hp44 hl44 hr44 => ?_)
      have hr44' := hr44; obtain ⟨v44, rfl, hk44⟩ := hr44'
      refine evPlan_val rfl rfl (x_pload1 hst hp44 rfl (by kernel_rfl) rfl) rfl ?_
      refine p_appK (R := RId) (m := 2) (e := 81) OwnS.empty hst hk44 RId.leaf (by have := hm2 _ (List.mem_of_getElem? hx44); show 0 + _ ≤ _; omega) rfl rfl rfl rfl rfl rfl rfl rfl (fun _ => rfl) (fun σ u46 M46 hO46 hst => ?_)
      refine ⟨(still_cons (still_read rfl rfl rfl rfl rfl (x_load1 rfl (hst.pops.pops.pops.pops.pops.get 0 rfl) (by kernel_rfl) rfl) (hO2.keep (K := fun _ _ => False)).beqA) still_nil), ?_⟩
      refine p_mk hst rfl rfl (x_buildS (e := 71) (m := 1) (z := [.nilSlice]) (cs := [u46]) (by kernel_rfl) (by kernel_rfl) (by kernel_rfl) (by kernel_rfl) (fillA_cons rfl rfl hO46.leaf.1 rfl fillA_nil)) (fun _ => rfl) (fun σ b6 hst => ?_)
      replace hst := hst.pull (.there (.seg .here))
      replace hst := hst.pull (.seg (OwnIn.here (X := [_])))
      refine p_app1 (R := RUd) (m := 1) (e := 71) hO2 hst (has_one1 (m := 1) rfl (show RUd u46 [u46] from ⟨rfl, hO46.leaf⟩)) RUd.leaf (by have h1 := hI2.length; rw [List.length_take] at h1; show _ + 1 ≤ _; omega) rfl rfl rfl rfl rfl rfl rfl rfl (fun _ => rfl) (fun σ u48 M48 hO48 hst => ?_)
      refine ⟨still_nil, ?_⟩
      refine evPlan_val rfl rfl (x_field rfl (k := 2) (by kernel_rfl)) rfl ?_
      refine p_setU hst (.seg (.seg (.seg (.seg (.seg .here))))) rfl rfl (x_storeC rfl rfl hO48.leaf.1 (hst.pops.pops.pops.pops.pops.get 0 rfl) (m := 1) (by kernel_rfl) rfl (Nat.le_of_ble_eq_true rfl) (allLeaf_cons hO48.leaf.2 allLeaf_nil) (cells' := [_, _, _, _]) rfl) rfl (fun σ hst => ?_)
      refine ⟨still_nil, ?_⟩
      refine evPlan_nil ?_
      refine blockQ_normal ?_
      refine thenQ_normal ?_
      refine ev_region rfl ?_
      rw [← List.append_assoc M46 I2] at hst
      refine evOps_val rfl (x_move rfl) rfl ?_
      refine evOps_val rfl (x_bin rfl rfl rfl) rfl ?_
      refine evOps_val rfl (x_assign rfl) rfl ?_
      refine evOps_nil ?_
      refine loopQ_normal ⟨j7 - 1, (by have := lt_yes h35; omega), (by (iterate 40 refine OffW.put rfl ?_); exact OffW.refl _ _), i + 1, u48, us2 ++ [u46], M48, M46 ++ I2, (by have := lt_yes h35; omega), (by rw [List.take_add_one, hx44]; exact .snoc hI2 hO46), hO48, congrArg (fun z => some (AV.int .i64 z)) (wr_succ (by have := hg.from_.len_le; omega)), hst⟩
    · skip
      refine ev_exit ?_
      refine thenQ_exit ?_
      refine loopQ_exit ?_
      refine blockQ_exit ?_
      refine thenQ_normal ?_
      refine ev_seq ?_
      refine ev_seq ?_
      refine ev_region rfl ?_
      refine evOps_val rfl (x_assign rfl) rfl ?_
      refine evOps_nil ?_
      refine thenQ_normal ?_
      refine ev_block ?_
      refine ev_loopW [6, 50, 51, 52, 53, 54, 55, 56, 57, 58, 59, 60, 61, 62, 63, 64, 65, 66, 67, 68] (fun j t σ => ∃ (i : Nat) (u3 : AV) (us3 : List AV) (O3 I3 : Own), j + i = g.order.length ∧ OwnSs 2 81 RId (g.order.take i) us3 I3 ∧ OwnS 1 71 RUd us3 u3 O3 ∧ t.get 6 = some (.int .i64 (.ofNat i)) ∧ St σ K (O3 ++ (I3 ++ (O2 ++ (I2 ++ (O1 ++ (I1 ++ ((b4, .row [u10, u1, u2, u3] 41 false) :: (M10 ++ ((b2, .row [.nilSlice, .nilSlice, .nilSlice, .nilSlice] 41 false) :: (b1, .row [a, b, c, d] 41 false) :: L)))))))))) (g.order.length) ⟨0, .nilSlice, [], [], [], rfl, .nil, OwnS.nil, rfl, hst⟩ ?_
      clear hst; intro j11 t σ hoff hI; obtain ⟨i, u3, us3, O3, I3, hj11, hI3, hO3, hv6, hst⟩ := hI
      replace hoff := hoff.ex8 rfl rfl; obtain ⟨o6, o50, o51, o52, o53, o54, o55, o56, hoff⟩ := hoff
      replace hoff := hoff.ex8 rfl rfl; obtain ⟨o57, o58, o59, o60, o61, o62, o63, o64, hoff⟩ := hoff
      replace hoff := hoff.ex4 rfl; obtain ⟨o65, o66, o67, o68, hoff⟩ := hoff
      obtain rfl := hoff.nil; clear hoff
      replace hv6 : o6 = some _ := hv6; subst hv6
      refine ev_seq ?_
      refine ev_seq ?_
      refine ev_region rfl ?_
      refine evOps_val rfl (x_move rfl) rfl ?_
      refine evOps_val rfl (x_field rfl (k := 3) (by kernel_rfl)) rfl ?_
      refine evOps_val rfl (x_load1 rfl (hst.pops.pops.pops.pops.pops.pops.pop.pops.pop.get 0 rfl) (by kernel_rfl) rfl) rfl ?_
      refine evOps_val rfl (x_len' hg.order rfl rfl rfl (e := 71) (by kernel_rfl) rfl) rfl ?_
      refine evOps_val rfl (x_bin rfl rfl rfl) rfl ?_
      refine evOps_nil ?_
      refine thenQ_normal ?_
      refine ev_cond2 rfl (fun h54 => ?_) (fun h54 => ?_)
      · skip
        refine ev_skip ?_
        refine thenQ_normal ?_
        refine ev_seq ?_
        refine ev_block ?_
        refine ev_region_plan (l := [(0, []), (1, []), (2, []), (3, []), (4, []), (5, []), (6, []), (7, []), (8, [1]), (9, []), (10, []), (11, []), (12, [])]) (by kernel_rfl) (by kernel_rfl) ?_
        refine evPlan_val rfl rfl (x_field rfl (k := 3) (by kernel_rfl)) rfl ?_
        refine evPlan_val rfl rfl (x_load1 rfl (hst.pops.pops.pops.pops.pops.pops.get 0 rfl) (by kernel_rfl) rfl) rfl ?_
        refine p_mk hst rfl rfl (x_buildS (e := 81) (m := 2) (z := [.int .i64 0, .int .i64 0]) (cs := []) (by kernel_rfl) (by kernel_rfl) (by kernel_rfl) (by kernel_rfl) fillA_nil) (fun _ => rfl) (fun σ b5 hst => ?_)
        replace hst : St σ _ ([(b5, .row [] 81 false)] ++ _) := hst
        refine evPlan_val rfl rfl (x_field rfl (k := 3) (by kernel_rfl)) rfl ?_
        refine evPlan_val rfl rfl (x_load1 rfl (hst.pops.pops.pops.pops.pops.pops.pops.pop.pops.pop.get 0 rfl) (by kernel_rfl) rfl) rfl ?_
        refine evPlan_val rfl rfl (x_move rfl) rfl ?_
        obtain ⟨x63, hx63, hi63⟩ := at_lt h54
        refine p_idx (e := 71) (m := 1) hg.order hx63 rfl rfl rfl (by kernel_rfl) (by kernel_rfl) rfl rfl (fun _ => rfl) (fun p63 vs63 hp63 hl63 hr63 => ?_)
        have hr63' := hr63; obtain ⟨v63, rfl, hk63⟩ := hr63'
        refine evPlan_val rfl rfl (x_pload1 hst hp63 rfl (by kernel_rfl) rfl) rfl ?_
        refine p_appK (R := RId) (m := 2) (e := 81) OwnS.empty hst hk63 RId.leaf (by have := hm3 _ (List.mem_of_getElem? hx63); show 0 + _ ≤ _; omega) rfl rfl rfl rfl rfl rfl rfl rfl (fun _ => rfl) (fun σ u65 M65 hO65 hst => ?_)
        refine ⟨(still_cons (still_read rfl rfl rfl rfl rfl (x_load1 rfl (hst.pops.pops.pops.pops.pops.pops.pops.get 0 rfl) (by kernel_rfl) rfl) (hO3.keep (K := fun _ _ => False)).beqA) still_nil), ?_⟩
        refine p_mk hst rfl rfl (x_buildS (e := 71) (m := 1) (z := [.nilSlice]) (cs := [u65]) (by kernel_rfl) (by kernel_rfl) (by kernel_rfl) (by kernel_rfl) (fillA_cons rfl rfl hO65.leaf.1 rfl fillA_nil)) (fun _ => rfl) (fun σ b6 hst => ?_)
        replace hst := hst.pull (.there (.seg .here))
        replace hst := hst.pull (.seg (OwnIn.here (X := [_])))
        refine p_app1 (R := RUd) (m := 1) (e := 71) hO3 hst (has_one1 (m := 1) rfl (show RUd u65 [u65] from ⟨rfl, hO65.leaf⟩)) RUd.leaf (by have h1 := hI3.length; rw [List.length_take] at h1; show _ + 1 ≤ _; omega) rfl rfl rfl rfl rfl rfl rfl rfl (fun _ => rfl) (fun σ u67 M67 hO67 hst => ?_)
        refine ⟨still_nil, ?_⟩
        refine evPlan_val rfl rfl (x_field rfl (k := 3) (by kernel_rfl)) rfl ?_
        refine p_setU hst (.seg (.seg (.seg (.seg (.seg (.seg (.seg .here))))))) rfl rfl (x_storeC rfl rfl hO67.leaf.1 (hst.pops.pops.pops.pops.pops.pops.pops.get 0 rfl) (m := 1) (by kernel_rfl) rfl (Nat.le_of_ble_eq_true rfl) (allLeaf_cons hO67.leaf.2 allLeaf_nil) (cells' := [_, _, _, _]) rfl) rfl (fun σ hst => ?_)
        refine ⟨still_nil, ?_⟩
        refine evPlan_nil ?_
        refine blockQ_normal ?_
        refine thenQ_normal ?_
        refine ev_region rfl ?_
        rw [← List.append_assoc M65 I3] at hst
        refine evOps_val rfl (x_move rfl) rfl ?_
        refine evOps_val rfl (x_bin rfl rfl rfl) rfl ?_
        refine evOps_val rfl (x_assign rfl) rfl ?_
        refine evOps_nil ?_
        refine loopQ_normal ⟨j11 - 1, (by have := lt_yes h54; omega), (by (iterate 40 refine OffW.put rfl ?_); exact OffW.refl _ _), i + 1, u67, us3 ++ [u65], M67, M65 ++ I3, (by have := lt_yes h54; omega), (by rw [List.take_add_one, hx63]; exact .snoc hI3 hO65), hO67, congrArg (fun z => some (AV.int .i64 z)) (wr_succ (by have := hg.order.len_le; omega)), hst⟩
      · skip
        refine ev_exit ?_
        refine thenQ_exit ?_
        refine loopQ_exit ?_
        refine blockQ_exit ?_
        refine thenQ_normal ?_
        refine ev_seq ?_
        refine ev_region rfl ?_
        refine evOps_val rfl (x_loadN rfl (hst.pops.pops.pops.pops.pops.pops.get 0 rfl) (n := 4) (vs := [_, _, _, _]) (by kernel_rfl) (Nat.le_of_ble_eq_true rfl) rfl) rfl ?_
        refine o_setU hst (.seg (.seg (.seg (.seg (.seg (.seg (.there (.seg .here)))))))) rfl (x_storeC rfl rfl rfl (hst.pops.pops.pops.pops.pops.pops.pop.pops.get 0 rfl) (m := 4) (by kernel_rfl) rfl (Nat.le_of_ble_eq_true rfl) (allLeaf_cons hO10.leaf.2 (allLeaf_cons hO1.leaf.2 (allLeaf_cons hO2.leaf.2 (allLeaf_cons hO3.leaf.2 allLeaf_nil)))) (cells' := [_, _, _, _]) rfl) rfl (fun σ hst => ?_)
        refine evOps_nil ?_
        refine thenQ_normal ?_
        refine ev_ret ?_
        rw [List.take_of_length_le (lt_no h16)] at hI1
        rw [List.take_of_length_le (lt_no h35)] at hI2
        rw [List.take_of_length_le (lt_no h54)] at hI3
        exact end_cell1 rfl rfl (hst.pops.pops.pops.pops.pops.pops.pop.pops.get 0 rfl) (m := 4) (by kernel_rfl) rfl ⟨u10, M10, u1, us1, O1, I1, u2, us2, O2, I2, u3, us3, O3, I3, rfl, ⟨hO10, hI1, hI2, hI3, hO1, hO2, hO3⟩, hst.sub (sub_seg (sub_seg (sub_seg (sub_seg (sub_seg (sub_seg (.cons _ (sub_seg (.cons _ (.cons _ (.refl _)))))))))))⟩
def RAV (x : AV) (vs : List AV) : Prop := vs = [x] ∧ leafB x = true ∧ cellsA x = some [x]
theorem RAV.leaf (x : AV) (vs : List AV) (h : RAV x vs) : allLeaf vs = true := by
  rw [h.1]; exact allLeaf_cons h.2.1 allLeaf_nil
theorem OwnS.rav {α : Type} {m E : Nat} {R : α → List AV → Prop} {l : List α} {u : AV} {M : Own} (h : OwnS m E R l u M) : RAV u [u] := ⟨rfl, h.leaf.2, h.leaf.1⟩
section
variable {α : Type} {m E E2 : Nat} {R : α → List AV → Prop} {ls : List (List α)} {us : List AV} {u : AV} {N M : Own} {K : KP}
theorem outer_hasS (ho : OwnS 1 E2 RAV us u N) (h : OwnSs m E R ls us M) (hN : ∀ e ∈ N, K e.1 e.2) (hM : ∀ e ∈ M, K e.1 e.2) : HasS K 1 (RL K m R) ls u := by
  have hl := h.length
  rcases ho with ⟨rfl, rfl, _⟩ | ⟨b, c, cells, e, rfl, rfl, h3, h4, h5, h6⟩
  · exact .inl ⟨List.length_eq_zero_iff.1 hl.symm, rfl⟩
  · refine .inr ⟨b, 0, c, cells, e, false, by rw [hl], ?_, hN _ (List.mem_cons_self ..), by omega, by omega, fun i x hx => ?_⟩
    · rcases h5 with h5 | h5
      · exact .inr ⟨_, h5, by omega⟩
      · exact .inl h5.1
    · obtain ⟨u, h1, h2⟩ := h.each hM i x hx
      refine ⟨u, ?_, h2⟩
      have := (h4 i u h1).1
      simpa using this
end
theorem w_Clone64 {G : Cx} (hG : Plain G) {K : KP} {l : List Int} {v : AV} (h : HasS K 1 RInt l v) (hn : l.length ≤ 1048576) {σ : AHeap} {L : Own} (hst : St σ K L) : EvCall Tryz.prog G 33 [v] σ fun u σ' => ∃ M, OwnS 1 2 RInt l u M ∧ St σ' K (M ++ L) := by
  have h0 := h; rcases h0 with ⟨rfl, rfl⟩ | ⟨b, off, c, cells, e, ro, rfl, _⟩
  · skip
    refine ev_body hG Tryz.func33 rfl (t := PT.leaf.put (some (.nilSlice)) 0) (by rfl) ?_
    refine ev_seq ?_
    refine ev_region rfl ?_
    refine evOps_val rfl (x_assign rfl) rfl ?_
    refine evOps_nil ?_
    refine thenQ_normal ?_
    refine ev_seq ?_
    refine ev_seq ?_
    refine ev_region rfl ?_
    refine evOps_val rfl (x_move rfl) rfl ?_
    refine evOps_val rfl (x_bin rfl rfl rfl) rfl ?_
    refine evOps_nil ?_
    refine thenQ_normal ?_
    refine ev_cond_true rfl ?_
    refine ev_seq ?_
    refine ev_region rfl ?_
    refine evOps_val rfl (x_assign rfl) rfl ?_
    refine evOps_nil ?_
    refine thenQ_normal ?_
    refine ev_ret ?_
    refine thenQ_ret (?_)
    exact end_ret1 rfl rfl ⟨[], .inl ⟨rfl, rfl, rfl⟩, hst⟩
  · skip
    refine ev_body hG Tryz.func33 rfl (t := PT.leaf.put (some (.slice b off l.length c)) 0) (by rfl) ?_
    refine ev_seq ?_
    refine ev_region rfl ?_
    refine evOps_val rfl (x_assign rfl) rfl ?_
    refine evOps_nil ?_
    refine thenQ_normal ?_
    refine ev_seq ?_
    refine ev_seq ?_
    refine ev_region rfl ?_
    refine evOps_val rfl (x_move rfl) rfl ?_
    refine evOps_val rfl (x_bin rfl rfl rfl) rfl ?_
    refine evOps_nil ?_
    refine thenQ_normal ?_
    refine ev_cond_false rfl ?_
    refine ev_skip ?_
    refine thenQ_normal ?_
    refine ev_seq ?_
    refine ev_region rfl ?_
    refine o_mk hst rfl (x_buildS (e := 2) (m := 1) (z := [.int .i64 0]) (cs := []) (by kernel_rfl) (by kernel_rfl) (by kernel_rfl) (by kernel_rfl) (by rfl)) (fun _ => rfl) (fun σ b1 hst => ?_)
    refine evOps_val rfl (x_move rfl) rfl ?_
    refine o_append (R := RInt) (m := 1) (e := 2) hst h RInt.leaf hn (by simp) (by decide) (.inl rfl) rfl rfl rfl rfl rfl (by kernel_rfl) (by kernel_rfl) (by kernel_rfl) rfl rfl (fun _ => rfl) (fun σ b2 c2 news e2 hst hl2 hr2 hc2 => ?_)
    refine evOps_val rfl (x_assign rfl) rfl ?_
    refine evOps_nil ?_
    refine thenQ_normal ?_
    refine ev_ret ?_
    exact end_ret1 rfl rfl ⟨[(b2, .row ([] ++ news) e2 false)], .inr ⟨b2, c2, news, e2, by rw [Nat.zero_add], rfl, hl2, hr2, by simpa using hc2, hn⟩, hst⟩
theorem w_CloneE {G : Cx} (hG : Plain G) {K : KP} {l : List XEv} {v : AV} (h : HasS K 5 REv l v) (hn : l.length ≤ 1048576) {σ : AHeap} {L : Own} (hst : St σ K L) : EvCall Tryz.prog G 62 [v] σ fun u σ' => ∃ M, OwnS 5 78 REv l u M ∧ St σ' K (M ++ L) := by
  have h0 := h; rcases h0 with ⟨rfl, rfl⟩ | ⟨b, off, c, cells, e, ro, rfl, _⟩
  · skip
    refine ev_body hG Tryz.func62 rfl (t := PT.leaf.put (some (.nilSlice)) 0) (by rfl) ?_
    refine ev_seq ?_
    refine ev_region rfl ?_
    refine evOps_val rfl (x_assign rfl) rfl ?_
    refine evOps_nil ?_
    refine thenQ_normal ?_
    refine ev_seq ?_
    refine ev_seq ?_
    refine ev_region rfl ?_
    refine evOps_val rfl (x_move rfl) rfl ?_
    refine evOps_val rfl (x_bin rfl rfl rfl) rfl ?_
    refine evOps_nil ?_
    refine thenQ_normal ?_
    refine ev_cond_true rfl ?_
    refine ev_seq ?_
    refine ev_region rfl ?_
    refine evOps_val rfl (x_assign rfl) rfl ?_
    refine evOps_nil ?_
    refine thenQ_normal ?_
    refine ev_ret ?_
    refine thenQ_ret (?_)
    exact end_ret1 rfl rfl ⟨[], .inl ⟨rfl, rfl, rfl⟩, hst⟩
  · skip
    refine ev_body hG Tryz.func62 rfl (t := PT.leaf.put (some (.slice b off l.length c)) 0) (by rfl) ?_
    refine ev_seq ?_
    refine ev_region rfl ?_
    refine evOps_val rfl (x_assign rfl) rfl ?_
    refine evOps_nil ?_
    refine thenQ_normal ?_
    refine ev_seq ?_
    refine ev_seq ?_
    refine ev_region rfl ?_
    refine evOps_val rfl (x_move rfl) rfl ?_
    refine evOps_val rfl (x_bin rfl rfl rfl) rfl ?_
    refine evOps_nil ?_
    refine thenQ_normal ?_
    refine ev_cond_false rfl ?_
    refine ev_skip ?_
    refine thenQ_normal ?_
    refine ev_seq ?_
    refine ev_region rfl ?_
    refine o_mk hst rfl (x_buildS (e := 78) (m := 5) (z := [.int .i64 0, .int .i64 0, .int .i64 0, .int .i64 0, .int .i64 0]) (cs := []) (by kernel_rfl) (by kernel_rfl) (by kernel_rfl) (by kernel_rfl) (by rfl)) (fun _ => rfl) (fun σ b1 hst => ?_)
    refine evOps_val rfl (x_move rfl) rfl ?_
    refine o_append (R := REv) (m := 5) (e := 78) hst h REv.leaf hn (by simp) (by decide) (.inl rfl) rfl rfl rfl rfl rfl (by kernel_rfl) (by kernel_rfl) (by kernel_rfl) rfl rfl (fun _ => rfl) (fun σ b2 c2 news e2 hst hl2 hr2 hc2 => ?_)
    refine evOps_val rfl (x_assign rfl) rfl ?_
    refine evOps_nil ?_
    refine thenQ_normal ?_
    refine ev_ret ?_
    exact end_ret1 rfl rfl ⟨[(b2, .row ([] ++ news) e2 false)], .inr ⟨b2, c2, news, e2, by rw [Nat.zero_add], rfl, hl2, hr2, by simpa using hc2, hn⟩, hst⟩
theorem w_CloneI {G : Cx} (hG : Plain G) {K : KP} {l : List XId} {v : AV} (h : HasS K 2 RId l v) (hn : l.length ≤ 1048576) {σ : AHeap} {L : Own} (hst : St σ K L) : EvCall Tryz.prog G 63 [v] σ fun u σ' => ∃ M, OwnS 2 81 RId l u M ∧ St σ' K (M ++ L) := by
  have h0 := h; rcases h0 with ⟨rfl, rfl⟩ | ⟨b, off, c, cells, e, ro, rfl, _⟩
  · skip
    refine ev_body hG Tryz.func63 rfl (t := PT.leaf.put (some (.nilSlice)) 0) (by rfl) ?_
    refine ev_seq ?_
    refine ev_region rfl ?_
    refine evOps_val rfl (x_assign rfl) rfl ?_
    refine evOps_nil ?_
    refine thenQ_normal ?_
    refine ev_seq ?_
    refine ev_seq ?_
    refine ev_region rfl ?_
    refine evOps_val rfl (x_move rfl) rfl ?_
    refine evOps_val rfl (x_bin rfl rfl rfl) rfl ?_
    refine evOps_nil ?_
    refine thenQ_normal ?_
    refine ev_cond_true rfl ?_
    refine ev_seq ?_
    refine ev_region rfl ?_
    refine evOps_val rfl (x_assign rfl) rfl ?_
    refine evOps_nil ?_
    refine thenQ_normal ?_
    refine ev_ret ?_
    refine thenQ_ret (?_)
    exact end_ret1 rfl rfl ⟨[], .inl ⟨rfl, rfl, rfl⟩, hst⟩
  · skip
    refine ev_body hG Tryz.func63 rfl (t := PT.leaf.put (some (.slice b off l.length c)) 0) (by rfl) ?_
    refine ev_seq ?_
    refine ev_region rfl ?_
    refine evOps_val rfl (x_assign rfl) rfl ?_
    refine evOps_nil ?_
    refine thenQ_normal ?_
    refine ev_seq ?_
    refine ev_seq ?_
    refine ev_region rfl ?_
    refine evOps_val rfl (x_move rfl) rfl ?_
    refine evOps_val rfl (x_bin rfl rfl rfl) rfl ?_
    refine evOps_nil ?_
    refine thenQ_normal ?_
    refine ev_cond_false rfl ?_
    refine ev_skip ?_
    refine thenQ_normal ?_
    refine ev_seq ?_
    refine ev_region rfl ?_
    refine o_mk hst rfl (x_buildS (e := 81) (m := 2) (z := [.int .i64 0, .int .i64 0]) (cs := []) (by kernel_rfl) (by kernel_rfl) (by kernel_rfl) (by kernel_rfl) (by rfl)) (fun _ => rfl) (fun σ b1 hst => ?_)
    refine evOps_val rfl (x_move rfl) rfl ?_
    refine o_append (R := RId) (m := 2) (e := 81) hst h RId.leaf hn (by simp) (by decide) (.inl rfl) rfl rfl rfl rfl rfl (by kernel_rfl) (by kernel_rfl) (by kernel_rfl) rfl rfl (fun _ => rfl) (fun σ b2 c2 news e2 hst hl2 hr2 hc2 => ?_)
    refine evOps_val rfl (x_assign rfl) rfl ?_
    refine evOps_nil ?_
    refine thenQ_normal ?_
    refine ev_ret ?_
    exact end_ret1 rfl rfl ⟨[(b2, .row ([] ++ news) e2 false)], .inr ⟨b2, c2, news, e2, by rw [Nat.zero_add], rfl, hl2, hr2, by simpa using hc2, hn⟩, hst⟩
theorem p_CloneM0 {G : Cx} (hG : Plain G) {K : KP} {σ : AHeap} {L : Own} (hst : St σ K L) :
    EvCall Tryz.prog G 36 [.nilSlice] σ fun u σ' => ∃ M, u = .nilSlice ∧ St σ' K (M ++ L) := by
  refine ev_body hG Tryz.func36 rfl (t := PT.leaf.put (some (.nilSlice)) 0) (by rfl) ?_
  refine ev_seq ?_
  refine ev_region rfl ?_
  refine evOps_val rfl (x_assign rfl) rfl ?_
  refine evOps_nil ?_
  refine thenQ_normal ?_
  refine ev_seq ?_
  refine ev_seq ?_
  refine ev_region rfl ?_
  refine evOps_val rfl (x_move rfl) rfl ?_
  refine evOps_val rfl (x_bin (v := .bool true) rfl rfl (rfl)) rfl ?_
  refine evOps_nil ?_
  refine thenQ_normal ?_
  refine ev_cond_true rfl ?_
  refine ev_seq ?_
  refine ev_region rfl ?_
  refine evOps_val rfl (x_assign rfl) rfl ?_
  refine evOps_nil ?_
  refine thenQ_normal ?_
  refine ev_ret ?_
  refine thenQ_ret (?_)
  exact end_ret1 rfl rfl ⟨[], rfl, hst⟩
theorem p_copyE {G : Cx} (hG : Plain G) {K : KP} {ls : List (List XEv)} {v : AV} (h : HasS K 1 (RL K 5 REv) ls v) (hn : ls.length ≤ 1048576) (hn2 : ∀ l ∈ ls, l.length ≤ 1048576) {σ : AHeap} {L : Own} (hst : St σ K L) :
    EvCall Tryz.prog G 34 [v] σ fun u σ' => ∃ us No Mi, OwnS 1 70 RAV us u No ∧ OwnSs 5 78 REv ls us Mi ∧ St σ' K (No ++ (Mi ++ L)) := by
  refine ev_body hG Tryz.func34 rfl (t := PT.leaf.put (some (v)) 0) (by rfl) ?_
  refine ev_seq ?_
  refine ev_region rfl ?_
  refine evOps_val rfl (x_assign rfl) rfl ?_
  refine evOps_nil ?_
  refine thenQ_normal ?_
  refine ev_seq ?_
  refine ev_region rfl ?_
  refine evOps_val rfl (x_assign rfl) rfl ?_
  refine evOps_nil ?_
  refine thenQ_normal ?_
  refine ev_seq ?_
  refine ev_seq ?_
  refine ev_region rfl ?_
  refine evOps_val rfl (x_move rfl) rfl ?_
  refine evOps_val rfl (x_len' h rfl rfl rfl (e := 70) (by kernel_rfl) rfl) rfl ?_
  refine evOps_val rfl (x_move rfl) rfl ?_
  refine evOps_nil ?_
  refine thenQ_normal ?_
  refine ev_block ?_
  refine ev_loopW [3, 5, 8, 9, 10, 11, 12, 13, 14, 15, 16, 17] (fun j t σ => ∃ (i : Nat) (u : AV) (us : List AV) (No Mi : Own), j + i = ls.length ∧ OwnS 1 70 RAV us u No ∧ OwnSs 5 78 REv (ls.take i) us Mi ∧ t.get 3 = some (u) ∧ t.get 8 = some (.int .i64 (.ofNat i)) ∧ St σ K (No ++ (Mi ++ L))) (ls.length) ⟨0, _, [], [], [], rfl, OwnS.nil, .nil, rfl, rfl, hst⟩ ?_
  clear hst; intro j3 t σ hoff hI; obtain ⟨i, u, us, No, Mi, hj3, hOo, hOi, hv3, hv8, hst⟩ := hI
  replace hoff := hoff.ex8 rfl rfl; obtain ⟨o3, o5, o8, o9, o10, o11, o12, o13, hoff⟩ := hoff
  replace hoff := hoff.ex4 rfl; obtain ⟨o14, o15, o16, o17, hoff⟩ := hoff
  obtain rfl := hoff.nil; clear hoff
  replace hv3 : o3 = some _ := hv3; subst hv3
  replace hv8 : o8 = some _ := hv8; subst hv8
  refine ev_seq ?_
  refine ev_region rfl ?_
  refine evOps_val rfl (x_bin rfl rfl rfl) rfl ?_
  refine evOps_nil ?_
  refine thenQ_normal ?_
  refine ev_seq ?_
  refine ev_cond2 rfl (fun h9 => ?_) (fun h9 => ?_)
  · skip
    refine ev_skip ?_
    refine thenQ_normal ?_
    refine ev_seq ?_
    refine ev_block ?_
    refine ev_seq ?_
    refine ev_region rfl ?_
    obtain ⟨x10, hx10, hi10⟩ := at_lt h9
    refine o_idx (e := 70) (m := 1) h hx10 rfl rfl (by kernel_rfl) (by kernel_rfl) rfl rfl (fun _ => rfl) (fun p10 vs10 hp10 hl10 hr10 => ?_)
    have hr10' := hr10; obtain ⟨v10, rfl, hk10⟩ := hr10'
    refine evOps_val rfl (x_pload1 hst hp10 rfl (by kernel_rfl) rfl) rfl ?_
    refine evOps_val rfl (x_assign rfl) rfl ?_
    refine evOps_nil ?_
    refine thenQ_normal ?_
    refine ev_region rfl ?_
    refine evOps_val rfl (x_move rfl) rfl ?_
    refine evOps_val rfl (x_move rfl) rfl ?_
    refine o_call rfl (x_call rfl rfl rfl (by kernel_rfl)) (fun _ => rfl) (w_CloneE hG hk10 (hn2 _ (List.mem_of_getElem? hx10)) hst) ?_
    rintro u14 σ ⟨M14, hO14, hst⟩
    refine o_mk hst rfl (x_buildS (e := 70) (m := 1) (z := [.nilSlice]) (cs := [_]) (by kernel_rfl) (by kernel_rfl) (by kernel_rfl) (by kernel_rfl) (fillA_cons rfl rfl hO14.leaf.1 rfl fillA_nil)) (fun _ => rfl) (fun σ b1 hst => ?_)
    replace hst := hst.pull (.there (.seg (.seg (OwnIn.here (X := Mi)))))
    replace hst := hst.pull (.seg (.there (OwnIn.here (X := M14))))
    replace hst := hst.pull (.seg (.seg (.there (OwnIn.here (X := No)))))
    replace hst := hst.pull (.seg (.seg (.seg (OwnIn.here (X := [_])))))
    rw [List.singleton_append] at hst
    refine o_app1 (R := RAV) (m := 1) (e := 70) hOo hst (has_one1 (m := 1) rfl hO14.rav) RAV.leaf (by have := hOi.length; rw [List.length_take] at this; show us.length + 1 ≤ _; omega) rfl rfl rfl rfl rfl rfl rfl (fun _ => rfl) (fun σ u16 M16 hO16 hst => ?_)
    rw [← List.append_assoc M14 Mi L] at hst
    refine evOps_val rfl (x_assign rfl) rfl ?_
    refine evOps_nil ?_
    refine blockQ_normal ?_
    refine thenQ_normal ?_
    refine ev_region rfl ?_
    refine evOps_val rfl (x_bin rfl rfl rfl) rfl ?_
    refine evOps_val rfl (x_move rfl) rfl ?_
    refine evOps_nil ?_
    refine loopQ_normal ⟨j3 - 1, by have := lt_yes h9; omega, (by (iterate 24 refine OffW.put rfl ?_); exact OffW.refl _ _), i + 1, u16, us ++ [u14], M16, M14 ++ Mi, by omega, hO16, (by rw [List.take_add_one, hx10]; exact hOi.snoc hO14), rfl, congrArg (fun z => some (AV.int .i64 z)) (wr_succ (by have := h.len_le; omega)), hst⟩
  · skip
    refine ev_exit ?_
    refine thenQ_exit ?_
    refine loopQ_exit ?_
    refine blockQ_exit ?_
    refine thenQ_normal ?_
    refine ev_seq ?_
    refine ev_region rfl ?_
    refine evOps_val rfl (x_move rfl) rfl ?_
    refine evOps_val rfl (x_assign rfl) rfl ?_
    refine evOps_nil ?_
    refine thenQ_normal ?_
    refine ev_ret ?_
    rw [List.take_of_length_le (lt_no h9)] at hOi
    exact end_ret1 rfl rfl ⟨us, No, Mi, hOo, hOi, hst⟩
theorem p_copyI {G : Cx} (hG : Plain G) {K : KP} {ls : List (List XId)} {v : AV} (h : HasS K 1 (RL K 2 RId) ls v) (hn : ls.length ≤ 1048576) (hn2 : ∀ l ∈ ls, l.length ≤ 1048576) {σ : AHeap} {L : Own} (hst : St σ K L) :
    EvCall Tryz.prog G 35 [v] σ fun u σ' => ∃ us No Mi, OwnS 1 71 RAV us u No ∧ OwnSs 2 81 RId ls us Mi ∧ St σ' K (No ++ (Mi ++ L)) := by
  refine ev_body hG Tryz.func35 rfl (t := PT.leaf.put (some (v)) 0) (by rfl) ?_
  refine ev_seq ?_
  refine ev_region rfl ?_
  refine evOps_val rfl (x_assign rfl) rfl ?_
  refine evOps_nil ?_
  refine thenQ_normal ?_
  refine ev_seq ?_
  refine ev_region rfl ?_
  refine evOps_val rfl (x_assign rfl) rfl ?_
  refine evOps_nil ?_
  refine thenQ_normal ?_
  refine ev_seq ?_
  refine ev_seq ?_
  refine ev_region rfl ?_
  refine evOps_val rfl (x_move rfl) rfl ?_
  refine evOps_val rfl (x_len' h rfl rfl rfl (e := 71) (by kernel_rfl) rfl) rfl ?_
  refine evOps_val rfl (x_move rfl) rfl ?_
  refine evOps_nil ?_
  refine thenQ_normal ?_
  refine ev_block ?_
  refine ev_loopW [3, 5, 8, 9, 10, 11, 12, 13, 14, 15, 16, 17] (fun j t σ => ∃ (i : Nat) (u : AV) (us : List AV) (No Mi : Own), j + i = ls.length ∧ OwnS 1 71 RAV us u No ∧ OwnSs 2 81 RId (ls.take i) us Mi ∧ t.get 3 = some (u) ∧ t.get 8 = some (.int .i64 (.ofNat i)) ∧ St σ K (No ++ (Mi ++ L))) (ls.length) ⟨0, _, [], [], [], rfl, OwnS.nil, .nil, rfl, rfl, hst⟩ ?_
  clear hst; intro j3 t σ hoff hI; obtain ⟨i, u, us, No, Mi, hj3, hOo, hOi, hv3, hv8, hst⟩ := hI
  replace hoff := hoff.ex8 rfl rfl; obtain ⟨o3, o5, o8, o9, o10, o11, o12, o13, hoff⟩ := hoff
  replace hoff := hoff.ex4 rfl; obtain ⟨o14, o15, o16, o17, hoff⟩ := hoff
  obtain rfl := hoff.nil; clear hoff
  replace hv3 : o3 = some _ := hv3; subst hv3
  replace hv8 : o8 = some _ := hv8; subst hv8
  refine ev_seq ?_
  refine ev_region rfl ?_
  refine evOps_val rfl (x_bin rfl rfl rfl) rfl ?_
  refine evOps_nil ?_
  refine thenQ_normal ?_
  refine ev_seq ?_
  refine ev_cond2 rfl (fun h9 => ?_) (fun h9 => ?_)
  · skip
    refine ev_skip ?_
    refine thenQ_normal ?_
    refine ev_seq ?_
    refine ev_block ?_
    refine ev_seq ?_
    refine ev_region rfl ?_
    obtain ⟨x10, hx10, hi10⟩ := at_lt h9
    refine o_idx (e := 71) (m := 1) h hx10 rfl rfl (by kernel_rfl) (by kernel_rfl) rfl rfl (fun _ => rfl) (fun p10 vs10 hp10 hl10 hr10 => ?_)
    have hr10' := hr10; obtain ⟨v10, rfl, hk10⟩ := hr10'
    refine evOps_val rfl (x_pload1 hst hp10 rfl (by kernel_rfl) rfl) rfl ?_
    refine evOps_val rfl (x_assign rfl) rfl ?_
    refine evOps_nil ?_
    refine thenQ_normal ?_
    refine ev_region rfl ?_
    refine evOps_val rfl (x_move rfl) rfl ?_
    refine evOps_val rfl (x_move rfl) rfl ?_
    refine o_call rfl (x_call rfl rfl rfl (by kernel_rfl)) (fun _ => rfl) (w_CloneI hG hk10 (hn2 _ (List.mem_of_getElem? hx10)) hst) ?_
    rintro u14 σ ⟨M14, hO14, hst⟩
    refine o_mk hst rfl (x_buildS (e := 71) (m := 1) (z := [.nilSlice]) (cs := [_]) (by kernel_rfl) (by kernel_rfl) (by kernel_rfl) (by kernel_rfl) (fillA_cons rfl rfl hO14.leaf.1 rfl fillA_nil)) (fun _ => rfl) (fun σ b1 hst => ?_)
    replace hst := hst.pull (.there (.seg (.seg (OwnIn.here (X := Mi)))))
    replace hst := hst.pull (.seg (.there (OwnIn.here (X := M14))))
    replace hst := hst.pull (.seg (.seg (.there (OwnIn.here (X := No)))))
    replace hst := hst.pull (.seg (.seg (.seg (OwnIn.here (X := [_])))))
    rw [List.singleton_append] at hst
    refine o_app1 (R := RAV) (m := 1) (e := 71) hOo hst (has_one1 (m := 1) rfl hO14.rav) RAV.leaf (by have := hOi.length; rw [List.length_take] at this; show us.length + 1 ≤ _; omega) rfl rfl rfl rfl rfl rfl rfl (fun _ => rfl) (fun σ u16 M16 hO16 hst => ?_)
    rw [← List.append_assoc M14 Mi L] at hst
    refine evOps_val rfl (x_assign rfl) rfl ?_
    refine evOps_nil ?_
    refine blockQ_normal ?_
    refine thenQ_normal ?_
    refine ev_region rfl ?_
    refine evOps_val rfl (x_bin rfl rfl rfl) rfl ?_
    refine evOps_val rfl (x_move rfl) rfl ?_
    refine evOps_nil ?_
    refine loopQ_normal ⟨j3 - 1, by have := lt_yes h9; omega, (by (iterate 24 refine OffW.put rfl ?_); exact OffW.refl _ _), i + 1, u16, us ++ [u14], M16, M14 ++ Mi, by omega, hO16, (by rw [List.take_add_one, hx10]; exact hOi.snoc hO14), rfl, congrArg (fun z => some (AV.int .i64 z)) (wr_succ (by have := h.len_le; omega)), hst⟩
  · skip
    refine ev_exit ?_
    refine thenQ_exit ?_
    refine loopQ_exit ?_
    refine blockQ_exit ?_
    refine thenQ_normal ?_
    refine ev_seq ?_
    refine ev_region rfl ?_
    refine evOps_val rfl (x_move rfl) rfl ?_
    refine evOps_val rfl (x_assign rfl) rfl ?_
    refine evOps_nil ?_
    refine thenQ_normal ?_
    refine ev_ret ?_
    rw [List.take_of_length_le (lt_no h9)] at hOi
    exact end_ret1 rfl rfl ⟨us, No, Mi, hOo, hOi, hst⟩
theorem beqA_nil : beqA .nilSlice .nilSlice = true := rfl
theorem perm_x1 {A B C D E F N L : Own} : A ++ (B ++ (C ++ (D ++ (E ++ (F ++ (N ++ L)))))) = (A ++ (B ++ (C ++ (D ++ (E ++ (F ++ N)))))) ++ L := by simp only [List.append_assoc]
theorem p_pCopy0 {G : Cx} (hG : Plain G) {K : KP} {g : XG} {a b c d : AV} (hg : HasG K g a b c d) (hfew : FewD g) {σ : AHeap} {L : Own} (hst : St σ K L) :
    EvCall Tryz.prog G 15 [.agg [a, b, c, d, .nilSlice, .int .i64 0]] σ fun u σ' => ∃ K1 u0 u1 u2 u3, KP.le K K1 ∧ u = .agg [u0, u1, u2, u3, .nilSlice, .int .i64 0] ∧ HasG K1 g u0 u1 u2 u3 ∧ St σ' K1 L := by
  refine ev_body hG Tryz.func15 rfl (t := PT.leaf.put (some (.agg [a, b, c, d, .nilSlice, .int .i64 0])) 0) (by rfl) ?_
  refine ev_seq ?_
  refine ev_region rfl ?_
  refine o_ptr hst rfl (x_box rfl rfl) (fun _ => rfl) (fun σ b1 hst => ?_)
  refine o_ptr hst rfl (x_new (cs := [.nilSlice, .nilSlice, .nilSlice, .nilSlice, .nilSlice, .int .i64 0]) (by kernel_rfl) (by kernel_rfl)) (fun _ => rfl) (fun σ b2 hst => ?_)
  refine evOps_nil ?_
  refine thenQ_normal ?_
  refine ev_seq ?_
  refine ev_region rfl ?_
  refine evOps_val rfl (x_field rfl (k := 0) (by kernel_rfl)) rfl ?_
  refine evOps_val rfl (x_loadN rfl (hst.get 1 rfl) (n := 4) (vs := [_, _, _, _]) (by kernel_rfl) (Nat.le_of_ble_eq_true rfl) rfl) rfl ?_
  refine o_ptr hst rfl (x_new (cs := [.nilSlice, .nilSlice, .nilSlice, .nilSlice]) (by kernel_rfl) (by kernel_rfl)) (fun _ => rfl) (fun σ b3 hst => ?_)
  refine o_set0 hst rfl (x_storeC rfl rfl rfl (hst.get 0 rfl) (m := 4) (by kernel_rfl) rfl (Nat.le_of_ble_eq_true rfl) (allLeaf_cons hg.init.leaf.2 (allLeaf_cons hg.threads.leaf.2 (allLeaf_cons hg.from_.leaf.2 (allLeaf_cons hg.order.leaf.2 allLeaf_nil)))) (cells' := [_, _, _, _]) rfl) rfl (fun σ hst => ?_)
  refine evOps_nil ?_
  refine thenQ_normal ?_
  refine ev_seq ?_
  refine ev_region_plan (l := [(0, []), (1, []), (3, []), (4, []), (6, []), (7, []), (9, []), (10, []), (13, []), (14, []), (16, []), (17, []), (2, [4, 7, 10, 14, 17]), (5, [7, 10, 14, 17]), (8, [10, 14, 17]), (11, [14, 17]), (12, []), (15, [17]), (18, []), (19, [])]) (by kernel_rfl) (by kernel_rfl) ?_
  refine evPlan_val rfl rfl (x_field rfl (k := 0) (by kernel_rfl)) rfl ?_
  refine evPlan_val rfl rfl (x_load1 rfl (hst.get 0 rfl) (by kernel_rfl) rfl) rfl ?_
  refine evPlan_val rfl rfl (x_field rfl (k := 1) (by kernel_rfl)) rfl ?_
  refine evPlan_val rfl rfl (x_load1 rfl (hst.get 0 rfl) (by kernel_rfl) rfl) rfl ?_
  refine evPlan_val rfl rfl (x_field rfl (k := 2) (by kernel_rfl)) rfl ?_
  refine evPlan_val rfl rfl (x_load1 rfl (hst.get 0 rfl) (by kernel_rfl) rfl) rfl ?_
  refine evPlan_val rfl rfl (x_field rfl (k := 3) (by kernel_rfl)) rfl ?_
  refine evPlan_val rfl rfl (x_load1 rfl (hst.get 0 rfl) (by kernel_rfl) rfl) rfl ?_
  refine evPlan_val rfl rfl (x_field rfl (k := 4) (by kernel_rfl)) rfl ?_
  refine evPlan_val rfl rfl (x_load1 rfl (hst.get 2 rfl) (by kernel_rfl) rfl) rfl ?_
  refine evPlan_val rfl rfl (x_field rfl (k := 5) (by kernel_rfl)) rfl ?_
  refine evPlan_val rfl rfl (x_load1 rfl (hst.get 2 rfl) (by kernel_rfl) rfl) rfl ?_
  refine p_call rfl rfl (x_call rfl rfl rfl (by kernel_rfl)) (fun _ => rfl) (w_Clone64 hG hg.init (by have := hfew.1; omega) hst) ?_
  rintro u8 σ ⟨M8, hO8, hst⟩
  obtain ⟨K1, hle1, hmem, hst⟩ := hst.keeps_ex (M := M8)
  have hin := hO8.hasS hmem; clear hmem
  replace hg := hg.mono hle1
  refine ⟨(still_cons (still_read rfl rfl rfl rfl rfl (x_load1 rfl (hst.get 0 rfl) (by kernel_rfl) rfl) hg.threads.beqA) (still_cons (still_read rfl rfl rfl rfl rfl (x_load1 rfl (hst.get 0 rfl) (by kernel_rfl) rfl) hg.from_.beqA) (still_cons (still_read rfl rfl rfl rfl rfl (x_load1 rfl (hst.get 0 rfl) (by kernel_rfl) rfl) hg.order.beqA) (still_cons (still_read rfl rfl rfl rfl rfl (x_load1 rfl (hst.get 2 rfl) (by kernel_rfl) rfl) (beqA_nil)) (still_cons (still_read rfl rfl rfl rfl rfl (x_load1 rfl (hst.get 2 rfl) (by kernel_rfl) rfl) (beqA_int _ _)) still_nil))))), ?_⟩
  refine p_call rfl rfl (x_call rfl rfl rfl (by kernel_rfl)) (fun _ => rfl) (p_copyE hG hg.threads hfew.2.1 hfew.2.2.1 hst) ?_
  rintro u11 σ ⟨us2, N2, M2, hoT, hiT, hst⟩
  refine ⟨(still_cons (still_read rfl rfl rfl rfl rfl (x_load1 rfl (hst.pops.pops.get 0 rfl) (by kernel_rfl) rfl) hg.from_.beqA) (still_cons (still_read rfl rfl rfl rfl rfl (x_load1 rfl (hst.pops.pops.get 0 rfl) (by kernel_rfl) rfl) hg.order.beqA) (still_cons (still_read rfl rfl rfl rfl rfl (x_load1 rfl (hst.pops.pops.pop.pop.get 0 rfl) (by kernel_rfl) rfl) (beqA_nil)) (still_cons (still_read rfl rfl rfl rfl rfl (x_load1 rfl (hst.pops.pops.pop.pop.get 0 rfl) (by kernel_rfl) rfl) (beqA_int _ _)) still_nil)))), ?_⟩
  refine p_call rfl rfl (x_call rfl rfl rfl (by kernel_rfl)) (fun _ => rfl) (p_copyI hG hg.from_ hfew.2.2.2.1 hfew.2.2.2.2.1 hst) ?_
  rintro u14 σ ⟨us3, N3, M3, hoF, hiF, hst⟩
  refine ⟨(still_cons (still_read rfl rfl rfl rfl rfl (x_load1 rfl (hst.pops.pops.pops.pops.get 0 rfl) (by kernel_rfl) rfl) hg.order.beqA) (still_cons (still_read rfl rfl rfl rfl rfl (x_load1 rfl (hst.pops.pops.pops.pops.pop.pop.get 0 rfl) (by kernel_rfl) rfl) (beqA_nil)) (still_cons (still_read rfl rfl rfl rfl rfl (x_load1 rfl (hst.pops.pops.pops.pops.pop.pop.get 0 rfl) (by kernel_rfl) rfl) (beqA_int _ _)) still_nil))), ?_⟩
  refine p_call rfl rfl (x_call rfl rfl rfl (by kernel_rfl)) (fun _ => rfl) (p_copyI hG hg.order hfew.2.2.2.2.2.1 hfew.2.2.2.2.2.2 hst) ?_
  rintro u17 σ ⟨us4, N4, M4, hoO, hiO, hst⟩
  refine ⟨(still_cons (still_read rfl rfl rfl rfl rfl (x_load1 rfl (hst.pops.pops.pops.pops.pops.pops.pop.pop.get 0 rfl) (by kernel_rfl) rfl) (beqA_nil)) (still_cons (still_read rfl rfl rfl rfl rfl (x_load1 rfl (hst.pops.pops.pops.pops.pops.pops.pop.pop.get 0 rfl) (by kernel_rfl) rfl) (beqA_int _ _)) still_nil)), ?_⟩
  refine evPlan_val rfl rfl (x_build (places := [(0, 1), (1, 1), (2, 1), (3, 1)]) (zero := [.nilSlice, .nilSlice, .nilSlice, .nilSlice]) (cs := [_, _, _, _]) (by kernel_rfl) (by kernel_rfl) (by kernel_rfl) (fillA_cons rfl rfl hin.leaf.1 rfl (fillA_cons rfl rfl hoT.leaf.1 rfl (fillA_cons rfl rfl hoF.leaf.1 rfl (fillA_cons rfl rfl hoO.leaf.1 rfl fillA_nil)))) (by kernel_rfl)) rfl ?_
  refine p_call rfl rfl (x_call rfl rfl rfl (by kernel_rfl)) (fun _ => rfl) (p_CloneM0 hG hst) ?_
  rintro _ σ ⟨N5, rfl, hst⟩
  refine ⟨(still_cons (still_read rfl rfl rfl rfl rfl (x_load1 rfl (hst.pops.pops.pops.pops.pops.pops.pops.pop.pop.get 0 rfl) (by kernel_rfl) rfl) (beqA_int _ _)) still_nil), ?_⟩
  refine evPlan_val rfl rfl (x_build (places := [(0, 4), (4, 1), (5, 1)]) (zero := [.nilSlice, .nilSlice, .nilSlice, .nilSlice, .nilSlice, .int .i64 0]) (cs := [_, _, _, _, _, _]) (by kernel_rfl) (by kernel_rfl) (by kernel_rfl) (fillA_cons rfl rfl rfl rfl (fillA_cons rfl rfl rfl rfl (fillA_cons rfl rfl rfl rfl fillA_nil))) (by kernel_rfl)) rfl ?_
  refine p_setU hst (.seg (.seg (.seg (.seg (.seg (.seg (.seg (.there .here)))))))) rfl rfl (x_storeC rfl rfl rfl (hst.pops.pops.pops.pops.pops.pops.pops.pop.get 0 rfl) (m := 6) (by kernel_rfl) rfl (Nat.le_of_ble_eq_true rfl) (allLeaf_cons hin.leaf.2 (allLeaf_cons hoT.leaf.2 (allLeaf_cons hoF.leaf.2 (allLeaf_cons hoO.leaf.2 (allLeaf_cons rfl (allLeaf_cons rfl allLeaf_nil)))))) (cells' := [_, _, _, _, _, _]) rfl) rfl (fun σ hst => ?_)
  refine ⟨still_nil, ?_⟩
  refine evPlan_nil ?_
  refine thenQ_normal ?_
  refine ev_ret ?_
  replace hst := hst.pull (.seg (.seg (OwnIn.here (X := M4))))
  replace hst := hst.pull (.seg (.seg (OwnIn.here (X := N4))))
  replace hst := hst.pull (.seg (.seg (.seg (.seg (OwnIn.here (X := M3))))))
  replace hst := hst.pull (.seg (.seg (.seg (.seg (OwnIn.here (X := N3))))))
  replace hst := hst.pull (.seg (.seg (.seg (.seg (.seg (.seg (OwnIn.here (X := M2))))))))
  replace hst := hst.pull (.seg (.seg (.seg (.seg (.seg (.seg (OwnIn.here (X := N2))))))))
  have hst2 := hst.sub (sub_seg (sub_seg (sub_seg (sub_seg (sub_seg (sub_seg (sub_seg (.cons _ (.cons _ (.cons _ (.refl _)))))))))))
  rw [perm_x1] at hst2
  obtain ⟨K2, hle2, hmem, hst2⟩ := hst2.keeps_ex (M := _)
  simp only [List.mem_append] at hmem
  exact end_cell1 rfl rfl (hst.pops.pops.pops.pops.pops.pops.pops.pop.get 0 rfl) (m := 6) (by kernel_rfl) rfl ⟨K2, u8, u11, u14, u17, KP.le_trans hle1 hle2, rfl, ⟨hin.mono hle2 fun _ _ h => h, outer_hasS hoT hiT (fun e he => hmem e (by simp only [he, true_or, or_true])) (fun e he => hmem e (by simp only [he, true_or, or_true])), outer_hasS hoF hiF (fun e he => hmem e (by simp only [he, true_or, or_true])) (fun e he => hmem e (by simp only [he, true_or, or_true])), outer_hasS hoO hiO (fun e he => hmem e (by simp only [he, true_or, or_true])) (fun e he => hmem e (by simp only [he, true_or, or_true]))⟩, hst2⟩
theorem ltI_lt {z : Int} (h : ltI z 0 = true) : z < 0 := by rw [ltI_eq] at h; exact of_decide_eq_true h
theorem ltI_nlt {z : Int} (h : ltI z 0 = false) : ¬ z < 0 := by rw [ltI_eq] at h; exact of_decide_eq_false h
theorem OwnT.monoR {α : Type} {m E : Nat} {R R' : α → List AV → Prop} {l : List α} {u : AV} {M : Own} (h : OwnT m E R l u M) (hR : ∀ x vs, R x vs → R' x vs) : OwnT m E R' l u M := by
  rcases h with h | ⟨b, c, cells, e, h1, h2, h3, h4, h5, h6⟩
  · exact .inl h
  · exact .inr ⟨b, c, cells, e, h1, h2, h3, fun i x hx => hR _ _ (h4 i x hx), h5, h6⟩
theorem cells4G {a b c d : AV} (ha : cellsA a = some [a] ∧ leafB a = true) (hb : cellsA b = some [b] ∧ leafB b = true) (hc : cellsA c = some [c] ∧ leafB c = true) (hd : cellsA d = some [d] ∧ leafB d = true) : cellsA (.agg [a, b, c, d]) = some [a, b, c, d] ∧ allLeaf [a, b, c, d] = true := by
  refine ⟨rfl, allLeaf_cons ha.2 (allLeaf_cons hb.2 (allLeaf_cons hc.2 (allLeaf_cons hd.2 allLeaf_nil)))⟩
theorem OwnD.hasG {K : KP} {g : XG} {u0 u1 u2 u3 : AV} {us1 us2 us3 : List AV} {M0 O1 I1 O2 I2 O3 I3 : Own} (h : OwnD g u0 M0 u1 us1 O1 I1 u2 us2 O2 I2 u3 us3 O3 I3) (hk : ∀ e ∈ O3 ++ (I3 ++ (O2 ++ (I2 ++ (O1 ++ (I1 ++ M0))))), K e.1 e.2) : HasG K g u0 u1 u2 u3 := by
  obtain ⟨hDi, hDt, hDf, hDo, hO1, hO2, hO3⟩ := h
  simp only [List.mem_append] at hk
  have cv : ∀ x vs, RUd x vs → RAV x vs := fun x vs h => ⟨h.1, h.2.2, h.2.1⟩
  exact ⟨hDi.hasS fun e he => hk e (by simp only [he, or_true]), outer_hasS (hO1.monoR cv) hDt (fun e he => hk e (by simp only [he, true_or, or_true])) (fun e he => hk e (by simp only [he, true_or, or_true])), outer_hasS (hO2.monoR cv) hDf (fun e he => hk e (by simp only [he, true_or, or_true])) (fun e he => hk e (by simp only [he, true_or, or_true])), outer_hasS (hO3.monoR cv) hDo (fun e he => hk e (by simp only [he, true_or])) (fun e he => hk e (by simp only [he, true_or, or_true]))⟩
theorem perm_cp {α : Type} (O3 I3 O2 I2 O1 I1 M0 L : List α) : (O3 ++ (I3 ++ (O2 ++ (I2 ++ (O1 ++ (I1 ++ (M0 ++ L))))))).Perm ((O3 ++ (I3 ++ (O2 ++ (I2 ++ (O1 ++ (I1 ++ M0)))))) ++ L) := by simp only [List.append_assoc]; exact List.Perm.refl _
theorem perm_sw {α : Type} (A B L : List α) : (A ++ (B ++ L)).Perm (B ++ (A ++ L)) := by
  rw [← List.append_assoc, ← List.append_assoc]
  exact List.Perm.append_right _ List.perm_append_comm
section
variable {α : Type} {c : α → α → Int} {x : α}
theorem insD_at : ∀ {l : List α} {k : Nat}, (∀ y ∈ l.take k, c y x < 0) → insD c l x = l.take k ++ insD c (l.drop k) x
  | [], k, _ => by simp
  | y :: l, 0, _ => by simp
  | y :: l, k + 1, h => by
    have h1 : c y x < 0 := h y (by simp)
    show (if c y x < 0 then y :: insD c l x else _) = _
    rw [if_pos h1, insD_at (l := l) (k := k) fun z hz => h z (by simp [hz])]; simp
theorem insD_end {l : List α} {k : Nat} (h : ∀ y ∈ l.take k, c y x < 0) (hk : l.length ≤ k) : insD c l x = l.take k ++ [x] ++ l.drop k := by
  rw [insD_at h, List.drop_of_length_le hk]; simp [insD]
theorem insD_same {l : List α} {k : Nat} {y : α} (h : ∀ y ∈ l.take k, c y x < 0) (hy : l[k]? = some y) (h0 : c y x = 0) : insD c l x = l := by
  rw [insD_at h, drop_at hy]
  show l.take k ++ (if c y x < 0 then _ else if c y x = 0 then y :: _ else _) = l
  rw [if_neg (by omega), if_pos h0, ← drop_at hy, List.take_append_drop]
theorem insD_new {l : List α} {k : Nat} {y : α} (h : ∀ y ∈ l.take k, c y x < 0) (hy : l[k]? = some y) (h1 : ¬ c y x < 0) (h2 : c y x ≠ 0) : insD c l x = l.take k ++ [x] ++ l.drop k := by
  rw [insD_at h, drop_at hy]
  show l.take k ++ (if c y x < 0 then _ else if c y x = 0 then _ else x :: y :: _) = _
  rw [if_neg h1, if_neg h2, List.append_assoc]; rfl
theorem insD_le1 : ∀ {l : List α}, (insD c l x).length ≤ l.length + 1
  | [] => Nat.le_refl _
  | y :: l => by
    show (if c y x < 0 then y :: insD c l x else if c y x = 0 then y :: l else x :: y :: l).length ≤ _
    have := insD_le1 (l := l)
    split
    · simp only [List.length_cons]; omega
    · split <;> simp only [List.length_cons] <;> omega
theorem insD_sub : ∀ {l : List α} {z : α}, z ∈ insD c l x → z ∈ l ∨ z = x
  | [], z, h => .inr (List.mem_singleton.1 h)
  | y :: l, z, h => by
    have h : z ∈ (if c y x < 0 then y :: insD c l x else if c y x = 0 then y :: l else x :: y :: l) := h
    split at h
    · rcases List.mem_cons.1 h with rfl | h
      · exact .inl (List.mem_cons_self ..)
      · rcases insD_sub h with h | h
        · exact .inl (List.mem_cons_of_mem _ h)
        · exact .inr h
    · split at h
      · exact .inl h
      · rcases List.mem_cons.1 h with rfl | h
        · exact .inr rfl
        · exact .inl h
theorem sortD_step {l : List α} {i : Nat} (h : l[i]? = some x) : sortD c (l.take (i + 1)) = insD c (sortD c (l.take i)) x := by
  unfold sortD
  rw [take_step2 h, List.foldl_append]; rfl
theorem sortD_small {l : List α} : ∀ i, (sortD c (l.take i)).length ≤ i ∧ ∀ z ∈ sortD c (l.take i), z ∈ l
  | 0 => ⟨Nat.le_refl _, fun z hz => by cases hz⟩
  | i + 1 => by
    obtain ⟨h1, h2⟩ := sortD_small (l := l) i
    by_cases hi : i < l.length
    · obtain ⟨y, hy⟩ := at_of hi
      rw [sortD_step hy]
      have := insD_le1 (c := c) (x := y) (l := sortD c (l.take i))
      refine ⟨by omega, fun z hz => ?_⟩
      rcases insD_sub hz with hz | rfl
      · exact h2 z hz
      · exact List.mem_of_getElem? hy
    · rw [List.take_of_length_le (by omega)] at h1 h2 ⊢
      exact ⟨by omega, h2⟩
end
theorem r_Sorted {G : Cx} (hG : Plain G) {K : KP} {ls : List XG} {v : AV} (hl : HasS K 4 (RG K) ls v) (hRs : ∀ x ∈ ls, FewZ x) (hn : ls.length ≤ 1000) {σ : AHeap} {L : Own} (hst : St σ K L) :
    EvCall Tryz.prog G 8 [v] σ fun u σ' => ∃ K', KP.le K K' ∧ HasS K' 4 (RG K') (sortD cmpG ls) u ∧ St σ' K' L := by
  refine ev_body hG Tryz.func8 rfl (t := PT.leaf.put (some (v)) 0) (by rfl) ?_
  refine ev_seq ?_
  refine ev_region rfl ?_
  refine evOps_val rfl (x_assign rfl) rfl ?_
  refine evOps_nil ?_
  refine thenQ_normal ?_
  refine ev_seq ?_
  refine ev_region rfl ?_
  refine evOps_val rfl (x_assign rfl) rfl ?_
  refine evOps_nil ?_
  refine thenQ_normal ?_
  refine ev_seq ?_
  refine ev_seq ?_
  refine ev_region rfl ?_
  refine evOps_val rfl (x_assign rfl) rfl ?_
  refine evOps_nil ?_
  refine thenQ_normal ?_
  refine ev_block ?_
  refine ev_loopW [3, 4, 5, 6, 7, 8, 9, 10, 11, 12, 13, 14, 15, 16, 17, 18, 19, 20, 21, 22, 23, 24, 25, 26, 27, 28, 29, 30, 31, 32, 33, 34, 35, 36, 37, 38, 39, 40, 41, 42, 43, 44, 45, 46, 47, 48, 49, 50, 51, 52, 53, 54, 55, 56, 57, 58, 59, 60, 61, 62] (fun j t σ => ∃ (i : Nat) (K3 : KP) (u : AV) (M : Own), (j + i = ls.length ∧ KP.le K K3 ∧ OwnT 4 41 (RG K3) (sortD cmpG (ls.take i)) u M) ∧ t.get 3 = some (u) ∧ t.get 4 = some (.int .i64 (.ofNat i)) ∧ St σ K3 (M ++ L)) (ls.length) ⟨0, K, .nilSlice, [], ⟨rfl, KP.le_refl _, .inl ⟨rfl, rfl, rfl⟩⟩, rfl, rfl, hst⟩ ?_
  clear hst; intro j3 t σ hoff hI; obtain ⟨i, K3, u, M, ⟨hj3, hle3, hO⟩, hv3, hv4, hst⟩ := hI
  replace hoff := hoff.ex8 rfl rfl; obtain ⟨o3, o4, o5, o6, o7, o8, o9, o10, hoff⟩ := hoff
  replace hoff := hoff.ex8 rfl rfl; obtain ⟨o11, o12, o13, o14, o15, o16, o17, o18, hoff⟩ := hoff
  replace hoff := hoff.ex8 rfl rfl; obtain ⟨o19, o20, o21, o22, o23, o24, o25, o26, hoff⟩ := hoff
  replace hoff := hoff.ex8 rfl rfl; obtain ⟨o27, o28, o29, o30, o31, o32, o33, o34, hoff⟩ := hoff
  replace hoff := hoff.ex8 rfl rfl; obtain ⟨o35, o36, o37, o38, o39, o40, o41, o42, hoff⟩ := hoff
  replace hoff := hoff.ex8 rfl rfl; obtain ⟨o43, o44, o45, o46, o47, o48, o49, o50, hoff⟩ := hoff
  replace hoff := hoff.ex8 rfl rfl; obtain ⟨o51, o52, o53, o54, o55, o56, o57, o58, hoff⟩ := hoff
  replace hoff := hoff.ex4 rfl; obtain ⟨o59, o60, o61, o62, hoff⟩ := hoff
  obtain rfl := hoff.nil; clear hoff
  replace hv3 : o3 = some _ := hv3; subst hv3
  replace hv4 : o4 = some _ := hv4; subst hv4
  refine ev_seq ?_
  refine ev_seq ?_
  refine ev_region rfl ?_
  have hl3 := hl.mono hle3 fun _ _ h => h.mono hle3
  refine evOps_val rfl (x_move rfl) rfl ?_
  refine evOps_val rfl (x_move rfl) rfl ?_
  refine evOps_val rfl (x_len' hl3 rfl rfl rfl (e := 41) (by kernel_rfl) rfl) rfl ?_
  refine evOps_val rfl (x_bin rfl rfl rfl) rfl ?_
  refine evOps_nil ?_
  refine thenQ_normal ?_
  refine ev_cond2 rfl (fun h10 => ?_) (fun h10 => ?_)
  · skip
    refine ev_skip ?_
    refine thenQ_normal ?_
    refine ev_seq ?_
    refine ev_block ?_
    refine ev_seq ?_
    refine ev_region rfl ?_
    have hil := lt_yes h10; obtain ⟨hsl, hsm⟩ := sortD_small (c := cmpG) (l := ls) i; obtain ⟨xi, hxi⟩ := at_of hil; have hRi := hRs _ (List.mem_of_getElem? hxi)
    have hst0 := hst; have hle4 := KP.le_adds K3 M; have hrl0 : HasS (K3.adds M) 4 (RG K3) (sortD cmpG (ls.take i)) u := hO.hasS fun e he => .inr he; have hrl := hrl0.monoR fun _ _ h => h.mono hle4; have hl4 := hl3.mono hle4 fun _ _ h => h.mono hle4
    replace hst := hst.keeps
    refine evOps_val rfl (x_assign rfl) rfl ?_
    refine evOps_nil ?_
    refine thenQ_normal ?_
    refine ev_seq ?_
    refine ev_block ?_
    refine ev_loopW [5, 13, 14, 15, 16, 17, 18, 19, 20, 21, 22, 23, 24, 25, 26, 27, 28, 29, 30] (fun j t σ => ∃ (q : Nat), (j + q = (sortD cmpG (ls.take i)).length ∧ ∀ y ∈ (sortD cmpG (ls.take i)).take q, cmpG y xi < 0) ∧ t.get 5 = some (.int .i64 (.ofNat q)) ∧ St σ (K3.adds M) (L)) ((sortD cmpG (ls.take i)).length) ⟨0, ⟨rfl, fun y hy => by simp at hy⟩, rfl, hst⟩ ?_
    clear hst; intro j6 t σ hoff hI; obtain ⟨q, ⟨hj6, hlow⟩, hv5, hst⟩ := hI
    replace hoff := hoff.ex8 rfl rfl; obtain ⟨o5, o13, o14, o15, o16, o17, o18, o19, hoff⟩ := hoff
    replace hoff := hoff.ex8 rfl rfl; obtain ⟨o20, o21, o22, o23, o24, o25, o26, o27, hoff⟩ := hoff
    replace hoff := hoff.ex1 rfl; obtain ⟨o28, hoff⟩ := hoff
    replace hoff := hoff.ex1 rfl; obtain ⟨o29, hoff⟩ := hoff
    replace hoff := hoff.ex1 rfl; obtain ⟨o30, hoff⟩ := hoff
    obtain rfl := hoff.nil; clear hoff
    replace hv5 : o5 = some _ := hv5; subst hv5
    refine ev_seq ?_
    refine ev_seq ?_
    refine ev_region_plan (l := [(0, []), (1, []), (2, []), (3, []), (4, []), (5, []), (6, []), (7, []), (8, []), (9, []), (10, []), (11, []), (12, []), (13, []), (14, []), (15, [])]) (by kernel_rfl) (by kernel_rfl) ?_
    refine evPlan_val rfl rfl (x_move rfl) rfl ?_
    refine evPlan_val rfl rfl (x_move rfl) rfl ?_
    refine evPlan_val rfl rfl (x_len' hrl rfl rfl rfl (e := 41) (by kernel_rfl) rfl) rfl ?_
    refine evPlan_val rfl rfl (x_bin rfl rfl rfl) rfl ?_
    refine p_split rfl rfl (x_move rfl) (fun _ => rfl) (fun h17 => ?_) (fun h17 => ?_)
    · skip
      refine evPlan_val rfl rfl (x_move rfl) rfl ?_
      refine evPlan_val rfl rfl (x_move rfl) rfl ?_
      obtain ⟨x20, hx20, hi20⟩ := at_lt h17
      refine p_idx (e := 41) (m := 4) hrl hx20 rfl rfl rfl (by kernel_rfl) (by kernel_rfl) rfl rfl (fun _ => rfl) (fun p20 vs20 hp20 hl20 hr20 => ?_)
      have hr20' := hr20; obtain ⟨a20, b20, c20, d20, rfl, hg20⟩ := hr20'
      refine evPlan_val rfl rfl (x_ploadW hst hp20 rfl (by kernel_rfl) rfl) rfl ?_
      refine evPlan_val rfl rfl (x_move rfl) rfl ?_
      refine evPlan_val rfl rfl (x_move rfl) rfl ?_
      refine p_idx (e := 41) (m := 4) hl4 hxi rfl rfl rfl (by kernel_rfl) (by kernel_rfl) rfl rfl (fun _ => rfl) (fun p24 vs24 hp24 hl24 hr24 => ?_)
      have hr24' := hr24; obtain ⟨a24, b24, c24, d24, rfl, hg24⟩ := hr24'
      refine evPlan_val rfl rfl (x_ploadW hst hp24 rfl (by kernel_rfl) rfl) rfl ?_
      refine p_callV rfl rfl (x_call rfl rfl rfl (by kernel_rfl)) (fun _ => rfl) (r_Compare hG hg20 hg24 (hRs _ (hsm _ (List.mem_of_getElem? hx20))) hRi hst) (fun σ hst => ?_)
      refine ⟨still_nil, ?_⟩
      refine evPlan_val rfl rfl (x_bin rfl rfl rfl) rfl ?_
      refine evPlan_val rfl rfl (x_pick rfl rfl) rfl ?_
      refine evPlan_nil ?_
      refine thenQ_normal ?_
      refine ev_cond2 rfl (fun h28 => ?_) (fun h28 => ?_)
      · skip
        refine ev_skip ?_
        refine thenQ_normal ?_
        refine ev_block ?_
        refine ev_region rfl ?_
        refine evOps_val rfl (x_move rfl) rfl ?_
        refine evOps_val rfl (x_bin (v := .int .i64 (.ofNat (q + 1))) rfl rfl (congrArg (fun z => some (AV.int .i64 z)) (wr_succ (by have := lt_yes h17; omega)))) rfl ?_
        refine evOps_val rfl (x_assign rfl) rfl ?_
        refine evOps_nil ?_
        refine blockQ_normal ?_
        refine loopQ_normal ⟨j6 - 1, (by have := lt_yes h17; omega), (by (iterate 38 refine OffW.put rfl ?_); exact OffW.refl _ _), q + 1, ⟨by have := lt_yes h17; omega, fun y hy => by
            rw [take_step2 hx20] at hy
            rcases List.mem_append.1 hy with hy | hy
            · exact hlow y hy
            · rw [List.mem_singleton.1 hy]; exact ltI_lt h28⟩, rfl, hst⟩
      · skip
        refine ev_exit ?_
        refine thenQ_exit ?_
        refine loopQ_exit ?_
        refine blockQ_exit ?_
        refine thenQ_normal ?_
        refine ev_seq ?_
        refine ev_seq ?_
        refine ev_region_plan (l := [(0, []), (1, []), (2, []), (3, []), (4, []), (5, []), (6, []), (7, []), (8, []), (9, []), (10, []), (11, []), (12, []), (13, []), (14, [])]) (by kernel_rfl) (by kernel_rfl) ?_
        refine evPlan_val rfl rfl (x_move rfl) rfl ?_
        refine evPlan_val rfl rfl (x_move rfl) rfl ?_
        refine evPlan_val rfl rfl (x_len' hrl rfl rfl rfl (e := 41) (by kernel_rfl) rfl) rfl ?_
        refine evPlan_val rfl rfl (x_bin rfl rfl rfl) rfl ?_
        refine p_split rfl rfl (x_move rfl) (fun _ => rfl) (fun h35 => ?_) (fun h35 => ?_)
        · skip
          refine evPlan_val rfl rfl (x_move rfl) rfl ?_
          refine evPlan_val rfl rfl (x_move rfl) rfl ?_
          obtain ⟨x38, hx38, hi38⟩ := at_lt h35
          refine p_idx (e := 41) (m := 4) hrl hx38 rfl rfl rfl (by kernel_rfl) (by kernel_rfl) rfl rfl (fun _ => rfl) (fun p38 vs38 hp38 hl38 hr38 => ?_)
          have hr38' := hr38; obtain ⟨a38, b38, c38, d38, rfl, hg38⟩ := hr38'
          refine evPlan_val rfl rfl (x_ploadW hst hp38 rfl (by kernel_rfl) rfl) rfl ?_
          refine evPlan_val rfl rfl (x_move rfl) rfl ?_
          refine evPlan_val rfl rfl (x_move rfl) rfl ?_
          refine p_idx (e := 41) (m := 4) hl4 hxi rfl rfl rfl (by kernel_rfl) (by kernel_rfl) rfl rfl (fun _ => rfl) (fun p42 vs42 hp42 hl42 hr42 => ?_)
          have hr42' := hr42; obtain ⟨a42, b42, c42, d42, rfl, hg42⟩ := hr42'
          refine evPlan_val rfl rfl (x_ploadW hst hp42 rfl (by kernel_rfl) rfl) rfl ?_
          refine p_callV rfl rfl (x_call rfl rfl rfl (by kernel_rfl)) (fun _ => rfl) (r_SameG hG hg38 hg42 (hRs _ (hsm _ (List.mem_of_getElem? hx38))) hRi hst) (fun σ hst => ?_)
          refine ⟨still_nil, ?_⟩
          refine evPlan_val rfl rfl (x_pick rfl rfl) rfl ?_
          refine evPlan_nil ?_
          refine thenQ_normal ?_
          refine ev_cond2 rfl (fun h45 => ?_) (fun h45 => ?_)
          · skip
            refine ev_exit ?_
            refine thenQ_exit ?_
            refine blockQ_exit ?_
            refine thenQ_normal ?_
            refine ev_region rfl ?_
            replace hst := St.unkeeps hst0 hst
            refine evOps_val rfl (x_move rfl) rfl ?_
            refine evOps_val rfl (x_bin (v := .int .i64 (.ofNat (i + 1))) rfl rfl (congrArg (fun z => some (AV.int .i64 z)) (wr_succ (by omega)))) rfl ?_
            refine evOps_val rfl (x_assign rfl) rfl ?_
            refine evOps_nil ?_
            refine loopQ_normal ⟨j3 - 1, (by have := lt_yes h10; omega), (by (iterate 118 refine OffW.put rfl ?_); exact OffW.refl _ _), i + 1, K3, u, M, ⟨by omega, hle3, by rw [sortD_step hxi, insD_same hlow hx38 (eqC_eq0 h45)]; exact hO⟩, rfl, rfl, hst⟩
          · skip
            refine ev_skip ?_
            refine thenQ_normal ?_
            refine ev_seq ?_
            refine ev_region rfl ?_
            refine o_mk hst rfl (x_buildS (e := 41) (m := 4) (z := [.nilSlice, .nilSlice, .nilSlice, .nilSlice]) (cs := []) (by kernel_rfl) (by kernel_rfl) (by kernel_rfl) (by kernel_rfl) fillA_nil) (fun _ => rfl) (fun σ b46 hst => ?_)
            replace hst : St σ _ ([(b46, .row [] 41 false)] ++ _) := hst
            refine evOps_val rfl (x_move rfl) rfl ?_
            refine evOps_val rfl (x_move rfl) rfl ?_
            have hkq : q ≤ (sortD cmpG (ls.take i)).length := (Nat.le_of_lt (lt_yes h35))
            refine o_sliceFrom (e := 41) (m := 4) (k := q) hrl0 hkq rfl rfl (by kernel_rfl) (by kernel_rfl) rfl rfl (fun _ => rfl) (fun w49 hw49 => ?_)
            refine o_appK (R := RG K3) (m := 4) (e := 41) OwnS.empty hst hw49 RG.leaf (by rw [List.length_drop]; show 0 + _ ≤ _; omega) rfl rfl rfl rfl rfl rfl rfl (fun _ => rfl) (fun σ u50 M50 hM50 hst => ?_)
            refine evOps_val rfl (x_assign rfl) rfl ?_
            refine evOps_nil ?_
            refine thenQ_normal ?_
            refine ev_region_plan (l := [(0, []), (1, []), (2, []), (3, []), (4, []), (5, []), (6, []), (10, []), (7, []), (8, []), (9, []), (11, []), (12, [])]) (by kernel_rfl) (by kernel_rfl) ?_
            replace hst := St.unkeepsG hst0 hst; replace hst := hst.perm (perm_sw ..)
            obtain ⟨K5, hle5, hmem, hst⟩ := hst.keeps_ex (M := M50)
            have hs50 := (hM50.hasS (K := K5) hmem); clear hmem; have hl5 := hl3.mono hle5 fun _ _ h => h.mono hle5
            obtain ⟨u53, hO53, hs53⟩ := hO.take2 hkq
            refine evPlan_val rfl rfl (x_move rfl) rfl ?_
            refine evPlan_val rfl rfl (x_move rfl) rfl ?_
            refine evPlan_val rfl rfl (x_pure rfl (hs53 (by kernel_rfl) (by kernel_rfl) rfl rfl)) rfl ?_
            refine evPlan_val rfl rfl (x_move rfl) rfl ?_
            refine evPlan_val rfl rfl (x_move rfl) rfl ?_
            refine p_idx (e := 41) (m := 4) hl5 hxi rfl rfl rfl (by kernel_rfl) (by kernel_rfl) rfl rfl (fun _ => rfl) (fun p56 vs56 hp56 hl56 hr56 => ?_)
            have hr56' := hr56; obtain ⟨a56, b56, c56, d56, rfl, hg56⟩ := hr56'
            refine evPlan_val rfl rfl (x_ploadW hst hp56 rfl (by kernel_rfl) rfl) rfl ?_
            refine evPlan_val rfl rfl (x_move rfl) rfl ?_
            refine p_call rfl rfl (x_call rfl rfl rfl (by kernel_rfl)) (fun _ => rfl) (d_Copy hG hg56 (few_ofZ hRi) hst) ?_
            rintro _ σ ⟨u0, M0, u1, us1, O1, I1, u2, us2, O2, I2, u3, us3, O3, I3, rfl, hD, hst⟩
            refine ⟨still_nil, ?_⟩
            replace hst := hst.perm (perm_cp ..)
            obtain ⟨K6, hle6, hmem, hst⟩ := hst.keeps_ex (M := O3 ++ (I3 ++ (O2 ++ (I2 ++ (O1 ++ (I1 ++ M0))))))
            have hgc := hD.hasG (K := K6) hmem; clear hmem
            refine p_mk hst rfl rfl (x_buildS (e := 41) (m := 4) (z := [.nilSlice, .nilSlice, .nilSlice, .nilSlice]) (cs := [_, _, _, _]) (by kernel_rfl) (by kernel_rfl) (by kernel_rfl) (by kernel_rfl) (fillA_cons rfl rfl (cells4G hgc.init.leaf hgc.threads.leaf hgc.from_.leaf hgc.order.leaf).1 rfl fillA_nil)) (fun _ => rfl) (fun σ b59 hst => ?_)
            obtain ⟨K7, hle7, hmem, hst⟩ := hst.keeps_ex (M := [_])
            have hs59 : HasS K7 4 (RG K7) [xi] (.slice b59 0 1 (.known 1)) := has_one (m := 4) rfl ⟨_, _, _, _, rfl, hgc.mono hle7⟩ (hmem _ (.head _)); clear hmem
            have hle37 := KP.le_trans hle5 (KP.le_trans hle6 hle7)
            refine p_appT (R := RG K7) (m := 4) (e := 41) (hO53.monoR fun _ _ h => h.mono hle37) hst hs59 RG.leaf (by simp) (by rw [List.length_take]; omega) rfl rfl rfl rfl rfl rfl rfl rfl (fun _ => rfl) (fun σ u60 M60 hO60 hst => ?_)
            refine ⟨still_nil, ?_⟩
            refine p_appT (R := RG K7) (m := 4) (e := 41) hO60 hst (hs50.mono (KP.le_trans hle6 hle7) fun _ _ h => h.mono hle37) RG.leaf (by simp only [List.nil_append, List.length_drop]; omega) (by rw [List.length_append, List.length_take]; simp only [List.length_cons, List.length_nil]; omega) rfl rfl rfl rfl rfl rfl rfl rfl (fun _ => rfl) (fun σ u62 M62 hO62 hst => ?_)
            refine ⟨still_nil, ?_⟩
            refine evPlan_val rfl rfl (x_assign rfl) rfl ?_
            refine evPlan_nil ?_
            refine blockQ_normal ?_
            refine thenQ_normal ?_
            refine ev_region rfl ?_
            refine evOps_val rfl (x_move rfl) rfl ?_
            refine evOps_val rfl (x_bin (v := .int .i64 (.ofNat (i + 1))) rfl rfl (congrArg (fun z => some (AV.int .i64 z)) (wr_succ (by omega)))) rfl ?_
            refine evOps_val rfl (x_assign rfl) rfl ?_
            refine evOps_nil ?_
            refine loopQ_normal ⟨j3 - 1, (by have := lt_yes h10; omega), (by (iterate 137 refine OffW.put rfl ?_); exact OffW.refl _ _), i + 1, K7, u62, M62, ⟨by omega, KP.le_trans hle3 hle37, by rw [sortD_step hxi, insD_new hlow hx38 (by rw [← Option.some.inj (hx20.symm.trans hx38)]; exact ltI_nlt h28) (eqC_ne h45)]; exact hO62⟩, rfl, rfl, hst⟩
        · skip
          exact absurd (h35.symm.trans h17) (by decide)
    · skip
      refine evPlan_unwanted rfl rfl rfl ?_
      refine evPlan_unwanted rfl rfl rfl ?_
      refine evPlan_unwanted rfl rfl rfl ?_
      refine evPlan_unwanted rfl rfl rfl ?_
      refine evPlan_unwanted rfl rfl rfl ?_
      refine evPlan_unwanted rfl rfl rfl ?_
      refine evPlan_unwanted rfl rfl rfl ?_
      refine evPlan_unwanted rfl rfl rfl ?_
      refine evPlan_unwanted rfl rfl rfl ?_
      refine evPlan_unwanted rfl rfl rfl ?_
      refine evPlan_val rfl rfl (x_pick rfl rfl) rfl ?_
      refine evPlan_nil ?_
      refine thenQ_normal ?_
      refine ev_cond_false rfl ?_
      refine ev_exit ?_
      refine thenQ_exit ?_
      refine loopQ_exit ?_
      refine blockQ_exit ?_
      refine thenQ_normal ?_
      refine ev_seq ?_
      refine ev_seq ?_
      refine ev_region_plan (l := [(0, []), (1, []), (2, []), (3, []), (4, []), (5, []), (6, []), (7, []), (8, []), (9, []), (10, []), (11, []), (12, []), (13, []), (14, [])]) (by kernel_rfl) (by kernel_rfl) ?_
      refine evPlan_val rfl rfl (x_move rfl) rfl ?_
      refine evPlan_val rfl rfl (x_move rfl) rfl ?_
      refine evPlan_val rfl rfl (x_len' hrl rfl rfl rfl (e := 41) (by kernel_rfl) rfl) rfl ?_
      refine evPlan_val rfl rfl (x_bin rfl rfl rfl) rfl ?_
      refine p_split rfl rfl (x_move rfl) (fun _ => rfl) (fun h35 => ?_) (fun h35 => ?_)
      · skip
        exact absurd (h17.symm.trans h35) (by decide)
      · skip
        refine evPlan_unwanted rfl rfl rfl ?_
        refine evPlan_unwanted rfl rfl rfl ?_
        refine evPlan_unwanted rfl rfl rfl ?_
        refine evPlan_unwanted rfl rfl rfl ?_
        refine evPlan_unwanted rfl rfl rfl ?_
        refine evPlan_unwanted rfl rfl rfl ?_
        refine evPlan_unwanted rfl rfl rfl ?_
        refine evPlan_unwanted rfl rfl rfl ?_
        refine evPlan_unwanted rfl rfl rfl ?_
        refine evPlan_val rfl rfl (x_pick rfl rfl) rfl ?_
        refine evPlan_nil ?_
        refine thenQ_normal ?_
        refine ev_cond_false rfl ?_
        refine ev_skip ?_
        refine thenQ_normal ?_
        refine ev_seq ?_
        refine ev_region rfl ?_
        refine o_mk hst rfl (x_buildS (e := 41) (m := 4) (z := [.nilSlice, .nilSlice, .nilSlice, .nilSlice]) (cs := []) (by kernel_rfl) (by kernel_rfl) (by kernel_rfl) (by kernel_rfl) fillA_nil) (fun _ => rfl) (fun σ b46 hst => ?_)
        replace hst : St σ _ ([(b46, .row [] 41 false)] ++ _) := hst
        refine evOps_val rfl (x_move rfl) rfl ?_
        refine evOps_val rfl (x_move rfl) rfl ?_
        have hkl := lt_no h17
        have hkq : q ≤ (sortD cmpG (ls.take i)).length := (by omega)
        refine o_sliceFrom (e := 41) (m := 4) (k := q) hrl0 hkq rfl rfl (by kernel_rfl) (by kernel_rfl) rfl rfl (fun _ => rfl) (fun w49 hw49 => ?_)
        refine o_appK (R := RG K3) (m := 4) (e := 41) OwnS.empty hst hw49 RG.leaf (by rw [List.length_drop]; show 0 + _ ≤ _; omega) rfl rfl rfl rfl rfl rfl rfl (fun _ => rfl) (fun σ u50 M50 hM50 hst => ?_)
        refine evOps_val rfl (x_assign rfl) rfl ?_
        refine evOps_nil ?_
        refine thenQ_normal ?_
        refine ev_region_plan (l := [(0, []), (1, []), (2, []), (3, []), (4, []), (5, []), (6, []), (10, []), (7, []), (8, []), (9, []), (11, []), (12, [])]) (by kernel_rfl) (by kernel_rfl) ?_
        replace hst := St.unkeepsG hst0 hst; replace hst := hst.perm (perm_sw ..)
        obtain ⟨K5, hle5, hmem, hst⟩ := hst.keeps_ex (M := M50)
        have hs50 := (hM50.hasS (K := K5) hmem); clear hmem; have hl5 := hl3.mono hle5 fun _ _ h => h.mono hle5
        obtain ⟨u53, hO53, hs53⟩ := hO.take2 hkq
        refine evPlan_val rfl rfl (x_move rfl) rfl ?_
        refine evPlan_val rfl rfl (x_move rfl) rfl ?_
        refine evPlan_val rfl rfl (x_pure rfl (hs53 (by kernel_rfl) (by kernel_rfl) rfl rfl)) rfl ?_
        refine evPlan_val rfl rfl (x_move rfl) rfl ?_
        refine evPlan_val rfl rfl (x_move rfl) rfl ?_
        refine p_idx (e := 41) (m := 4) hl5 hxi rfl rfl rfl (by kernel_rfl) (by kernel_rfl) rfl rfl (fun _ => rfl) (fun p56 vs56 hp56 hl56 hr56 => ?_)
        have hr56' := hr56; obtain ⟨a56, b56, c56, d56, rfl, hg56⟩ := hr56'
        refine evPlan_val rfl rfl (x_ploadW hst hp56 rfl (by kernel_rfl) rfl) rfl ?_
        refine evPlan_val rfl rfl (x_move rfl) rfl ?_
        refine p_call rfl rfl (x_call rfl rfl rfl (by kernel_rfl)) (fun _ => rfl) (d_Copy hG hg56 (few_ofZ hRi) hst) ?_
        rintro _ σ ⟨u0, M0, u1, us1, O1, I1, u2, us2, O2, I2, u3, us3, O3, I3, rfl, hD, hst⟩
        refine ⟨still_nil, ?_⟩
        replace hst := hst.perm (perm_cp ..)
        obtain ⟨K6, hle6, hmem, hst⟩ := hst.keeps_ex (M := O3 ++ (I3 ++ (O2 ++ (I2 ++ (O1 ++ (I1 ++ M0))))))
        have hgc := hD.hasG (K := K6) hmem; clear hmem
        refine p_mk hst rfl rfl (x_buildS (e := 41) (m := 4) (z := [.nilSlice, .nilSlice, .nilSlice, .nilSlice]) (cs := [_, _, _, _]) (by kernel_rfl) (by kernel_rfl) (by kernel_rfl) (by kernel_rfl) (fillA_cons rfl rfl (cells4G hgc.init.leaf hgc.threads.leaf hgc.from_.leaf hgc.order.leaf).1 rfl fillA_nil)) (fun _ => rfl) (fun σ b59 hst => ?_)
        obtain ⟨K7, hle7, hmem, hst⟩ := hst.keeps_ex (M := [_])
        have hs59 : HasS K7 4 (RG K7) [xi] (.slice b59 0 1 (.known 1)) := has_one (m := 4) rfl ⟨_, _, _, _, rfl, hgc.mono hle7⟩ (hmem _ (.head _)); clear hmem
        have hle37 := KP.le_trans hle5 (KP.le_trans hle6 hle7)
        refine p_appT (R := RG K7) (m := 4) (e := 41) (hO53.monoR fun _ _ h => h.mono hle37) hst hs59 RG.leaf (by simp) (by rw [List.length_take]; omega) rfl rfl rfl rfl rfl rfl rfl rfl (fun _ => rfl) (fun σ u60 M60 hO60 hst => ?_)
        refine ⟨still_nil, ?_⟩
        refine p_appT (R := RG K7) (m := 4) (e := 41) hO60 hst (hs50.mono (KP.le_trans hle6 hle7) fun _ _ h => h.mono hle37) RG.leaf (by simp only [List.nil_append, List.length_drop]; omega) (by rw [List.length_append, List.length_take]; simp only [List.length_cons, List.length_nil]; omega) rfl rfl rfl rfl rfl rfl rfl rfl (fun _ => rfl) (fun σ u62 M62 hO62 hst => ?_)
        refine ⟨still_nil, ?_⟩
        refine evPlan_val rfl rfl (x_assign rfl) rfl ?_
        refine evPlan_nil ?_
        refine blockQ_normal ?_
        refine thenQ_normal ?_
        refine ev_region rfl ?_
        refine evOps_val rfl (x_move rfl) rfl ?_
        refine evOps_val rfl (x_bin (v := .int .i64 (.ofNat (i + 1))) rfl rfl (congrArg (fun z => some (AV.int .i64 z)) (wr_succ (by omega)))) rfl ?_
        refine evOps_val rfl (x_assign rfl) rfl ?_
        refine evOps_nil ?_
        refine loopQ_normal ⟨j3 - 1, (by have := lt_yes h10; omega), (by (iterate 137 refine OffW.put rfl ?_); exact OffW.refl _ _), i + 1, K7, u62, M62, ⟨by omega, KP.le_trans hle3 hle37, by rw [sortD_step hxi, insD_end hlow hkl]; exact hO62⟩, rfl, rfl, hst⟩
  · skip
    refine ev_exit ?_
    refine thenQ_exit ?_
    refine loopQ_exit ?_
    refine blockQ_exit ?_
    refine thenQ_normal ?_
    refine ev_seq ?_
    refine ev_region rfl ?_
    refine evOps_val rfl (x_move rfl) rfl ?_
    refine evOps_val rfl (x_assign rfl) rfl ?_
    refine evOps_nil ?_
    refine thenQ_normal ?_
    refine ev_ret ?_
    have hin := lt_no h10
    exact end_ret1 rfl rfl ⟨K3.adds M, KP.le_trans hle3 (KP.le_adds _ _), by rw [← List.take_of_length_le (l := ls) hin]; exact (hO.hasS fun e he => .inr he).monoR fun _ _ h => h.mono (KP.le_adds _ _), hst.keeps⟩
section
variable {H : Type} {σ : AHeap}
def toXId (d : DataW H) : XId := ⟨litI (partD d 0), litI (partD d 1)⟩
def toXEv (d : DataW H) : XEv := ⟨litI (partD d 0), litI (partD d 1), litI (partD d 2), litI (partD d 3), litI (partD d 4)⟩
def toXG (d : DataW H) : XG := ⟨(elemsD (partD d 0)).map litI, (elemsD (partD d 1)).map fun r => (elemsD r).map toXEv, (elemsD (partD d 2)).map fun r => (elemsD r).map toXId, (elemsD (partD d 3)).map fun r => (elemsD r).map toXId⟩
theorem rId_of {fuel : Nat} {d : DataW H} {vs : List AV} (hf : Fit Tryz.prog (fuel + 2) 81 d) (hd : HasD Tryz.prog σ (fuel + 2) 81 d vs) : RId (toXId d) vs := by
  obtain ⟨hl, h⟩ := struct_of (m := 2) Tryz.underlying81 (by kernel_rfl) (by kernel_rfl) hf hd
  obtain ⟨a, b, rfl⟩ : ∃ a b, vs = [a, b] := by
    match vs, hl with
    | [a, b], _ => exact ⟨a, b, rfl⟩
  obtain ⟨f0, d0⟩ : Fit Tryz.prog _ 3 (partD d 0) ∧ HasD Tryz.prog σ _ 3 (partD d 0) (([a, b].drop 0).take (Tryz.prog.cellsOf 3)) := h 0 _ rfl
  obtain ⟨f1, d1⟩ : Fit Tryz.prog _ 3 (partD d 1) ∧ HasD Tryz.prog σ _ 3 (partD d 1) (([a, b].drop 1).take (Tryz.prog.cellsOf 3)) := h 1 _ rfl
  have c3 : Tryz.prog.cellsOf 3 = 1 := by kernel_rfl
  have e0 := (int_of Tryz.underlying3 f0 d0).1
  have e1 := (int_of Tryz.underlying3 f1 d1).1
  rw [c3] at e0 e1
  simp only [List.drop_zero, List.take_succ_cons, List.take_zero, List.drop_succ_cons, List.cons.injEq, and_true] at e0 e1
  subst e0; subst e1
  rfl
theorem rEv_of {fuel : Nat} {d : DataW H} {vs : List AV} (hf : Fit Tryz.prog (fuel + 2) 78 d) (hd : HasD Tryz.prog σ (fuel + 2) 78 d vs) : REv (toXEv d) vs := by
  obtain ⟨hl, h⟩ := struct_of (m := 5) Tryz.underlying78 (by kernel_rfl) (by kernel_rfl) hf hd
  obtain ⟨a, b, c, e, g, rfl⟩ : ∃ a b c e g, vs = [a, b, c, e, g] := by
    match vs, hl with
    | [a, b, c, e, g], _ => exact ⟨a, b, c, e, g, rfl⟩
  obtain ⟨f0, d0⟩ : Fit Tryz.prog _ 3 (partD d 0) ∧ HasD Tryz.prog σ _ 3 (partD d 0) (([a, b, c, e, g].drop 0).take (Tryz.prog.cellsOf 3)) := h 0 _ rfl
  obtain ⟨f1, d1⟩ : Fit Tryz.prog _ 3 (partD d 1) ∧ HasD Tryz.prog σ _ 3 (partD d 1) (([a, b, c, e, g].drop 1).take (Tryz.prog.cellsOf 3)) := h 1 _ rfl
  obtain ⟨f2, d2⟩ : Fit Tryz.prog _ 3 (partD d 2) ∧ HasD Tryz.prog σ _ 3 (partD d 2) (([a, b, c, e, g].drop 2).take (Tryz.prog.cellsOf 3)) := h 2 _ rfl
  obtain ⟨f3, d3⟩ : Fit Tryz.prog _ 2 (partD d 3) ∧ HasD Tryz.prog σ _ 2 (partD d 3) (([a, b, c, e, g].drop 3).take (Tryz.prog.cellsOf 2)) := h 3 _ rfl
  obtain ⟨f4, d4⟩ : Fit Tryz.prog _ 2 (partD d 4) ∧ HasD Tryz.prog σ _ 2 (partD d 4) (([a, b, c, e, g].drop 4).take (Tryz.prog.cellsOf 2)) := h 4 _ rfl
  have c3 : Tryz.prog.cellsOf 3 = 1 := by kernel_rfl
  have c2 : Tryz.prog.cellsOf 2 = 1 := by kernel_rfl
  have e0 := (int_of Tryz.underlying3 f0 d0).1
  have e1 := (int_of Tryz.underlying3 f1 d1).1
  have e2 := (int_of Tryz.underlying3 f2 d2).1
  have e3 := (int_of Tryz.underlying2 f3 d3).1
  have e4 := (int_of Tryz.underlying2 f4 d4).1
  rw [c3] at e0 e1 e2
  rw [c2] at e3 e4
  simp only [List.drop_zero, List.take_succ_cons, List.take_zero, List.drop_succ_cons, List.cons.injEq, and_true] at e0 e1 e2 e3 e4
  subst e0; subst e1; subst e2; subst e3; subst e4
  rfl
theorem hasG_data (hn : ∀ (b : Nat) (o : AObj), σ.m.get b = some o → b < σ.next) {fuel : Nat} {d : DataW H} {vs : List AV} (hf : Fit Tryz.prog (fuel + 5) 41 d) (hd : HasD Tryz.prog σ (fuel + 5) 41 d vs) : ∃ a b c e, vs = [a, b, c, e] ∧ HasG (KOf σ) (toXG d) a b c e := by
  obtain ⟨hl, h⟩ := struct_of (m := 4) Tryz.underlying41 (by kernel_rfl) (by kernel_rfl) hf hd
  obtain ⟨a, b, c, e, rfl⟩ : ∃ a b c e, vs = [a, b, c, e] := by
    match vs, hl with
    | [a, b, c, e], _ => exact ⟨a, b, c, e, rfl⟩
  obtain ⟨f0, d0⟩ : Fit Tryz.prog _ 34 (partD d 0) ∧ HasD Tryz.prog σ _ 34 (partD d 0) (([a, b, c, e].drop 0).take (Tryz.prog.cellsOf 34)) := h 0 _ rfl
  obtain ⟨f1, d1⟩ : Fit Tryz.prog _ 38 (partD d 1) ∧ HasD Tryz.prog σ _ 38 (partD d 1) (([a, b, c, e].drop 1).take (Tryz.prog.cellsOf 38)) := h 1 _ rfl
  obtain ⟨f2, d2⟩ : Fit Tryz.prog _ 39 (partD d 2) ∧ HasD Tryz.prog σ _ 39 (partD d 2) (([a, b, c, e].drop 2).take (Tryz.prog.cellsOf 39)) := h 2 _ rfl
  obtain ⟨f3, d3⟩ : Fit Tryz.prog _ 39 (partD d 3) ∧ HasD Tryz.prog σ _ 39 (partD d 3) (([a, b, c, e].drop 3).take (Tryz.prog.cellsOf 39)) := h 3 _ rfl
  have c39 : Tryz.prog.cellsOf 34 = 1 := by kernel_rfl
  have c40 : Tryz.prog.cellsOf 38 = 1 := by kernel_rfl
  have c41 : Tryz.prog.cellsOf 39 = 1 := by kernel_rfl
  have c2 : Tryz.prog.cellsOf 2 = 1 := by kernel_rfl
  obtain ⟨v0, e0, h0⟩ := slice_of (m := 1) litI RInt Tryz.underlying34 c2 (by decide) hn f0 d0 fun x vs hf hd => (int_of Tryz.underlying2 hf hd).1
  have rowE : ∀ (x : DataW H) (vs : List AV), Fit Tryz.prog (fuel + 3) 70 x → HasD Tryz.prog σ (fuel + 3) 70 x vs → RL (KOf σ) 5 REv ((elemsD x).map toXEv) vs := fun x vs hf hd =>
    slice_of (m := 5) toXEv REv Tryz.underlying70 (by kernel_rfl) (by decide) hn hf hd fun x vs hf hd => rEv_of hf hd
  have rowI : ∀ (x : DataW H) (vs : List AV), Fit Tryz.prog (fuel + 3) 71 x → HasD Tryz.prog σ (fuel + 3) 71 x vs → RL (KOf σ) 2 RId ((elemsD x).map toXId) vs := fun x vs hf hd =>
    slice_of (m := 2) toXId RId Tryz.underlying71 (by kernel_rfl) (by decide) hn hf hd fun x vs hf hd => rId_of hf hd
  obtain ⟨v1, e1, h1⟩ := slice_of (m := 1) (fun r => (elemsD r).map toXEv) (RL (KOf σ) 5 REv) Tryz.underlying38 (by kernel_rfl) (by decide) hn f1 d1 rowE
  obtain ⟨v2, e2, h2⟩ := slice_of (m := 1) (fun r => (elemsD r).map toXId) (RL (KOf σ) 2 RId) Tryz.underlying39 (by kernel_rfl) (by decide) hn f2 d2 rowI
  obtain ⟨v3, e3, h3⟩ := slice_of (m := 1) (fun r => (elemsD r).map toXId) (RL (KOf σ) 2 RId) Tryz.underlying39 (by kernel_rfl) (by decide) hn f3 d3 rowI
  rw [c39] at e0; rw [c40] at e1; rw [c41] at e2 e3
  simp only [List.drop_zero, List.take_succ_cons, List.take_zero, List.drop_succ_cons, List.cons.injEq, and_true] at e0 e1 e2 e3
  subst e0; subst e1; subst e2; subst e3
  exact ⟨_, _, _, _, rfl, h0, h1, h2, h3⟩
theorem hasGs_of (hn : ∀ (b : Nat) (o : AObj), σ.m.get b = some o → b < σ.next) {fuel : Nat} {d : DataW H} {vs : List AV} (hf : Fit Tryz.prog (fuel + 6) 22 d) (hd : HasD Tryz.prog σ (fuel + 6) 22 d vs) : ∃ v, vs = [v] ∧ HasS (KOf σ) 4 (RG (KOf σ)) ((elemsD d).map toXG) v :=
  slice_of (m := 4) toXG (RG (KOf σ)) Tryz.underlying22 (by kernel_rfl) (by decide) hn hf hd fun x vs hf hd => hasG_data hn hf hd
end
section
variable {H : Type} {enc : TypeId × Value → H} {w : World}
def NilOr (w : World) (v : Value) : Prop := v = .slice none 0 0 ∨ ∃ (a : Addr) (len cap : Nat) (c : Array Value) (e : TypeId) (fr : Nat × Nat), v = .slice (some a) len cap ∧ w.heap[a.block]? = some (.cells c e fr)
theorem nilOr_of {base : Nat} {t e : TypeId} {v : Value} (hu : Tryz.prog.underlying t = some (.slice e)) (hok : Cell.okWide Tryz.prog w .any base t v) : NilOr w v := by
  unfold Cell.okWide at hok
  rw [hu] at hok
  dsimp only at hok
  unfold Cell.ok at hok
  rw [hu] at hok
  cases v with
  | slice a len cap =>
    cases a with
    | none =>
      try dsimp only at hok
      split at hok <;> first | (rename_i he; cases he; done) | skip
      all_goals first
        | (rename_i he; cases he; exact .inl rfl)
        | (rename_i h1 h2; cases h2; done)
        | exact hok.elim
    | some a =>
      obtain ⟨_, _, _, hsp, row, cells, hsh, _⟩ := hok
      unfold World.shape? at hsh
      split at hsh
      · rename_i c e fr hh
        exact .inr ⟨a, len, cap, c, e, fr, rfl, hh⟩
      · cases hsh
  | _ => exact hok.elim
theorem trodAll_cons {P : Program} {ts : List TypeId} {t : TypeId} {vs : List Value} {ds : List (DataW H)} {ps : List MemPlace} {sp : Nat → Bool} (h : DataW.TrodAll enc P w 0 sp true (t :: ts) vs ds ps) :
    ∃ v vs' d ds', vs = v :: vs' ∧ ds = d :: ds' ∧ (∃ n p, DataW.trod enc P w 0 sp true n t v.cells.toList = some (d, p)) ∧ ∃ q, DataW.TrodAll enc P w 0 sp true ts vs' ds' q := by
  match vs, ds, h with
  | v :: vs', d :: ds', ⟨p, q, ⟨n, h1⟩, h2, _⟩ => exact ⟨v, vs', d, ds', rfl, rfl, ⟨n, p, h1⟩, q, h2⟩
theorem trodAll_nil {P : Program} {vs : List Value} {ds : List (DataW H)} {ps : List MemPlace} {sp : Nat → Bool} (h : DataW.TrodAll enc P w 0 sp true [] vs ds ps) : vs = [] ∧ ds = [] := by
  match vs, ds, h with
  | [], [], _ => exact ⟨rfl, rfl⟩
end
section
variable {H : Type}
abbrev bk (d : DataW H) : Nat := YtgppgbbkngfanaaGreatDoor.Rows.uptoBulk d
abbrev bkA (l : List (DataW H)) : Nat := YtgppgbbkngfanaaGreatDoor.Rows.uptoBulkAll l
theorem bk1 (d : DataW H) : 1 ≤ bk d := by
  cases d with
  | lit l => cases l <;> simp [bk, YtgppgbbkngfanaaGreatDoor.Rows.uptoBulk]
  | _ => simp [bk, YtgppgbbkngfanaaGreatDoor.Rows.uptoBulk]
theorem bk_elems (d : DataW H) : bkA (elemsD d) + 1 ≤ bk d := by
  cases d with
  | slice e s => simp only [bk, bkA, elemsD, YtgppgbbkngfanaaGreatDoor.Rows.uptoBulk]; omega
  | _ => exact bk1 _
theorem bk_part {l : List (DataW H)} {x : DataW H} (h : x ∈ l) : bk x ≤ bkA l := by
  induction l with
  | nil => cases h
  | cons y r ih =>
    simp only [bkA, YtgppgbbkngfanaaGreatDoor.Rows.uptoBulkAll]
    rcases List.mem_cons.1 h with rfl | h
    · exact Nat.le_add_right _ _
    · exact Nat.le_trans (ih h) (Nat.le_add_left _ _)
theorem bk_map {α : Type} {f : DataW H → List α} {l : List (DataW H)} (hf : ∀ x ∈ l, (f x).length ≤ bk x) : (l.flatMap f).length ≤ bkA l := by
  induction l with
  | nil => exact Nat.zero_le _
  | cons x r ih =>
    simp only [bkA, YtgppgbbkngfanaaGreatDoor.Rows.uptoBulkAll]
    rw [List.flatMap_cons, List.length_append]
    have h1 := hf x (List.mem_cons_self ..)
    have h2 := ih fun y hy => hf y (List.mem_cons_of_mem _ hy)
    exact Nat.add_le_add h1 h2
theorem fm_self {α : Type} (l : List α) : (l.flatMap fun x => [x]) = l := by
  induction l with
  | nil => rfl
  | cons x r ih => rw [List.flatMap_cons, ih]; rfl
theorem bk_len (l : List (DataW H)) : l.length ≤ bkA l := by
  have := bk_map (f := fun x => [x]) (l := l) fun x _ => bk1 x
  rwa [fm_self] at this
theorem agg_bk {fuel : Nat} {t : TypeId} {fs : Array Field} {d : DataW H} (hu : Tryz.prog.underlying t = some (.struct fs)) (hf : Fit Tryz.prog fuel t d) : fs.size + 1 ≤ bk d ∧ ∃ parts, d = .agg parts ∧ parts.length = fs.size ∧ bkA parts + 1 = bk d := by
  cases fuel with
  | zero => exact hf.elim
  | succ fuel =>
    unfold Fit at hf
    rw [hu] at hf
    obtain ⟨parts, rfl, hn, _⟩ := hf
    have h1 := bk_len parts
    have h2 : bkA parts + 1 = bk (.agg parts) := by simp only [bk, bkA, YtgppgbbkngfanaaGreatDoor.Rows.uptoBulk]
    exact ⟨by omega, parts, rfl, hn, h2⟩
theorem elems_fit {fuel : Nat} {t e : TypeId} {d : DataW H} (hu : Tryz.prog.underlying t = some (.slice e)) (hf : Fit Tryz.prog (fuel + 1) t d) : ∀ x ∈ elemsD d, Fit Tryz.prog fuel e x := by
  unfold Fit at hf
  rw [hu] at hf
  rcases hf with rfl | ⟨el, sp, rfl, h⟩
  · intro x hx; cases hx
  · exact h
theorem flat_map {α β γ : Type} (f : α → β) (g : β → List γ) (l : List α) : (l.map f).flatMap g = l.flatMap fun x => g (f x) := by
  induction l with
  | nil => rfl
  | cons x l ih => rw [List.map_cons, List.flatMap_cons, List.flatMap_cons, ih]
theorem fewZ_of {fuel : Nat} {d : DataW H} (hf : Fit Tryz.prog (fuel + 5) 41 d) (hb : bk d ≤ 1048575) : FewZ (toXG d) := by
  have hf0 := hf
  unfold Fit at hf
  rw [Tryz.underlying41] at hf
  obtain ⟨parts, rfl, hn, hall⟩ := hf
  obtain ⟨p0, p1, p2, p3, rfl⟩ : ∃ a b c e, parts = [a, b, c, e] := by
    match parts, hn with
    | [a, b, c, e], _ => exact ⟨a, b, c, e, rfl⟩
  have f1 : Fit Tryz.prog (fuel + 4) 38 p1 := hall 1 _ p1 rfl rfl
  have f2 : Fit Tryz.prog (fuel + 4) 39 p2 := hall 2 _ p2 rfl rfl
  have f3 : Fit Tryz.prog (fuel + 4) 39 p3 := hall 3 _ p3 rfl rfl
  have hs : bk p0 + (bk p1 + (bk p2 + (bk p3 + 0))) + 1 ≤ 1048575 := by
    have : bk (.agg [p0, p1, p2, p3]) = bk p0 + (bk p1 + (bk p2 + (bk p3 + 0))) + 1 := by simp only [bk, YtgppgbbkngfanaaGreatDoor.Rows.uptoBulk, YtgppgbbkngfanaaGreatDoor.Rows.uptoBulkAll]
    omega
  have h0 : (toXG (.agg [p0, p1, p2, p3])).init.length + 1 ≤ bk p0 := by
    show ((elemsD p0).map litI).length + 1 ≤ _
    rw [List.length_map]
    exact Nat.le_trans (Nat.add_le_add_right (bk_len _) 1) (bk_elems p0)
  have h1 : (toXG (.agg [p0, p1, p2, p3])).threads.length + ((toXG (.agg [p0, p1, p2, p3])).threads.flatMap fun r => r.flatMap XEv.ints).length + 1 ≤ bk p1 := by
    show ((elemsD p1).map fun r => (elemsD r).map toXEv).length + (((elemsD p1).map fun r => (elemsD r).map toXEv).flatMap fun r => r.flatMap XEv.ints).length + 1 ≤ _
    rw [List.length_map, flat_map]
    have k1 : ((elemsD p1).flatMap fun x => x :: ((elemsD x).map toXEv).flatMap fun _ => List.replicate 5 x).length ≤ bkA (elemsD p1) := bk_map fun x hx => by
      have k2 : ((elemsD x).flatMap fun y => List.replicate 5 x).length ≤ bkA (elemsD x) := bk_map fun y hy => by
        have fy := elems_fit Tryz.underlying70 (elems_fit (fuel := fuel + 3) Tryz.underlying38 f1 x hx) y hy
        have := (agg_bk Tryz.underlying78 fy).1
        rw [List.length_replicate]
        exact Nat.le_trans (Nat.le_of_ble_eq_true rfl : 5 ≤ 6) this
      rw [List.length_cons, flat_map]
      exact Nat.le_trans (Nat.add_le_add_right k2 1) (bk_elems x)
    have k3 : ∀ l : List (DataW H), (l.flatMap fun x => x :: ((elemsD x).map toXEv).flatMap fun _ => List.replicate 5 x).length = l.length + (l.flatMap fun x => ((elemsD x).map toXEv).flatMap XEv.ints).length := fun l => by
      induction l with
      | nil => rfl
      | cons x l ih =>
        have k4 : ∀ m : List XEv, (m.flatMap fun _ => List.replicate 5 x).length = (m.flatMap XEv.ints).length := fun m => by
          induction m with
          | nil => rfl
          | cons y m ih => rw [List.flatMap_cons, List.flatMap_cons, List.length_append, List.length_append, ih]; rfl
        rw [List.flatMap_cons, List.flatMap_cons, List.length_append, List.length_append, ih, List.length_cons, List.length_cons, k4]; omega
    rw [k3] at k1
    exact Nat.le_trans (Nat.add_le_add_right k1 1) (bk_elems p1)
  have ids : ∀ p : DataW H, Fit Tryz.prog (fuel + 4) 39 p → (((elemsD p).map fun r => (elemsD r).map toXId).flatMap encIds).length + 1 ≤ bk p := fun p fp => by
    rw [flat_map]
    have k1 : ((elemsD p).flatMap fun x => encIds ((elemsD x).map toXId)).length ≤ bkA (elemsD p) := bk_map fun x hx => by
      have k2 : ((elemsD x).flatMap fun y => [x, y]).length ≤ bkA (elemsD x) := bk_map fun y hy => by
        have fy := elems_fit Tryz.underlying71 (elems_fit (fuel := fuel + 3) Tryz.underlying39 fp x hx) y hy
        have := (agg_bk Tryz.underlying81 fy).1
        exact Nat.le_trans (Nat.le_of_ble_eq_true rfl : 2 ≤ 3) this
      have k3 : ∀ l : List (DataW H), (l.flatMap fun y => [x, y]).length = l.length * 2 := fun l => by
        induction l with
        | nil => rfl
        | cons y l ih => rw [List.flatMap_cons, List.length_append, ih, List.length_cons, List.length_cons, List.length_cons, List.length_nil]; omega
      rw [enc_ids, List.length_map]
      rw [k3] at k2
      have := bk_elems x
      omega
    exact Nat.le_trans (Nat.add_le_add_right k1 1) (bk_elems p)
  have h2 : ((toXG (.agg [p0, p1, p2, p3])).from_.flatMap encIds).length + 1 ≤ bk p2 := ids p2 f2
  have h3 : ((toXG (.agg [p0, p1, p2, p3])).order.flatMap encIds).length + 1 ≤ bk p3 := ids p3 f3
  exact ⟨by omega⟩
theorem fewZs_of {fuel : Nat} {d : DataW H} (hf : Fit Tryz.prog (fuel + 6) 22 d) (hb : bk d ≤ 1048576) : (∀ g ∈ (elemsD d).map toXG, FewZ g) ∧ ((elemsD d).map toXG).length ≤ 1048570 := by
  have h1 := bk_elems d
  refine ⟨fun g hg => ?_, ?_⟩
  · obtain ⟨x, hx, rfl⟩ := List.mem_map.1 hg
    have h2 := bk_part hx
    exact fewZ_of (elems_fit (fuel := fuel + 5) Tryz.underlying22 hf x hx) (by omega)
  · rw [List.length_map]
    have k2 : ((elemsD d).flatMap fun y => [y, y]).length ≤ bkA (elemsD d) := bk_map fun y hy => by
      have := (agg_bk Tryz.underlying41 (elems_fit (fuel := fuel + 5) Tryz.underlying22 hf y hy)).1
      exact Nat.le_trans (Nat.le_of_ble_eq_true rfl : 2 ≤ 5) this
    have k3 : ∀ l : List (DataW H), (l.flatMap fun y => [y, y]).length = l.length * 2 := fun l => by
      induction l with
      | nil => rfl
      | cons y l ih => rw [List.flatMap_cons, List.length_append, ih, List.length_cons, List.length_cons, List.length_cons, List.length_nil]; omega
    rw [k3] at k2
    omega
end
end Go.Ev
namespace Go.Ev
variable [Env]
open Go.Proofs Go.Shelf Go.RowKit Go.Lib Go.Sort
def roO : AObj → Option AObj
  | .row c e _ => some (.row c e true)
  | .own c e => some (.row c e true)
  | _ => none
def roM (σ : AHeap) (b : Nat) : Nat → PT AObj
  | 0 => .leaf
  | n + 1 => if n = b then roM σ b n else match (σ.m.get n).bind roO with
    | some o => (roM σ b n).put (some o) n
    | none => roM σ b n
def roH (σ : AHeap) (b : Nat) : AHeap := ⟨σ.next, roM σ b σ.next⟩
theorem roM_get (σ : AHeap) (b : Nat) : ∀ n i : Nat, (roM σ b n).get i = if i < n ∧ i ≠ b then (σ.m.get i).bind roO else none
  | 0, i => by
    show (PT.leaf : PT AObj).get i = _
    rw [PT.get_leaf, if_neg (by omega)]
  | n + 1, i => by
    have ih := roM_get σ b n i
    unfold roM
    by_cases hb : n = b
    · rw [if_pos hb, ih]
      by_cases h : i < n ∧ i ≠ b
      · rw [if_pos h, if_pos ⟨by omega, h.2⟩]
      · rw [if_neg h, if_neg (by omega)]
    · rw [if_neg hb]
      by_cases hi : i = n
      · subst hi
        rw [if_pos ⟨by omega, hb⟩]
        cases hg : (σ.m.get i).bind roO with
        | some o => dsimp only; exact PT.get_put_same _ _ _
        | none => dsimp only; rw [ih, if_neg (by omega)]
      · have key : (match (σ.m.get n).bind roO with | some o => (roM σ b n).put (some o) n | none => roM σ b n).get i = (roM σ b n).get i := by
          cases (σ.m.get n).bind roO with
          | some o => exact PT.get_put_other _ _ _ _ hi
          | none => rfl
        rw [key, ih]
        by_cases h : i < n ∧ i ≠ b
        · rw [if_pos h, if_pos ⟨by omega, h.2⟩]
        · rw [if_neg h, if_neg (by omega)]
theorem roH_get {σ : AHeap} {b i : Nat} {o : AObj} (h : (roH σ b).m.get i = some o) : i ≠ b ∧ ∃ o', σ.m.get i = some o' ∧ roO o' = some o := by
  have h2 : (roM σ b σ.next).get i = some o := h
  rw [roM_get] at h2
  split at h2
  · rename_i hc
    obtain ⟨o', h3, h4⟩ := Option.bind_eq_some_iff.1 h2
    exact ⟨hc.2, o', h3, h4⟩
  · cases h2
theorem roO_ro {o o' : AObj} (h : roO o = some o') : o'.ro = true := by
  cases o <;> first | (cases h; rfl) | cases h
theorem roO_R {ρ : Ren} {l : Loc} {o o' : AObj} {x : Obj} (h : roO o = some o') (hx : ObjR ρ l o x) : ObjR ρ l o' x := by
  cases o with
  | row c e ro =>
    cases h
    obtain ⟨c', fr, h1, h2, h3, h4, _⟩ := hx
    exact ⟨c', fr, h1, h2, h3, h4, fun h => by cases h⟩
  | own c e =>
    cases h
    obtain ⟨_, c', fr, h1, h2, h3, h4, _⟩ := hx
    exact ⟨c', fr, h1, h2, h3, h4, fun h => by cases h⟩
  | _ => cases h
theorem roH_all (σ : AHeap) (b : Nat) : AllRo (roH σ b) := fun i o h => by
  obtain ⟨_, o', _, h2⟩ := roH_get h
  exact roO_ro h2
theorem Inv.roH {ρ : Ren} {σ : AHeap} {w W : World} (hi : Inv ρ σ w) {b : Pos} {l : Loc} {o : AObj} (hb : σ.m.get b = some o) (hro : o.ro = false) (hl : ρ b = some l)
    (hs : w.heap.size ≤ W.heap.size) (hw : ∀ r : Nat, r < w.heap.size → r ≠ l.blk → W.heap[r]? = w.heap[r]?) : Inv ρ (roH σ b) W := by
  have hlo : ∀ r : Nat, r < Env.n0 → r ≠ l.blk := fun r hr e => hi.old.no r hr ⟨b, o, l, hb, hro, hl, e.symm⟩
  refine ⟨⟨fun b' hb' => ?_, fun b' l' h => Nat.lt_of_lt_of_le (hi.blk b' l' h) hs, fun b' o' l' h1 h2 => ?_, fun b' b'' o' o'' l' l'' h1 h2 _ _ _ _ => ⟨roH_all _ _ _ _ h1, roH_all _ _ _ _ h2⟩⟩, ⟨Nat.le_trans hi.old.size hs, fun r hr => ?_, fun r hr ⟨b', o', l', h1, h2, _⟩ => by rw [roH_all _ _ _ _ h1] at h2; cases h2⟩⟩
  · have hf := hi.fresh b' hb'
    refine ⟨hf.1, ?_⟩
    cases hq : (Go.Ev.roH σ b).m.get b' with
    | none => rfl
    | some q =>
      obtain ⟨_, o', h3, _⟩ := roH_get hq
      rw [hf.2] at h3; cases h3
  · obtain ⟨hne, o1, h3, h4⟩ := roH_get h1
    obtain ⟨x, hx, hr⟩ := hi.obj b' o1 l' h3 h2
    have hnb : l'.blk ≠ l.blk := fun e => by
      have := (hi.inj b' b o1 o l' l h3 hb h2 hl e hne).2
      rw [hro] at this; cases this
    exact ⟨x, by rw [hw _ (hi.blk b' l' h2) hnb]; exact hx, roO_R h4 hr⟩
  · rw [hw r (Nat.lt_of_lt_of_le hr hi.old.size) (hlo r hr)]
    exact hi.old.same r hr
theorem Keeps.grown {W w' : World} (h : Keeps W w') : ∃ q os', w' = Go.Sort.grow (W.drewN q) os' := by
  refine ⟨w'.drawn - W.drawn, w'.heap.extract W.heap.size w'.heap.size, ?_⟩
  have e1 : W.heap ++ w'.heap.extract W.heap.size w'.heap.size = w'.heap := by
    apply Array.ext_getElem?
    intro i
    by_cases hi : i < W.heap.size
    · rw [Array.getElem?_append_left hi, h.same i hi]
    · rw [Array.getElem?_append_right (by omega), Array.getElem?_extract]
      by_cases h2 : i < w'.heap.size
      · rw [if_pos (by omega)]; congr 1; omega
      · rw [if_neg (by omega)]; simp [h2]
  have hd := h.out.2
  have h1 := h.out.1
  have h2 := h.os
  have h3 := h.tape
  obtain ⟨heap, tape, drawn, os, output⟩ := w'
  dsimp only at h1 h2 h3 hd e1
  subst h1 h2 h3
  unfold Go.Sort.grow World.drewN
  dsimp only
  rw [e1, Nat.add_sub_cancel' hd]
def sortCells (k : Nat) (cells : List AV) {n : Nat} (d : Array (Fin (n + 1))) : List AV :=
  (List.range (d.size * k)).map (fun t => cells.getD ((d[t / k]!).val * k + t % k) .any) ++ cells.drop (d.size * k)
def elemA (k : Nat) (cells : List AV) (i : Nat) : AV := .agg ((cells.drop (i * k)).take k)
def CmpIs (P : Program) (G0 : Cx) (k g : Nat) (σ : AHeap) (b : Nat) (cells : List AV) (n : Nat) (cf : Fin (n + 1) → Fin (n + 1) → Int) : Prop :=
  SWO (ltOf cf) ∧ ∀ x y : Fin (n + 1), EvCall P G0 g [elemA k cells x.val, elemA k cells y.val] (roH σ b) fun v _ => v = .int .i64 (cf x y)
def sortOrd {n : Nat} (cf : Fin (n + 1) → Fin (n + 1) → Int) : Array (Fin (n + 1)) :=
  pdq (ltOf cf) (Array.ofFn (fun i : Fin (n + 1) => i)) 0 (n + 1) (Lib.bitLen (n + 1)) true true
def capIs (c : Cap) : Bool := match c with | .known _ => true | .upto _ => true | .least _ _ => false
open Classical in
def sortK (P : Program) (G0 : Cx) (F k : Nat) (gs : Nat → Bool) (f : Nat) (args : List AV) (σ : AHeap) : Option (AV × AHeap) :=
  if f = F then
    match args with
    | [.nilSlice, _] => some (.tuple [], σ)
    | [.slice b 0 (n + 1) c, .func g [] []] =>
      match σ.m.get b with
      | some (.row cells e false) =>
        if h : ((n + 1) * k ≤ cells.length ∧ n + 1 < 4611686018427387904 ∧ gs g = true ∧ capIs c = true ∧ allLeaf (cells.take ((n + 1) * k)) = true) ∧ ∃ cf, CmpIs P G0 k g σ b cells n cf then
          some (.tuple [], σ.setObj b (.row (sortCells k cells (sortOrd (Classical.choose h.2))) e false))
        else none
      | _ => none
    | _ => none
  else none
section
variable {P : Program} {G0 : Cx}
theorem VRs.sub {ρ : Ren} {cells : List AV} {ys : List Value} {i k : Nat} (hl : i + k ≤ cells.length) (hy : ys.length = k) (h : ∀ j, j < k → ∃ v y, cells[i + j]? = some v ∧ ys[j]? = some y ∧ VR ρ v y) : VRs ρ ((cells.drop i).take k) ys := by
  refine VRs.of_get (by simp; omega) fun j v hv => ?_
  rw [List.getElem?_take] at hv
  split at hv
  · rename_i hj
    rw [List.getElem?_drop] at hv
    obtain ⟨v', y, h1, h2, h3⟩ := h j hj
    rw [h1] at hv; cases hv
    exact ⟨y, h2, h3⟩
  · cases hv
theorem pdq_size {α : Type} [Inhabited α] (lt : α → α → Bool) (hO : SWO lt) (d : Array α) : (pdq lt d 0 d.size (Lib.bitLen d.size) true true).size = d.size :=
  (pdq_sorts lt hO d 0 d.size (Lib.bitLen d.size) true true (Nat.zero_le _) (Nat.le_refl _) (Or.inl rfl)).1.1
theorem sortOrd_size {n : Nat} {cf : Fin (n + 1) → Fin (n + 1) → Int} (hO : SWO (ltOf cf)) : (sortOrd cf).size = n + 1 := by
  have := pdq_size (ltOf cf) hO (Array.ofFn (fun i : Fin (n + 1) => i))
  rw [Array.size_ofFn] at this
  exact this
theorem idFn_get {n : Nat} (x : Fin (n + 1)) : (Array.ofFn (fun i : Fin (n + 1) => i))[x.val]! = x := by
  rw [getElem!_pos _ _ (by simp [x.isLt])]; simp
theorem sort_sound (hm : P.follows .mixedOrders = true) (hC : CxOK P G0) {φ : Go.Shelf.Ren} (L : SlLaysF0.n6 P φ) {k : Nat} (hk : 0 < k) (aE : ∀ w, (isAgg (φ.t 24)).run P w = .ok true w) (zE : ∀ w, (Go.sizeOf (φ.t 24)).run P w = .ok k w) {gs : Nat → Bool}
    (eg : ∀ g, gs g = true → ∀ args w, (callFunc g args).run P w = .ok (.enter g args) w) {f : Nat} {args : List AV} {σ σ' : AHeap} {v : AV} (h : sortK P G0 (φ.f 6) k gs f args σ = some (v, σ')) (ρ : Ren) (w : World) (xs : Array Value) (hi : Inv ρ σ w) (hg : GR ρ G0) (hx : VRs ρ args xs.toList) :
    Calls P f xs w fun e w' => ∃ x ρ', e = .returned x ∧ VR ρ' v x ∧ Inv ρ' σ' w' ∧ Stp ρ σ w ρ' σ' w' := by
  unfold sortK at h
  split at h
  case isFalse => cases h
  rename_i hf
  subst hf
  split at h
  ·
    cases h
    rename_i u
    obtain ⟨x1, r1, e1, h1, h2⟩ := hx.cons_inv
    obtain ⟨x2, r2, e2, h3, h4⟩ := h2.cons_inv
    obtain rfl := h4.nil_inv
    subst e2
    have hxs : xs = #[x1, x2] := by apply Array.toList_inj.1; rw [e1]
    subst hxs
    simp only [VR] at h1
    subst h1
    refine (AnyF.slices_SortFunc_none L none 0 x2 w).mono fun e w' ⟨he, hw⟩ => ?_
    subst hw
    exact ⟨_, ρ, he, by simp only [VR]; exact ⟨#[], rfl, VRs.nil⟩, hi, Stp.refl _ _ _⟩
  · rename_i b n c g
    split at h
    case h_2 => cases h
    rename_i cells e hb
    split at h
    case isFalse => cases h
    rename_i hc
    cases h
    obtain ⟨⟨hlen, hn, hgs, hcap, hleaf⟩, hcf⟩ := hc
    have hch : CmpIs P G0 k g σ b cells n (Classical.choose hcf) := Classical.choose_spec hcf
    generalize Classical.choose hcf = cf at hch ⊢
    obtain ⟨hO, hcmp⟩ := hch
    obtain ⟨x1, r1, e1, h1, h2⟩ := hx.cons_inv
    obtain ⟨x2, r2, e2, h3, h4⟩ := h2.cons_inv
    obtain rfl := h4.nil_inv
    subst e2
    have hxs : xs = #[x1, x2] := by apply Array.toList_inj.1; rw [e1]
    subst hxs
    have h3' : x2 = .func (.func g) #[] #[] := by
      simp only [VR] at h3
      obtain ⟨fi, ca, h5, h6, h7⟩ := h3
      rw [h5, show fi = #[] from by apply Array.toList_inj.1; rw [h6.nil_inv], show ca = #[] from by apply Array.toList_inj.1; rw [h7.nil_inv]]
    subst h3'
    have h1' : ∃ l cp, ρ b = some l ∧ x1 = .slice (some ⟨l.blk, l.sh, none⟩) (n + 1) cp := by
      cases c with
      | known c => simp only [VR] at h1; obtain ⟨l, h5, h6⟩ := h1; exact ⟨l, c, h5, h6⟩
      | upto sz =>
        simp only [VR] at h1
        obtain ⟨l, h5, h6⟩ := h1
        rcases h6 with ⟨c, h6, _⟩ | ⟨h6, _⟩
        · exact ⟨l, c, h5, h6⟩
        · omega
      | least a sz => cases hcap
    obtain ⟨l, cp, hl, rfl⟩ := h1'
    obtain ⟨c, fr, hh1, hh2, hh3, hh4, hh5⟩ := hi.row hb hl
    have hcell : ∀ t, t < (n + 1) * k → ∃ u y, cells[t]? = some u ∧ c[l.sh + t]? = some y ∧ VR ρ u y ∧ y.oneCell' = true := fun t ht => by
      have ht' : t < cells.length := by omega
      obtain ⟨y, hy1, hy2⟩ := hh4 t cells[t] (List.getElem?_eq_getElem ht')
      refine ⟨_, y, List.getElem?_eq_getElem ht', hy1, hy2, leaf_oneCell (allLeaf_eq hleaf cells[t] ?_) hy2⟩
      have : (cells.take ((n + 1) * k))[t]? = some cells[t] := by rw [List.getElem?_take, if_pos ht]; exact List.getElem?_eq_getElem ht'
      exact List.mem_of_getElem? this
    let enc : Fin (n + 1) → List Value := fun x => (List.range k).map fun j => c[l.sh + (x.val * k + j)]!
    have henc : ∀ x, (enc x).length = k := fun x => by simp [enc]
    have hat : ∀ (x : Fin (n + 1)) j, j < k → x.val * k + j < (n + 1) * k := fun x j hj => by
      have : (x.val + 1) * k ≤ (n + 1) * k := Nat.mul_le_mul_right _ (by have := x.isLt; omega)
      rw [Nat.add_mul, Nat.one_mul] at this
      omega
    have hencAt : ∀ (x : Fin (n + 1)) j, j < k → ∃ u y, cells[x.val * k + j]? = some u ∧ (enc x)[j]? = some y ∧ VR ρ u y ∧ y.oneCell' = true := fun x j hj => by
      obtain ⟨u, y, k1, k2, k3, k4⟩ := hcell _ (hat x j hj)
      refine ⟨u, y, k1, ?_, k3, k4⟩
      simp only [enc, List.getElem?_map, List.getElem?_range hj, Option.map_some]
      rw [getElem!_def, k2]
    have h1c : ∀ x, ∀ v ∈ enc x, v.oneCell' = true := fun x v hv => by
      obtain ⟨j, hj, hjv⟩ := List.getElem_of_mem hv
      rw [henc] at hj
      obtain ⟨u, y, _, k2, _, k4⟩ := hencAt x j hj
      rw [List.getElem?_eq_getElem (by rw [henc]; exact hj), hjv] at k2
      cases k2; exact k4
    have hflat : ∀ (d : Array (Fin (n + 1))) t, t < d.size * k → (flatK enc k d)[t]! = c[l.sh + ((d[t / k]!).val * k + t % k)]! := fun d t ht => by
      rw [get_flatK _ _ _ _ ht]
      have hmod : t % k < k := Nat.mod_lt _ hk
      show ((List.range k).map _)[t % k]! = _
      rw [getElem!_pos _ _ (by simp [hmod])]
      simp
    have hH : HoldsK enc k w l.blk l.sh (Array.ofFn (fun i : Fin (n + 1) => i)) := fun t ht => by
      rw [size_flatK, Array.size_ofFn] at ht
      obtain ⟨u, y, k1, k2, k3, k4⟩ := hcell t ht
      have hdiv : t / k < n + 1 := Nat.div_lt_of_lt_mul (by rw [Nat.mul_comm]; exact ht)
      refine ⟨?_, frozen?_of_heap hh1 _ (hh5 rfl _ (by omega))⟩
      rw [cell?_of_heap hh1, hflat _ _ (by rw [Array.size_ofFn]; exact ht)]
      rw [show (Array.ofFn (fun i : Fin (n + 1) => i))[t / k]! = ⟨t / k, hdiv⟩ from idFn_get ⟨t / k, hdiv⟩]
      dsimp only
      rw [Nat.div_add_mod' t k, k2, getElem!_def, k2]
      rfl
    have hblk := hi.blk b l hl
    have hW : ∀ (m : Nat) (os : Array Obj) (dk : Array (Fin (n + 1))), Inv ρ (roH σ b) (sortWorldK enc k w l.blk l.sh m dk os) := fun m os dk => by
      refine hi.roH hb rfl hl ?_ fun r hr hne => ?_
      · show w.heap.size ≤ ((w.heap.modify l.blk _) ++ os).size
        simp
      · show ((w.heap.modify l.blk _) ++ os)[r]? = _
        rw [Array.getElem?_append_left (by simpa using hr), Array.getElem?_modify, if_neg (Ne.symm hne)]
    have hcmpL : CmpLays P g #[] enc k cf l.blk l.sh (Array.ofFn (fun i : Fin (n + 1) => i)).size w := fun m os dk _ x y => by
      have hv : ∀ z : Fin (n + 1), VR ρ (elemA k cells z.val) (.agg (enc z).toArray) := fun z => by
        unfold elemA
        simp only [VR]
        refine ⟨_, rfl, VRs.sub ?_ (henc z) fun j hj => ?_⟩
        · have := hat z (k - 1) (by omega); omega
        · obtain ⟨u, y, k1, k2, k3, _⟩ := hencAt z j hj; exact ⟨u, y, k1, k2, k3⟩
      refine (calls_of_ev hm hC (hW m os dk) hg (roH_all _ _) (VRs.cons (hv x) (VRs.cons (hv y) VRs.nil)) (hcmp x y)).mono fun e w' ⟨v, z, _, ρ', he, hkp, hvz, hvv⟩ => ?_
      subst hvv
      simp only [VR] at hvz
      subst hvz
      exact ⟨he, hkp.grown⟩
    have hsz : (Array.ofFn (fun i : Fin (n + 1) => i)).size = n + 1 := Array.size_ofFn
    have hcall := AnyQ.slices_SortFunc_eq L k aE zE enc henc h1c cf hO g #[] l.blk l.sh cp (Array.ofFn (fun i : Fin (n + 1) => i)) w (eg g hgs) hcmpL hH hblk (by rw [hsz]; exact hn)
    rw [hsz] at hcall
    refine hcall.mono fun e' w' ⟨he, nd, os, hw'⟩ => ?_
    subst hw'
    change e' = _ at he
    have hds := sortOrd_size hO
    change ∃ x ρ', e' = .returned x ∧ VR ρ' (.tuple []) x ∧ Inv ρ' (σ.setObj b (.row (sortCells k cells (sortOrd cf)) e false)) (sortWorldK enc k w l.blk l.sh nd (sortOrd cf) os) ∧ Stp ρ σ w ρ' (σ.setObj b (.row (sortCells k cells (sortOrd cf)) e false)) (sortWorldK enc k w l.blk l.sh nd (sortOrd cf) os)
    generalize sortOrd cf = d at hds ⊢
    refine ⟨_, ρ, he, by simp only [VR]; exact ⟨#[], rfl, VRs.nil⟩, ?_⟩
    let w1 : World := putRowK enc k (Sort.ahead w nd) l.blk l.sh d
    have hw1 : w1.heap[l.blk]? = some (.cells (putCells id l.sh (flatK enc k d) c) e fr) := by
      show (w.heap.modify l.blk _)[l.blk]? = _
      rw [Array.getElem?_modify, if_pos rfl, hh1]; rfl
    have hlenS : (sortCells k cells d).length = cells.length := by
      unfold sortCells; rw [List.length_append, List.length_map, List.length_range, List.length_drop, hds]; omega
    have hrow : ObjR ρ l (.row (sortCells k cells d) e false) (.cells (putCells id l.sh (flatK enc k d) c) e fr) := by
      refine ⟨_, fr, rfl, by unfold putCells; rw [Array.size_mapIdx]; exact hh2, by rw [hlenS]; exact hh3, fun t u hu => ?_, hh5⟩
      unfold putCells
      rw [Array.getElem?_mapIdx, size_flatK, hds]
      by_cases ht : t < (n + 1) * k
      · have hdiv : t / k < n + 1 := Nat.div_lt_of_lt_mul (by rw [Nat.mul_comm]; exact ht)
        have hmod : t % k < k := Nat.mod_lt _ hk
        obtain ⟨u', y, k1, k2, k3, _⟩ := hcell _ (hat (d[t / k]!) (t % k) hmod)
        obtain ⟨_, y0, _, k2', _, _⟩ := hcell t ht
        have hu' : u = u' := by
          unfold sortCells at hu
          rw [hds, List.getElem?_append_left (by rw [List.length_map, List.length_range]; exact ht), List.getElem?_map, List.getElem?_range ht] at hu
          simp only [Option.map_some, Option.some.injEq] at hu
          rw [← hu, List.getD_eq_getElem?_getD, k1]; rfl
        subst hu'
        refine ⟨y, ?_, k3⟩
        rw [k2']
        simp only [Option.map_some, id]
        rw [if_pos ⟨by omega, by omega⟩, Nat.add_sub_cancel_left, hflat d t (by rw [hds]; exact ht), getElem!_def, k2]
      · have hu2 : cells[t]? = some u := by
          unfold sortCells at hu
          rw [hds, List.getElem?_append_right (by rw [List.length_map, List.length_range]; omega), List.length_map, List.length_range, List.getElem?_drop] at hu
          rwa [Nat.add_sub_cancel' (by omega)] at hu
        obtain ⟨y, k1, k2⟩ := hh4 t u hu2
        refine ⟨y, ?_, k2⟩
        rw [k1]
        simp only [Option.map_some]
        rw [if_neg (by omega)]
    have hch := hi.change (w' := w1) (o' := .row (sortCells k cells d) e false) hb hl rfl rfl hw1 hrow (fun r hr => by
      show (w.heap.modify l.blk _)[r]? = _
      rw [Array.getElem?_modify, if_neg (Ne.symm hr)]) (by show (w.heap.modify l.blk _).size = _; simp) rfl rfl ⟨rfl, Nat.le_add_right _ _⟩
    have hgr : Keeps w1 (Go.Sort.grow w1 os) := ⟨rfl, ⟨rfl, Nat.le_refl _⟩, rfl, by show w1.heap.size ≤ (w1.heap ++ os).size; rw [Array.size_append]; omega, fun r hr => by show (w1.heap ++ os)[r]? = _; rw [Array.getElem?_append_left hr]⟩
    obtain ⟨i2, s2⟩ := hgr.inv hch.1
    exact ⟨i2, hch.2.trans s2⟩
  · cases h
end
end Go.Ev
namespace Go.Ev
variable [Env]
open Go.Proofs Go.Sort
section
variable {σ : AHeap} {K K' : KP} {L : Own}
open Classical in
theorem St.own_of (h : St σ K' L) (hle : KP.le K K') : ∃ M, St σ K (M ++ L) ∧ KP.le K' (K.adds M) := by
  have key : ∀ n, ∃ M : Own, (∀ e ∈ M, K' e.1 e.2 ∧ (∀ o, ¬ K e.1 o) ∧ e.1 < n) ∧ M.Pairwise (fun a b => a.1 ≠ b.1) ∧ ∀ b o, b < n → K' b o → K b o ∨ (b, o) ∈ M := by
    intro n
    induction n with
    | zero => exact ⟨[], (fun e he => by cases he), List.Pairwise.nil, fun b o hb => absurd hb (Nat.not_lt_zero _)⟩
    | succ n ih =>
      obtain ⟨M, h1, h2, h3⟩ := ih
      by_cases hk : (∃ o, K' n o) ∧ ∀ o, ¬ K n o
      · obtain ⟨⟨o, ho⟩, hn⟩ := hk
        refine ⟨(n, o) :: M, fun e he => ?_, List.pairwise_cons.2 ⟨fun e he => fun hh => by have := (h1 e he).2.2; have hh : n = e.1 := hh; omega, h2⟩, fun b o' hb hb' => ?_⟩
        · rcases List.mem_cons.1 he with rfl | he
          · exact ⟨ho, hn, Nat.lt_succ_self _⟩
          · obtain ⟨a, b, c⟩ := h1 e he; exact ⟨a, b, Nat.lt_succ_of_lt c⟩
        · by_cases hbn : b = n
          · subst hbn
            have e1 := (h.kept _ _ ho).2.1
            have e2 := (h.kept _ _ hb').2.1
            rw [e1] at e2; cases e2
            exact .inr (List.mem_cons_self ..)
          · rcases h3 b o' (by omega) hb' with h4 | h4
            · exact .inl h4
            · exact .inr (List.mem_cons_of_mem _ h4)
      · refine ⟨M, fun e he => let ⟨a, b, c⟩ := h1 e he; ⟨a, b, Nat.lt_succ_of_lt c⟩, h2, fun b o' hb hb' => ?_⟩
        by_cases hbn : b = n
        · subst hbn
          have : ∃ o, K b o := Classical.byContradiction fun hh => hk ⟨⟨o', hb'⟩, fun o ho => hh ⟨o, ho⟩⟩
          obtain ⟨o, ho⟩ := this
          have e1 := (h.kept _ _ (hle _ _ ho)).2.1
          have e2 := (h.kept _ _ hb').2.1
          rw [e1] at e2; cases e2
          exact .inl ho
        · exact h3 b o' (by omega) hb'
  obtain ⟨M, h1, h2, h3⟩ := key σ.next
  refine ⟨M, ⟨fun b o hb => ?_, fun e he => ?_, ?_⟩, fun b o hb => ?_⟩
  · obtain ⟨k1, k2, k3⟩ := h.kept b o (hle _ _ hb)
    refine ⟨k1, k2, fun e he => ?_⟩
    rcases List.mem_append.1 he with he | he
    · exact fun hh => (h1 e he).2.1 o (hh ▸ hb)
    · exact k3 e he
  · rcases List.mem_append.1 he with he | he
    · obtain ⟨k1, k2, _⟩ := h.kept _ _ (h1 e he).1; exact ⟨k1, k2⟩
    · exact h.own e he
  · refine List.pairwise_append.2 ⟨h2, h.ne, fun a ha b hb => fun hh => (h.kept _ _ (h1 a ha).1).2.2 b hb hh.symm⟩
  · rcases h3 b o (h.kept _ _ hb).1 hb with h4 | h4
    · exact .inl h4
    · exact .inr h4
theorem St.frame {σ0 : AHeap} {K1 : KP} (h0 : St σ0 K L) (hle : KP.le K1 K) :
    ∃ N, St σ0 K1 (N ++ L) ∧ ∀ (σ : AHeap) (K2 : KP) (L2 : Own), KP.le K1 K2 → St σ K2 (N ++ L2) → ∃ M, St σ K (M ++ L2) ∧ KP.le K2 (K1.adds M) := by
  obtain ⟨N, h1, h2⟩ := h0.own_of hle
  refine ⟨N, h1, fun σ K2 L2 h3 h4 => ?_⟩
  obtain ⟨M, h5, h6⟩ := h4.own_of h3
  refine ⟨M, ?_, h6⟩
  have h7 : St σ K1 (N ++ (M ++ L2)) := h5.perm (by rw [← List.append_assoc, ← List.append_assoc]; exact (List.perm_append_comm).append_right L2)
  exact (St.keeps h7).weaken h2
end
def KP.ro (K : KP) : KP := fun b o => ∃ o', K b o' ∧ roO o' = some o
theorem St.ro {σ : AHeap} {K : KP} {L : Own} {b : Nat} {o : AObj} (h : St σ K ((b, o) :: L)) : St (roH σ b) K.ro [] where
  kept b' o' hb := by
    obtain ⟨o1, h1, h2⟩ := hb
    obtain ⟨k1, k2, k3⟩ := h.kept b' o1 h1
    refine ⟨k1, ?_, fun e he => by cases he⟩
    show (roM σ b σ.next).get b' = some o'
    rw [roM_get, if_pos ⟨k1, fun e => k3 _ (List.mem_cons_self ..) e.symm⟩, k2]
    exact h2
  own e he := by cases he
  ne := List.Pairwise.nil
theorem HasS.ro {α : Type} {K : KP} {m : Nat} {R : α → List AV → Prop} {l : List α} {v : AV} (h : HasS K m R l v) : HasS K.ro m R l v := by
  rcases h with h | ⟨b, off, c, cells, e, ro, h1, h2, h3, h4⟩
  · exact .inl h
  · exact .inr ⟨b, off, c, cells, e, true, h1, h2, ⟨_, h3, rfl⟩, h4⟩
theorem HasS.roL {α : Type} {K : KP} {m n : Nat} {R : α → List AV → Prop} {l : List (List α)} {v : AV} (h : HasS K n (RL K m R) l v) : HasS K.ro n (RL K.ro m R) l v := by
  rcases h with h | ⟨b, off, c, cells, e, ro, h1, h2, h3, h4, h5, h6⟩
  · exact .inl h
  · exact .inr ⟨b, off, c, cells, e, true, h1, h2, ⟨_, h3, rfl⟩, h4, h5, fun i x hx => let ⟨v, e, h⟩ := h6 i x hx; ⟨v, e, h.ro⟩⟩
theorem HasG.ro {K : KP} {g : XG} {a b c d : AV} (h : HasG K g a b c d) : HasG K.ro g a b c d := ⟨h.init.ro, h.threads.roL, h.from_.roL, h.order.roL⟩
theorem sortCells_get {m : Nat} {cells : List AV} {n : Nat} {d : Array (Fin (n + 1))} (hm : 0 < m) (hd : d.size = n + 1) (hl : cells.length = (n + 1) * m) {i : Nat} (hi : i < n + 1) :
    ((sortCells m cells d).drop (i * m)).take m = (cells.drop ((d[i]!).val * m)).take m := by
  have hx : (d[i]!).val < n + 1 := (d[i]!).isLt
  have b1 : (i + 1) * m ≤ (n + 1) * m := Nat.mul_le_mul_right _ hi
  have b2 : ((d[i]!).val + 1) * m ≤ (n + 1) * m := Nat.mul_le_mul_right _ hx
  rw [Nat.add_mul, Nat.one_mul] at b1 b2
  refine List.ext_getElem? fun j => ?_
  rw [List.getElem?_take, List.getElem?_take]
  by_cases hj : j < m
  · rw [if_pos hj, if_pos hj, List.getElem?_drop, List.getElem?_drop]
    unfold sortCells
    rw [hd, List.getElem?_append_left (by rw [List.length_map, List.length_range]; omega), List.getElem?_map, List.getElem?_range (by omega)]
    have e1 : (i * m + j) / m = i := by rw [Nat.mul_comm, Nat.mul_add_div hm, Nat.div_eq_of_lt hj]; rfl
    have e2 : (i * m + j) % m = j := by rw [Nat.mul_comm, Nat.mul_add_mod, Nat.mod_eq_of_lt hj]
    simp only [Option.map_some, e1, e2]
    rw [List.getD_eq_getElem?_getD, List.getElem?_eq_getElem (by omega)]
    rfl
  · rw [if_neg hj, if_neg hj]
section
variable {P : Program} {G G0 : Cx}
theorem ev_ktb {f : Nat} {args : List AV} {σ σ' : AHeap} {v : AV} {R : AV → AHeap → Prop} (hk : G.ktb f args σ = some (v, σ')) (h : R v σ') : EvCall P G f args σ R := by
  refine ⟨0, v, σ', fun k _ => ?_, h⟩
  unfold callX
  rw [hk]
theorem ev_sort {α : Type} {m E f g : Nat} {gs : Nat → Bool} {R : α → List AV → Prop} {c : α → α → Int} (hm : 0 < m) (hO : SWO (fun x y => decide (c x y < 0))) (hS : ∀ a s, G.ktb f a s = sortK P G0 f m gs f a s) (hgs : gs g = true)
    (hleaf : ∀ x vs, R x vs → allLeaf vs = true) {l : List α} {u : AV} {M L : Own} {σ : AHeap} {K : KP} (h : OwnS m E R l u M) (hne : l ≠ [] ∨ u = .nilSlice) (hst : St σ K (M ++ L))
    (hcmp : ∀ σ2, St σ2 K.ro [] → ∀ x y vx vy, R x vx → R y vy → EvCall P G0 g [.agg vx, .agg vy] σ2 fun v _ => v = .int .i64 (c x y)) :
    EvCall P G f [u, .func g [] []] σ fun v σ' => v = .tuple [] ∧ ∃ l' M', l'.Perm l ∧ l'.Pairwise (fun x y => decide (c y x < 0) = false) ∧ OwnS m E R l' u M' ∧ St σ' K (M' ++ L) := by
  rcases h with ⟨rfl, rfl, rfl⟩ | ⟨b, cp, cells, e, rfl, rfl, h3, h4, h5, h6⟩
  · refine ev_ktb (v := .tuple []) (σ' := σ) (by rw [hS]; unfold sortK; rw [if_pos rfl]) ⟨rfl, [], [], List.Perm.refl _, List.Pairwise.nil, .inl ⟨rfl, rfl, rfl⟩, hst⟩
  · obtain ⟨n, hn⟩ : ∃ n, l.length = n + 1 := by
      rcases hne with hne | hne
      · cases l with
        | nil => exact absurd rfl hne
        | cons x l => exact ⟨l.length, rfl⟩
      · cases hne
    rw [hn] at h3 h5 h6 ⊢
    have hb : σ.m.get b = some (.row cells e false) := hst.get 0 rfl
    let xs : Fin (n + 1) → α := fun i => l[i.val]'(by rw [hn]; exact i.isLt)
    have hxs : ∀ i : Fin (n + 1), l[i.val]? = some (xs i) := fun i => List.getElem?_eq_getElem _
    let cf : Fin (n + 1) → Fin (n + 1) → Int := fun i j => c (xs i) (xs j)
    have hlt : ∀ i j, ltOf cf i j = decide (c (xs i) (xs j) < 0) := fun i j => rfl
    have hOf : SWO (ltOf cf) := ⟨fun x => by rw [hlt]; exact hO.irrefl _, fun x y z h1 h2 => by rw [hlt] at *; exact hO.trans _ _ _ h1 h2, fun x y z h1 h2 => by rw [hlt] at *; exact hO.ntrans _ _ _ h1 h2⟩
    have hst2 : St (roH σ b) K.ro [] := hst.ro
    have hC : CmpIs P G0 m g σ b cells n cf := ⟨hOf, fun x y => hcmp _ hst2 _ _ _ _ (h4 _ _ (hxs x)) (h4 _ _ (hxs y))⟩
    have hcap : capIs cp = true := by rcases h5 with rfl | ⟨rfl, _⟩ <;> rfl
    have hal : allLeaf (cells.take ((n + 1) * m)) = true := by
      rw [← h3, List.take_length]
      have key : ∀ v ∈ cells, leafB v = true := fun v hv => by
        obtain ⟨t, ht, hv⟩ := List.getElem_of_mem hv
        have hq : t / m < n + 1 := Nat.div_lt_of_lt_mul (by rw [Nat.mul_comm, ← h3]; exact ht)
        have h7 := hleaf _ _ (h4 _ _ (hxs ⟨t / m, hq⟩))
        refine allLeaf_eq h7 v (List.mem_of_getElem? (i := t % m) ?_)
        rw [List.getElem?_take, if_pos (Nat.mod_lt _ hm), List.getElem?_drop, Nat.div_add_mod', List.getElem?_eq_getElem ht, hv]
      exact allLeaf_of key
    have hall : ((n + 1) * m ≤ cells.length ∧ n + 1 < 4611686018427387904 ∧ gs g = true ∧ capIs cp = true ∧ allLeaf (cells.take ((n + 1) * m)) = true) ∧ ∃ cf, CmpIs P G0 m g σ b cells n cf := ⟨⟨by omega, by omega, hgs, hcap, hal⟩, cf, hC⟩
    have hk : G.ktb f [.slice b 0 (n + 1) cp, .func g [] []] σ = some (.tuple [], σ.setObj b (.row (sortCells m cells (sortOrd (Classical.choose hall.2))) e false)) := by
      rw [hS]
      unfold sortK
      rw [if_pos rfl]
      simp only [hb]
      rw [dif_pos hall]
    have hcs : CmpIs P G0 m g σ b cells n (Classical.choose hall.2) := Classical.choose_spec hall.2
    have hceq : Classical.choose hall.2 = cf := by
      funext i j
      obtain ⟨k1, v1, s1, e1, r1⟩ := hcs.2 i j
      obtain ⟨k2, v2, s2, e2, r2⟩ := hC.2 i j
      have a1 := e1 (max k1 k2) (by omega)
      have a2 := e2 (max k1 k2) (by omega)
      rw [a1] at a2; cases a2
      have r3 := r1.symm.trans r2
      injection r3
    rw [hceq] at hk
    have hsz := sortOrd_size hOf
    have hsorts := pdq_sorts (ltOf cf) hOf (Array.ofFn (fun i : Fin (n + 1) => i)) 0 (n + 1) (Lib.bitLen (n + 1)) true true (Nat.zero_le _) (by rw [Array.size_ofFn]; exact Nat.le_refl _) (Or.inl rfl)
    change PermIn 0 (n + 1) _ (sortOrd cf) ∧ SortedIn (ltOf cf) 0 (n + 1) (sortOrd cf) at hsorts
    generalize sortOrd cf = d at hk hsz hsorts
    obtain ⟨⟨_, _, hp⟩, hs⟩ := hsorts
    have hp2 : d.toList.Perm (List.ofFn fun i : Fin (n + 1) => i) := by
      have e1 : d.extract 0 (n + 1) = d := by have := Array.extract_size (xs := d); rwa [hsz] at this
      have e2 : (Array.ofFn (fun i : Fin (n + 1) => i)).extract 0 (n + 1) = Array.ofFn (fun i : Fin (n + 1) => i) := by
        have := Array.extract_size (xs := Array.ofFn (fun i : Fin (n + 1) => i)); rwa [Array.size_ofFn] at this
      rw [e1, e2] at hp
      simpa using hp
    refine ev_ktb hk ⟨rfl, d.toList.map xs, [(b, .row (sortCells m cells d) e false)], ?_, ?_, ?_, hst.set0 _⟩
    · refine (hp2.map xs).trans ?_
      have : (List.ofFn fun i : Fin (n + 1) => i).map xs = l := by
        refine List.ext_getElem? fun i => ?_
        rw [List.getElem?_map, List.getElem?_ofFn]
        by_cases hi : i < n + 1
        · rw [dif_pos hi]; exact (hxs ⟨i, hi⟩).symm
        · rw [dif_neg hi, List.getElem?_eq_none (by omega)]; rfl
      rw [this]
    · refine List.pairwise_map.2 (List.pairwise_iff_getElem.2 fun i j hi hj hij => ?_)
      have hi' : i < d.size := by simpa using hi
      have hj' : j < d.size := by simpa using hj
      have := hs i j (Nat.zero_le _) hij (by omega)
      rw [getElem!_pos _ j hj', getElem!_pos _ i hi'] at this
      exact this
    · have hlen : (d.toList.map xs).length = n + 1 := by rw [List.length_map, Array.length_toList, hsz]
      refine .inr ⟨b, cp, sortCells m cells d, e, by rw [hlen], rfl, ?_, fun i x hx => ?_, by rw [hlen]; exact h5, by rw [hlen]; omega⟩
      · unfold sortCells
        rw [List.length_append, List.length_map, List.length_range, List.length_drop, hsz, hlen, h3]; omega
      · have hi : i < n + 1 := by rw [← hlen]; exact (List.getElem?_eq_some_iff.1 hx).1
        rw [sortCells_get hm hsz h3 hi]
        refine h4 _ _ ?_
        rw [hxs (d[i]!)]
        rw [List.getElem?_map, Array.getElem?_toList, Array.getElem?_eq_getElem (by omega)] at hx
        rw [getElem!_pos _ i (by omega)]
        exact hx
end
end Go.Ev
namespace Go.Ev
variable [Env]
open Go.Proofs
set_option maxRecDepth 4000
set_option maxHeartbeats 8000000
structure Srt (G G0 : Cx) : Prop where
  p : Plain G
  p0 : Plain G0
  k1 : ∀ a s, G.ktb 16 a s = sortK Tryz.prog G0 16 4 (fun g => Nat.beq g 17) 16 a s
theorem perm_x2 {α : Type} (M L : List α) (a b : α) : (a :: b :: (M ++ L)).Perm (a :: (M ++ (b :: L))) := .cons _ List.perm_middle.symm
theorem w_Compact0 {G : Cx} (hG : Plain G) {K : KP} {σ : AHeap} {L : Own} (hst : St σ K L) :
    EvCall Tryz.prog G 18 [.nilSlice, .func 19 [] []] σ fun v σ' => v = .nilSlice ∧ St σ' K L := by
  refine ev_body hG Tryz.func18 rfl (t := (PT.leaf.put (some (.nilSlice)) 0).put (some (.func 19 [] [])) 1) (by rfl) ?_
  refine ev_seq ?_
  refine ev_region rfl ?_
  refine evOps_val rfl (x_assign rfl) rfl ?_
  refine evOps_nil ?_
  refine thenQ_normal ?_
  refine ev_seq ?_
  refine ev_seq ?_
  refine ev_region rfl ?_
  refine evOps_val rfl (x_move rfl) rfl ?_
  refine evOps_val rfl (x_lenNil rfl rfl rfl (e := 41) (by kernel_rfl) rfl) rfl ?_
  refine evOps_val rfl (x_bin (v := .bool true) rfl rfl (rfl)) rfl ?_
  refine evOps_nil ?_
  refine thenQ_normal ?_
  refine ev_cond_true rfl ?_
  refine ev_seq ?_
  refine ev_region rfl ?_
  refine evOps_val rfl (x_move rfl) rfl ?_
  refine evOps_val rfl (x_assign rfl) rfl ?_
  refine evOps_nil ?_
  refine thenQ_normal ?_
  refine ev_ret ?_
  refine thenQ_ret (?_)
  exact end_ret1 rfl rfl ⟨rfl, hst⟩
theorem w_ESorted {G G0 : Cx} (hS : Srt G G0) {K : KP} {ls : List XG} {v : AV} (hl : HasS K 4 (RG K) ls v) (hF : ∀ x ∈ ls, FewZ x) (hn : ls.length ≤ 1048570) {σ : AHeap} {L : Own} (hst : St σ K L) :
    EvCall Tryz.prog G 7 [v] σ fun u σ' => ∃ K', KP.le K K' ∧ HasS K' 4 (RG K') (sortD cmpG ls) u ∧ St σ' K' L := by
  have hG := hS.p
  refine ev_body hG Tryz.func7 rfl (t := PT.leaf.put (some (v)) 0) (by rfl) ?_
  refine ev_seq ?_
  refine ev_region rfl ?_
  refine evOps_val rfl (x_assign rfl) rfl ?_
  refine evOps_nil ?_
  refine thenQ_normal ?_
  refine ev_seq ?_
  refine ev_region rfl ?_
  refine evOps_val rfl (x_assign rfl) rfl ?_
  refine evOps_nil ?_
  refine thenQ_normal ?_
  refine ev_seq ?_
  refine ev_seq ?_
  refine ev_region rfl ?_
  refine evOps_val rfl (x_move rfl) rfl ?_
  refine evOps_val rfl (x_len' hl rfl rfl rfl (e := 41) (by kernel_rfl) rfl) rfl ?_
  refine evOps_val rfl (x_move rfl) rfl ?_
  refine evOps_nil ?_
  refine thenQ_normal ?_
  refine ev_block ?_
  refine ev_loopW [3, 5, 8, 9, 10, 11, 12, 13, 14, 15, 16, 17, 18, 19] (fun j t σ => ∃ (i : Nat) (K3 : KP) (u : AV) (M : Own), j + i = ls.length ∧ KP.le K K3 ∧ OwnS 4 41 (RG K3) (ls.take i) u M ∧ (i = 0 → u = .nilSlice) ∧ t.get 3 = some (u) ∧ t.get 8 = some (.int .i64 (.ofNat i)) ∧ St σ K3 (M ++ L)) (ls.length) ⟨0, K, .nilSlice, [], rfl, KP.le_refl _, .inl ⟨rfl, rfl, rfl⟩, fun _ => rfl, rfl, rfl, hst⟩ ?_
  clear hst; intro j3 t σ hoff hI; obtain ⟨i, K3, u, M, hj3, hle3, hO, hu0, hv3, hv8, hst⟩ := hI
  replace hoff := hoff.ex8 rfl rfl; obtain ⟨o3, o5, o8, o9, o10, o11, o12, o13, hoff⟩ := hoff
  replace hoff := hoff.ex4 rfl; obtain ⟨o14, o15, o16, o17, hoff⟩ := hoff
  replace hoff := hoff.ex1 rfl; obtain ⟨o18, hoff⟩ := hoff
  replace hoff := hoff.ex1 rfl; obtain ⟨o19, hoff⟩ := hoff
  obtain rfl := hoff.nil; clear hoff
  replace hv3 : o3 = some _ := hv3; subst hv3
  replace hv8 : o8 = some _ := hv8; subst hv8
  refine ev_seq ?_
  refine ev_region rfl ?_
  have hl3 := hl.mono hle3 fun _ _ h => h.mono hle3
  refine evOps_val rfl (x_bin rfl rfl rfl) rfl ?_
  refine evOps_nil ?_
  refine thenQ_normal ?_
  refine ev_seq ?_
  refine ev_cond2 rfl (fun h9 => ?_) (fun h9 => ?_)
  · skip
    refine ev_skip ?_
    refine thenQ_normal ?_
    refine ev_seq ?_
    refine ev_block ?_
    refine ev_seq ?_
    refine ev_region rfl ?_
    obtain ⟨x10, hx10, hi10⟩ := at_lt h9
    refine o_idx (e := 41) (m := 4) hl3 hx10 rfl rfl (by kernel_rfl) (by kernel_rfl) rfl rfl (fun _ => rfl) (fun p10 vs10 hp10 hl10 hr10 => ?_)
    have hr10' := hr10; obtain ⟨a10, b10, c10, d10, rfl, hg10⟩ := hr10'
    refine evOps_val rfl (x_ploadW hst hp10 rfl (by kernel_rfl) rfl) rfl ?_
    refine o_ptr hst rfl (x_new (cs := [.nilSlice, .nilSlice, .nilSlice, .nilSlice]) (by kernel_rfl) (by kernel_rfl)) (fun _ => rfl) (fun σ b1 hst => ?_)
    refine o_set0 hst rfl (x_storeC rfl rfl rfl (hst.get 0 rfl) (m := 4) (by kernel_rfl) rfl (Nat.le_of_ble_eq_true rfl) (allLeaf_cons hg10.init.leaf.2 (allLeaf_cons hg10.threads.leaf.2 (allLeaf_cons hg10.from_.leaf.2 (allLeaf_cons hg10.order.leaf.2 allLeaf_nil)))) (cells' := [_, _, _, _]) rfl) rfl (fun σ hst => ?_)
    refine evOps_nil ?_
    refine thenQ_normal ?_
    refine ev_region rfl ?_
    refine evOps_val rfl (x_move rfl) rfl ?_
    refine evOps_val rfl (x_loadN rfl (hst.get 0 rfl) (n := 4) (vs := [_, _, _, _]) (by kernel_rfl) (Nat.le_of_ble_eq_true rfl) rfl) rfl ?_
    refine evOps_val rfl (x_build (places := [(0, 4), (4, 1), (5, 1)]) (zero := [.nilSlice, .nilSlice, .nilSlice, .nilSlice, .nilSlice, .int .i64 0]) (cs := [_, _, _, _, _, _]) (by kernel_rfl) (by kernel_rfl) (by kernel_rfl) rfl (by kernel_rfl)) rfl ?_
    refine o_call rfl (x_call rfl rfl rfl (by kernel_rfl)) (fun _ => rfl) (p_pCopy0 hG hg10 (few_ofZ (hF _ (List.mem_of_getElem? hx10))) hst) ?_
    rintro _ σ ⟨K4, u0, u1, u2, u3, hle4, rfl, hgc, hst⟩
    refine evOps_val rfl (x_fieldN rfl (k := 0) (n := 4) (vs := [_, _, _, _]) (by kernel_rfl) rfl) rfl ?_
    refine o_mk hst rfl (x_buildS (e := 41) (m := 4) (z := [.nilSlice, .nilSlice, .nilSlice, .nilSlice]) (cs := [_, _, _, _]) (by kernel_rfl) (by kernel_rfl) (by kernel_rfl) (by kernel_rfl) (fillA_cons rfl rfl (cells4G hgc.init.leaf hgc.threads.leaf hgc.from_.leaf hgc.order.leaf).1 rfl fillA_nil)) (fun _ => rfl) (fun σ b17 hst => ?_)
    replace hst := hst.perm (perm_x2 ..)
    refine o_app1 (R := RG K4) (m := 4) (e := 41) (hO.monoR fun _ _ h => h.mono hle4) hst (has_one1 (m := 4) (x := x10) rfl ⟨_, _, _, _, rfl, hgc⟩) RG.leaf (by rw [List.length_take]; simp; omega) rfl rfl rfl rfl rfl rfl rfl (fun _ => rfl) (fun σ u18 M18 hO18 hst => ?_)
    replace hst := (hst.perm List.perm_middle).pop
    refine evOps_val rfl (x_assign rfl) rfl ?_
    refine evOps_nil ?_
    refine blockQ_normal ?_
    refine thenQ_normal ?_
    refine ev_region rfl ?_
    refine evOps_val rfl (x_bin rfl rfl rfl) rfl ?_
    refine evOps_val rfl (x_move rfl) rfl ?_
    refine evOps_nil ?_
    refine loopQ_normal ⟨j3 - 1, by have := lt_yes h9; omega, (by (iterate 28 refine OffW.put rfl ?_); exact OffW.refl _ _), i + 1, K4, u18, M18, by have := lt_yes h9; omega, KP.le_trans hle3 hle4, (by rw [List.take_add_one, hx10]; exact hO18), (fun h => absurd h (by omega)), rfl, congrArg (fun z => some (AV.int .i64 z)) (wr_succ (by have := hl.len_le; omega)), hst⟩
  · skip
    refine ev_exit ?_
    refine thenQ_exit ?_
    refine loopQ_exit ?_
    refine blockQ_exit ?_
    refine thenQ_normal ?_
    refine ev_seq ?_
    refine ev_region rfl ?_
    refine evOps_val rfl (x_move rfl) rfl ?_
    have hi9 := lt_no h9
    rw [List.take_of_length_le hi9] at hO
    have hne : ls ≠ [] ∨ u = .nilSlice := by
        by_cases e : ls = []
        · exact .inr (hu0 (by rw [e] at hj3; simp at hj3; omega))
        · exact .inl e
    refine o_call rfl (x_call rfl rfl rfl (by kernel_rfl)) (fun _ => rfl) (ev_sort (m := 4) (c := cmpG) (by omega) (swo_of cmp3_G) hS.k1 rfl RG.leaf hO hne hst fun σ2 h2 x y vx vy hx hy => ?_) ?_
    · obtain ⟨a1, b1, c1, d1, rfl, hx⟩ := hx
      obtain ⟨a2, b2, c2, d2, rfl, hy⟩ := hy
      exact (w_Compare hS.p0 hx.ro hy.ro h2).mono fun _ _ h => h.1
    rintro _ σ ⟨rfl, gs, M2, hperm, hpw, hO4, hst⟩
    refine evOps_nil ?_
    refine thenQ_normal ?_
    refine ev_seq ?_
    refine ev_region rfl ?_
    refine evOps_val rfl (x_move rfl) rfl ?_
    have hcomp : compact cmpG gs = sortD cmpG ls := sort_compact cmp3_G (fun _ _ => trivial) hperm (hpw.imp fun h => of_decide_eq_false h)
    rcases hO4 with ⟨rfl, rfl, rfl⟩ | hO4
    · skip
      refine o_callV rfl (x_call rfl rfl rfl (by kernel_rfl)) (fun _ => rfl) (w_Compact0 hG hst) (fun σ hst => ?_)
      refine evOps_val rfl (x_assign rfl) rfl ?_
      refine evOps_nil ?_
      refine thenQ_normal ?_
      refine ev_ret ?_
      exact end_ret1 rfl rfl ⟨K3, hle3, by rw [← hcomp]; exact .inl ⟨rfl, rfl⟩, hst⟩
    · skip
      obtain ⟨bo, co, cells, eo, rfl, rfl, h3, h4, h5, h6⟩ := hO4
      have hrow : RowG K3 gs cells := ⟨h3, fun i x hx => by
          obtain ⟨a, b, c, d, h7, h8⟩ := h4 i x hx
          exact ⟨a, b, c, d, h7, h8⟩⟩
      refine o_call rfl (x_call rfl rfl rfl (by kernel_rfl)) (fun _ => rfl) (w_Compact hG hrow h6 (h5.imp id fun h => h.1) hst) ?_
      rintro _ σ ⟨c', cells', ts, rfl, hcap, hrow', hlen', hst⟩
      refine evOps_val rfl (x_assign rfl) rfl ?_
      refine evOps_nil ?_
      refine thenQ_normal ?_
      refine ev_ret ?_
      obtain ⟨K4, hle4, hmem, hst⟩ := hst.keeps_ex (M := [_])
      have hfin := (hrow'.mono hle4).hasS (hmem _ (.head _)) (n := (compact cmpG gs).length) (by rw [List.length_append]; omega) hcap hlen'
      rw [List.take_left' rfl, hcomp] at hfin
      rw [hcomp]
      exact end_ret1 rfl rfl ⟨K4, KP.le_trans hle3 hle4, hfin, hst⟩
theorem w_ETwice {G G0 : Cx} (hS : Srt G G0) {K : KP} {ls : List XG} {v : AV} (hl : HasS K 4 (RG K) ls v) (hF : ∀ x ∈ ls, FewZ x) (hn : ls.length ≤ 1048570) {σ : AHeap} {L : Own} (hst : St σ K L) :
    EvCall Tryz.prog G 9 [v] σ fun u σ' => ∃ K', KP.le K K' ∧ u = .bool (ltI (.ofNat (sortD cmpG ls).length) (.ofNat ls.length)) ∧ St σ' K' L := by
  have hG := hS.p
  refine ev_body hG Tryz.func9 rfl (t := PT.leaf.put (some (v)) 0) (by rfl) ?_
  refine ev_seq ?_
  refine ev_region rfl ?_
  refine evOps_val rfl (x_assign rfl) rfl ?_
  refine evOps_nil ?_
  refine thenQ_normal ?_
  refine ev_seq ?_
  refine ev_region rfl ?_
  refine evOps_val rfl (x_move rfl) rfl ?_
  refine o_call rfl (x_call rfl rfl rfl (by kernel_rfl)) (fun _ => rfl) (w_ESorted hS hl hF hn hst) ?_
  rintro u4 σ ⟨K1, hle1, hs4, hst⟩
  refine evOps_val rfl (x_len' hs4 rfl rfl rfl (e := 41) (by kernel_rfl) rfl) rfl ?_
  refine evOps_val rfl (x_move rfl) rfl ?_
  refine evOps_val rfl (x_len' hl rfl rfl rfl (e := 41) (by kernel_rfl) rfl) rfl ?_
  refine evOps_val rfl (x_bin rfl rfl rfl) rfl ?_
  refine evOps_val rfl (x_assign rfl) rfl ?_
  refine evOps_nil ?_
  refine thenQ_normal ?_
  refine ev_ret ?_
  exact end_ret1 rfl rfl ⟨K1, hle1, rfl, hst⟩
theorem r_Twice {G : Cx} (hG : Plain G) {K : KP} {ls : List XG} {v : AV} (hl : HasS K 4 (RG K) ls v) (hF : ∀ x ∈ ls, FewZ x) {σ : AHeap} {L : Own} (hst : St σ K L) :
    EvCall Tryz.prog G 10 [v] σ fun u σ' => (∃ q, u = .bool q ∧ (q = true ↔ ¬ ls.Nodup)) ∧ St σ' K L := by
  refine ev_body hG Tryz.func10 rfl (t := PT.leaf.put (some (v)) 0) (by rfl) ?_
  refine ev_seq ?_
  refine ev_region rfl ?_
  refine evOps_val rfl (x_assign rfl) rfl ?_
  refine evOps_nil ?_
  refine thenQ_normal ?_
  refine ev_seq ?_
  refine ev_seq ?_
  refine ev_region rfl ?_
  refine evOps_val rfl (x_assign rfl) rfl ?_
  refine evOps_nil ?_
  refine thenQ_normal ?_
  refine ev_block ?_
  obtain ⟨LL1, hst, hLL1⟩ := hst.named
  refine ev_loopW [2, 3, 4, 5, 6, 7, 8, 9, 10, 11, 12, 13, 14, 15, 16, 17, 18, 19, 20, 21, 22, 23, 24] (fun j t σ => ∃ (i : Nat), (j + i = ls.length ∧ (ls.take i).Nodup) ∧ t.get 3 = some (.int .i64 (.ofNat i)) ∧ St σ K LL1) (ls.length) ⟨0, ⟨rfl, by rw [List.take_zero]; exact List.nodup_nil⟩, rfl, hst⟩ ?_
  clear hst; intro j2 t σ hoff hI; obtain ⟨i, ⟨hj2, hnd⟩, hv3, hst⟩ := hI
  subst hLL1
  replace hoff := hoff.ex8 rfl rfl; obtain ⟨o2, o3, o4, o5, o6, o7, o8, o9, hoff⟩ := hoff
  replace hoff := hoff.ex8 rfl rfl; obtain ⟨o10, o11, o12, o13, o14, o15, o16, o17, hoff⟩ := hoff
  replace hoff := hoff.ex4 rfl; obtain ⟨o18, o19, o20, o21, hoff⟩ := hoff
  replace hoff := hoff.ex1 rfl; obtain ⟨o22, hoff⟩ := hoff
  replace hoff := hoff.ex1 rfl; obtain ⟨o23, hoff⟩ := hoff
  replace hoff := hoff.ex1 rfl; obtain ⟨o24, hoff⟩ := hoff
  obtain rfl := hoff.nil; clear hoff
  replace hv3 : o3 = some _ := hv3; subst hv3
  refine ev_seq ?_
  refine ev_seq ?_
  refine ev_region rfl ?_
  refine evOps_val rfl (x_move rfl) rfl ?_
  refine evOps_val rfl (x_move rfl) rfl ?_
  refine evOps_val rfl (x_len' hl rfl rfl rfl (e := 41) (by kernel_rfl) rfl) rfl ?_
  refine evOps_val rfl (x_bin rfl rfl rfl) rfl ?_
  refine evOps_nil ?_
  refine thenQ_normal ?_
  refine ev_cond2 rfl (fun h8 => ?_) (fun h8 => ?_)
  · skip
    refine ev_skip ?_
    refine thenQ_normal ?_
    refine ev_seq ?_
    refine ev_block ?_
    refine ev_seq ?_
    refine ev_region rfl ?_
    refine evOps_val rfl (x_assign rfl) rfl ?_
    refine evOps_nil ?_
    refine thenQ_normal ?_
    refine ev_block ?_
    obtain ⟨LL2, hst, hLL2⟩ := hst.named
    refine ev_loopW [2, 4, 11, 12, 13, 14, 15, 16, 17, 18, 19, 20, 21, 22, 23, 24] (fun j t σ => ∃ (q : Nat), (j + q = i ∧ ∀ xi, ls[i]? = some xi → xi ∉ ls.take q) ∧ t.get 4 = some (.int .i64 (.ofNat q)) ∧ St σ K LL2) (i) ⟨0, ⟨rfl, fun _ _ h => by simp at h⟩, rfl, hst⟩ ?_
    clear hst; intro j5 t σ hoff hI; obtain ⟨q, ⟨hj5, hno⟩, hv4, hst⟩ := hI
    subst hLL2
    replace hoff := hoff.ex8 rfl rfl; obtain ⟨o2, o4, o11, o12, o13, o14, o15, o16, hoff⟩ := hoff
    replace hoff := hoff.ex8 rfl rfl; obtain ⟨o17, o18, o19, o20, o21, o22, o23, o24, hoff⟩ := hoff
    obtain rfl := hoff.nil; clear hoff
    replace hv4 : o4 = some _ := hv4; subst hv4
    refine ev_seq ?_
    refine ev_seq ?_
    refine ev_region rfl ?_
    refine evOps_val rfl (x_move rfl) rfl ?_
    refine evOps_val rfl (x_move rfl) rfl ?_
    refine evOps_val rfl (x_bin rfl rfl rfl) rfl ?_
    refine evOps_nil ?_
    refine thenQ_normal ?_
    refine ev_cond2 rfl (fun h13 => ?_) (fun h13 => ?_)
    · skip
      refine ev_skip ?_
      refine thenQ_normal ?_
      refine ev_seq ?_
      refine ev_block ?_
      refine ev_seq ?_
      refine ev_region_plan (l := [(0, []), (1, []), (2, []), (3, []), (4, []), (5, []), (6, []), (7, []), (8, [])]) (by kernel_rfl) (by kernel_rfl) ?_
      have hkl : q < ls.length := by have := lt_yes h13; have := lt_yes h8; omega
      obtain ⟨x22, hx22⟩ := at_of hkl
      refine evPlan_val rfl rfl (x_move rfl) rfl ?_
      refine evPlan_val rfl rfl (x_move rfl) rfl ?_
      obtain ⟨x18, hx18, hi18⟩ := at_lt h8
      refine p_idx (e := 41) (m := 4) hl hx18 rfl rfl rfl (by kernel_rfl) (by kernel_rfl) rfl rfl (fun _ => rfl) (fun p18 vs18 hp18 hl18 hr18 => ?_)
      have hr18' := hr18; obtain ⟨a18, b18, c18, d18, rfl, hg18⟩ := hr18'
      refine evPlan_val rfl rfl (x_ploadW hst hp18 rfl (by kernel_rfl) rfl) rfl ?_
      refine evPlan_val rfl rfl (x_move rfl) rfl ?_
      refine evPlan_val rfl rfl (x_move rfl) rfl ?_
      refine p_idx (e := 41) (m := 4) hl hx22 rfl rfl rfl (by kernel_rfl) (by kernel_rfl) rfl rfl (fun _ => rfl) (fun p22 vs22 hp22 hl22 hr22 => ?_)
      have hr22' := hr22; obtain ⟨a22, b22, c22, d22, rfl, hg22⟩ := hr22'
      refine evPlan_val rfl rfl (x_ploadW hst hp22 rfl (by kernel_rfl) rfl) rfl ?_
      refine p_callV rfl rfl (x_call rfl rfl rfl (by kernel_rfl)) (fun _ => rfl) (r_SameG hG hg18 hg22 (hF _ (List.mem_of_getElem? hx18)) (hF _ (List.mem_of_getElem? hx22)) hst) (fun σ hst => ?_)
      refine ⟨still_nil, ?_⟩
      refine evPlan_nil ?_
      refine thenQ_normal ?_
      refine ev_cond2 rfl (fun h24 => ?_) (fun h24 => ?_)
      · skip
        refine ev_seq ?_
        refine ev_region rfl ?_
        refine evOps_val rfl (x_assign rfl) rfl ?_
        refine evOps_nil ?_
        refine thenQ_normal ?_
        refine ev_ret ?_
        refine blockQ_ret (thenQ_ret (loopQ_ret (blockQ_ret (blockQ_ret (thenQ_ret (loopQ_ret (blockQ_ret (thenQ_ret (?_)))))))))
        exact end_ret1 rfl rfl ⟨⟨_, rfl, fun _ => twice_no hx18 (by rw [cmpG_eq (eqC_eq0 h24)]; exact hx22) (lt_yes h13), fun _ => rfl⟩, hst⟩
      · skip
        refine ev_skip ?_
        refine blockQ_normal ?_
        refine thenQ_normal ?_
        refine ev_region rfl ?_
        refine evOps_val rfl (x_move rfl) rfl ?_
        refine evOps_val rfl (x_bin rfl rfl rfl) rfl ?_
        refine evOps_val rfl (x_assign rfl) rfl ?_
        refine evOps_nil ?_
        refine loopQ_normal ⟨j5 - 1, (by have := lt_yes h13; omega), (by (iterate 31 refine OffW.put rfl ?_); exact OffW.refl _ _), q + 1, ⟨by have := lt_yes h13; omega, fun xi hxi hm => by
            rw [List.take_add_one, hx22] at hm
            rcases List.mem_append.1 hm with hm | hm
            · exact hno xi hxi hm
            · have e1 : xi = x18 := Option.some.inj (hxi.symm.trans hx18)
              have e2 : xi = x22 := List.mem_singleton.1 hm
              exact eqC_ne h24 (by rw [← e1, ← e2]; exact cmpG_self _)⟩, congrArg (fun z => some (AV.int .i64 z)) (wr_succ (by have := lt_yes h13; have := lt_yes h8; have := hl.len_le; omega)), hst⟩
    · skip
      refine ev_exit ?_
      refine thenQ_exit ?_
      refine loopQ_exit ?_
      refine blockQ_exit ?_
      refine blockQ_normal ?_
      refine thenQ_normal ?_
      refine ev_region rfl ?_
      refine evOps_val rfl (x_move rfl) rfl ?_
      refine evOps_val rfl (x_bin rfl rfl rfl) rfl ?_
      refine evOps_val rfl (x_assign rfl) rfl ?_
      refine evOps_nil ?_
      refine loopQ_normal ⟨j2 - 1, (by have := lt_yes h8; omega), (by (iterate 50 refine OffW.put rfl ?_); exact OffW.refl _ _), i + 1, ⟨by have := lt_yes h8; omega, by
          obtain ⟨xi, hxi⟩ := at_of (lt_yes h8)
          exact nodup_snoc hxi hnd (fun hm => hno xi hxi (by rwa [show q = i by have := lt_no h13; omega]))⟩, congrArg (fun z => some (AV.int .i64 z)) (wr_succ (by have := lt_yes h8; have := hl.len_le; omega)), hst⟩
  · skip
    refine ev_exit ?_
    refine thenQ_exit ?_
    refine loopQ_exit ?_
    refine blockQ_exit ?_
    refine thenQ_normal ?_
    refine ev_seq ?_
    refine ev_region rfl ?_
    refine evOps_val rfl (x_assign rfl) rfl ?_
    refine evOps_nil ?_
    refine thenQ_normal ?_
    refine ev_ret ?_
    exact end_ret1 rfl rfl ⟨⟨_, rfl, fun h => absurd h (by decide), fun hm => absurd (by rw [← List.take_of_length_le (lt_no h8)]; exact hnd) hm⟩, hst⟩
theorem twice_same {ls : List XG} {q : Bool} (h : q = true ↔ ¬ ls.Nodup) : ltI (.ofNat (sortD cmpG ls).length) (.ofNat ls.length) = q := by
  have h1 := sortD_twice cmp3_G (l := ls) fun _ _ => trivial
  rw [ltI_eq]
  have h2 : (Int.ofNat (sortD cmpG ls).length < Int.ofNat ls.length) ↔ q = true := by rw [h, ← h1]; exact Int.ofNat_lt
  cases q
  · exact decide_eq_false fun h3 => by have := h2.1 h3; cases this
  · exact decide_eq_true (h2.2 rfl)
theorem w_ExploreLists {G G0 : Cx} (hS : Srt G G0) (hliv : G.tbl 4 [] = some (.bool true)) {K : KP} (hlaid : ∀ σ L, St σ K L → laidGo G.gl σ G.laid = true) {ls : List XG} {v : AV} (hl : HasS K 4 (RG K) ls v) (hF : ∀ x ∈ ls, FewZ x) (hn : ls.length ≤ 1048570) {σ : AHeap} {L : Own} (hst : St σ K L) :
    EvCall Tryz.prog G 3 [v] σ fun u σ' => u = .bool true := by
  have hG := hS.p
  refine ev_body hG Tryz.func3 rfl (t := PT.leaf.put (some (v)) 0) (by rfl) ?_
  refine ev_seq ?_
  refine ev_region rfl ?_
  refine evOps_val rfl (x_assign rfl) rfl ?_
  refine evOps_nil ?_
  refine thenQ_normal ?_
  refine ev_seq ?_
  refine ev_seq ?_
  refine ev_region rfl ?_
  refine o_callV rfl (x_call rfl rfl rfl (by kernel_rfl)) (fun _ => rfl) (ev_known (v := .bool true) (hG.h1 _ _ _ rfl) hliv rfl rfl (hlaid _ _ hst) ⟨rfl, hst⟩) (fun σ hst => ?_)
  refine evOps_val rfl (x_not rfl) rfl ?_
  refine evOps_nil ?_
  refine thenQ_normal ?_
  refine ev_cond_false rfl ?_
  refine ev_skip ?_
  refine thenQ_normal ?_
  refine ev_seq ?_
  refine ev_seq ?_
  refine ev_region rfl ?_
  refine evOps_val rfl (x_move rfl) rfl ?_
  refine o_call rfl (x_call rfl rfl rfl (by kernel_rfl)) (fun _ => rfl) (w_FewGraphs hG hl 40 60 hst) ?_
  rintro _ σ ⟨⟨q6, rfl, hq6⟩, hst⟩
  refine evOps_val rfl (x_not rfl) rfl ?_
  refine evOps_nil ?_
  refine thenQ_normal ?_
  refine ev_cond2 rfl (fun h7 => ?_) (fun h7 => ?_)
  · skip
    refine ev_seq ?_
    refine ev_region rfl ?_
    refine evOps_val rfl (x_assign rfl) rfl ?_
    refine evOps_nil ?_
    refine thenQ_normal ?_
    refine ev_ret ?_
    refine thenQ_ret (?_)
    exact end_ret1 rfl rfl rfl
  · skip
    refine ev_skip ?_
    refine thenQ_normal ?_
    refine ev_seq ?_
    refine ev_region rfl ?_
    refine evOps_val rfl (x_move rfl) rfl ?_
    have hn40 : ls.length ≤ 1000 := Nat.le_trans (hq6 (notB_f h7)) (by decide)
    refine o_call rfl (x_call rfl rfl rfl (by kernel_rfl)) (fun _ => rfl) (w_ESorted hS hl hF hn hst) ?_
    rintro u9 σ ⟨K1, hle1, hs9, hst⟩
    replace hl := hl.mono hle1 fun _ _ h => h.mono hle1
    refine evOps_val rfl (x_move rfl) rfl ?_
    refine o_call rfl (x_call rfl rfl rfl (by kernel_rfl)) (fun _ => rfl) (r_Sorted hG hl hF hn40 hst) ?_
    rintro u11 σ ⟨K2, hle2, hs11, hst⟩
    replace hl := hl.mono hle2 fun _ _ h => h.mono hle2; replace hs9 := hs9.mono hle2 fun _ _ h => h.mono hle2
    refine o_call rfl (x_call rfl rfl rfl (by kernel_rfl)) (fun _ => rfl) (w_Graphs hG hs9 hs11 hst) ?_
    rintro _ σ ⟨⟨q12, rfl, hq12⟩, hst⟩
    obtain rfl := hq12.2 rfl
    refine evOps_val rfl (x_move rfl) rfl ?_
    refine evOps_val rfl (x_move rfl) rfl ?_
    refine o_call rfl (x_call rfl rfl rfl (by kernel_rfl)) (fun _ => rfl) (w_ETwice hS hl hF hn hst) ?_
    rintro _ σ ⟨K3, hle3, rfl, hst⟩
    replace hl := hl.mono hle3 fun _ _ h => h.mono hle3
    refine evOps_val rfl (x_move rfl) rfl ?_
    refine o_call rfl (x_call rfl rfl rfl (by kernel_rfl)) (fun _ => rfl) (r_Twice hG hl hF hst) ?_
    rintro _ σ ⟨⟨q17, rfl, hq17⟩, hst⟩
    have htw : ltI (.ofNat (sortD cmpG ls).length) (.ofNat ls.length) = q17 := twice_same hq17
    rw [htw]
    refine evOps_val rfl (x_bin rfl rfl rfl) rfl ?_
    refine evOps_val rfl (x_pick rfl rfl) rfl ?_
    refine evOps_val rfl (x_assign rfl) rfl ?_
    refine evOps_nil ?_
    refine thenQ_normal ?_
    refine ev_ret ?_
    exact end_ret1 rfl rfl (by first | rfl | (cases q17 <;> rfl))
end Go.Ev
namespace Go.Ev
variable [Env]
open Go.Proofs
set_option maxRecDepth 100000
set_option maxHeartbeats 8000000
theorem drawnM : Tryz.prog.follows .mixedOrders = true := by kernel_rfl
def isOvM (g : Nat) : Bool := (Nat.beq g 196 || Nat.beq g 216)
def isInsM (f : Nat) : Bool := (Nat.beq f 167 || Nat.beq f 186)
theorem ov196 : OvFact Tryz.prog 196 := by
  obtain ⟨j, hj⟩ : ∃ j, Tryz.prog.info? 81 = some j := Option.isSome_iff_exists.1 (by kernel_rfl)
  exact .inl ⟨by kernel_rfl, Tryz.f196, 71, 4, 81, j, Tryz.func196, by kernel_rfl, by kernel_rfl, by kernel_rfl, by kernel_rfl, by kernel_rfl, hj⟩
theorem ov216 : OvFact Tryz.prog 216 := by
  obtain ⟨j, hj⟩ : ∃ j, Tryz.prog.info? 84 = some j := Option.isSome_iff_exists.1 (by kernel_rfl)
  exact .inl ⟨by kernel_rfl, Tryz.f216, 43, 4, 84, j, Tryz.func216, by kernel_rfl, by kernel_rfl, by kernel_rfl, by kernel_rfl, by kernel_rfl, hj⟩
theorem ovsM (g : Nat) (h : isOvM g = true) : OvFact Tryz.prog g := by
  unfold isOvM at h
  simp only [Bool.or_eq_true, Nat.beq_eq] at h
  rcases h with rfl | rfl
  · exact ov196
  · exact ov216
def cells0 : List AV := [.bool false, .bool false, .bool false, .bool false, .int .i64 0, .bool true, .bool false, .bool false, .bool false, .int .i64 1, .bool true, .bool true, .bool true, .bool false, .int .i64 0, .bool false, .bool true, .bool true, .bool false, .int .i64 1, .bool true, .bool true, .bool true, .bool false, .int .i64 2, .bool true, .bool true, .bool true, .bool false, .int .i64 1, .bool true, .bool true, .bool true, .bool false, .int .i64 1, .bool false, .bool false, .bool true, .bool false, .int .i64 0, .bool false, .bool false, .bool false, .bool false, .int .i64 1, .bool false, .bool false, .bool false, .bool false, .int .i64 1, .bool false, .bool false, .bool false, .bool true, .int .i64 0, .bool false, .bool false, .bool false, .bool true, .int .i64 1, .bool false, .bool false, .bool false, .bool false, .int .i64 0, .bool false, .bool false, .bool false, .bool false, .int .i64 0]
def cells1 : List AV := [.int .u8 0, .int .u8 1, .int .u8 56, .int .u8 2, .int .u8 57, .int .u8 49, .int .u8 28, .int .u8 3, .int .u8 61, .int .u8 58, .int .u8 42, .int .u8 50, .int .u8 38, .int .u8 29, .int .u8 17, .int .u8 4, .int .u8 62, .int .u8 47, .int .u8 59, .int .u8 36, .int .u8 45, .int .u8 43, .int .u8 51, .int .u8 22, .int .u8 53, .int .u8 39, .int .u8 33, .int .u8 30, .int .u8 24, .int .u8 18, .int .u8 12, .int .u8 5, .int .u8 63, .int .u8 55, .int .u8 48, .int .u8 27, .int .u8 60, .int .u8 41, .int .u8 37, .int .u8 16, .int .u8 46, .int .u8 35, .int .u8 44, .int .u8 21, .int .u8 52, .int .u8 32, .int .u8 23, .int .u8 11, .int .u8 54, .int .u8 26, .int .u8 40, .int .u8 15, .int .u8 34, .int .u8 20, .int .u8 31, .int .u8 10, .int .u8 25, .int .u8 14, .int .u8 19, .int .u8 9, .int .u8 13, .int .u8 8, .int .u8 7, .int .u8 6]
def cells4 : List AV := [.int .u64 1, .int .u64 10, .int .u64 100, .int .u64 1000, .int .u64 10000, .int .u64 100000, .int .u64 1000000, .int .u64 10000000, .int .u64 100000000, .int .u64 1000000000, .int .u64 10000000000, .int .u64 100000000000, .int .u64 1000000000000, .int .u64 10000000000000, .int .u64 100000000000000, .int .u64 1000000000000000, .int .u64 10000000000000000, .int .u64 100000000000000000, .int .u64 1000000000000000000, .int .u64 10000000000000000000]
def cells5 : List AV := [.int .u8 0, .int .u8 1, .int .u8 28, .int .u8 2, .int .u8 29, .int .u8 14, .int .u8 24, .int .u8 3, .int .u8 30, .int .u8 22, .int .u8 20, .int .u8 15, .int .u8 25, .int .u8 17, .int .u8 4, .int .u8 8, .int .u8 31, .int .u8 27, .int .u8 13, .int .u8 23, .int .u8 21, .int .u8 19, .int .u8 16, .int .u8 7, .int .u8 26, .int .u8 12, .int .u8 18, .int .u8 6, .int .u8 11, .int .u8 5, .int .u8 10, .int .u8 9]
def laidL : List (Nat × List AV) := [(0, cells0), (1, cells1), (4, cells4), (5, cells5)]
theorem wfL : wfLaid 6 laidL = true := by kernel_rfl
def GL : Cx := ⟨6, isOvM, isInsM, fun _ _ => none, laidL, [], fun _ _ _ => none, fun _ _ _ => none⟩
theorem okGL : CxOK Tryz.prog GL := ⟨ovsM, (fun f args v h => by cases h), (fun e h => by cases h), (fun f a s v s' h => by cases h)⟩
end Go.Ev
end
