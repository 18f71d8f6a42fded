/- Walks and runs: what functions of the program come to, on the evaluator. Without conditions. -/
import Derived.Test.YtgmdncbbcgiomaaTb
set_option linter.unusedSectionVars false
set_option linter.unusedVariables false
set_option linter.unusedSimpArgs false
namespace Go.Ev
variable [Env]
open Go.Proofs
set_option maxRecDepth 4000
set_option maxHeartbeats 8000000

theorem w_rreads {G : Cx} (hG : Plain G) {K : KP} (e : XEv) {σ : AHeap} {L : Own} (hst : St σ K L) : EvCall Try.prog G 80 [.agg (ints e.ints)] σ fun v σ' => v = .bool (readsB e) ∧ St σ' K L := by
 refine eY hG Try.func80 rfl (t := PT.leaf.put (some (.agg (ints e.ints))) 0) (by rfl) ?_
 refine eS ?_
 refine eR rfl ?_
 refine oP hst rfl (xo_ rfl rfl) (fun _ => rfl) (fun σ b1 hst => ?_)
 refine eV rfl (xA rfl) rfl ?_
 refine eN ?_
 refine tN ?_
 refine eS ?_
 refine eR rfl ?_
 refine eV rfl (xF rfl (k := 0) (by kernel_rfl)) rfl ?_
 refine eV rfl (x1_ rfl (hst.get 0 rfl) (by kernel_rfl) rfl) rfl ?_
 refine eV rfl (xB rfl rfl rfl) rfl ?_
 refine oS rfl (xM rfl) (fun _ => rfl) (fun h6 => ?_) (fun h6 => ?_)
 ·refine eU rfl rfl ?_
  refine eU rfl rfl ?_
  refine eU rfl rfl ?_
  refine eV rfl (xP rfl rfl) rfl ?_
  refine eV rfl (xA rfl) rfl ?_
  refine eN ?_
  refine tN ?_
  refine eT ?_
  exact r1_ rfl rfl ⟨congrArg AV.bool (by unfold readsB; simp only [h6, cond_true, cond_false]), hst.pop⟩
 ·refine eV rfl (xF rfl (k := 0) (by kernel_rfl)) rfl ?_
  refine eV rfl (x1_ rfl (hst.get 0 rfl) (by kernel_rfl) rfl) rfl ?_
  refine eV rfl (xB rfl rfl rfl) rfl ?_
  refine eV rfl (xP rfl rfl) rfl ?_
  refine eV rfl (xA rfl) rfl ?_
  refine eN ?_
  refine tN ?_
  refine eT ?_
  exact r1_ rfl rfl ⟨congrArg AV.bool (by unfold readsB; simp only [h6, cond_true, cond_false]), hst.pop⟩
theorem w_rwrites {G : Cx} (hG : Plain G) {K : KP} (e : XEv) {σ : AHeap} {L : Own} (hst : St σ K L) : EvCall Try.prog G 81 [.agg (ints e.ints)] σ fun v σ' => v = .bool (writesB e) ∧ St σ' K L := by
 refine eY hG Try.func81 rfl (t := PT.leaf.put (some (.agg (ints e.ints))) 0) (by rfl) ?_
 refine eS ?_
 refine eR rfl ?_
 refine oP hst rfl (xo_ rfl rfl) (fun _ => rfl) (fun σ b1 hst => ?_)
 refine eV rfl (xA rfl) rfl ?_
 refine eN ?_
 refine tN ?_
 refine eS ?_
 refine eR rfl ?_
 refine eV rfl (xF rfl (k := 0) (by kernel_rfl)) rfl ?_
 refine eV rfl (x1_ rfl (hst.get 0 rfl) (by kernel_rfl) rfl) rfl ?_
 refine eV rfl (xB rfl rfl rfl) rfl ?_
 refine oS rfl (xM rfl) (fun _ => rfl) (fun h6 => ?_) (fun h6 => ?_)
 ·refine eU rfl rfl ?_
  refine eU rfl rfl ?_
  refine eU rfl rfl ?_
  refine eV rfl (xP rfl rfl) rfl ?_
  refine eV rfl (xA rfl) rfl ?_
  refine eN ?_
  refine tN ?_
  refine eT ?_
  exact r1_ rfl rfl ⟨congrArg AV.bool (by unfold writesB; simp only [h6, cond_true, cond_false]), hst.pop⟩
 ·refine eV rfl (xF rfl (k := 0) (by kernel_rfl)) rfl ?_
  refine eV rfl (x1_ rfl (hst.get 0 rfl) (by kernel_rfl) rfl) rfl ?_
  refine eV rfl (xB rfl rfl rfl) rfl ?_
  refine eV rfl (xP rfl rfl) rfl ?_
  refine eV rfl (xA rfl) rfl ?_
  refine eN ?_
  refine tN ?_
  refine eT ?_
  exact r1_ rfl rfl ⟨congrArg AV.bool (by unfold writesB; simp only [h6, cond_true, cond_false]), hst.pop⟩
theorem w_revent {G : Cx} (hG : Plain G) {K : KP} {g : XG} {a b c d : AV} (h : HasG K g a b c d) (th ix : Int) {σ : AHeap} {L : Own} (hst : St σ K L) : EvCall Try.prog G 46 [.agg [a, b, c, d], .agg [.int .i64 th, .int .i64 ix]] σ fun v σ' => v = .tuple [.agg (ints (evD (evAt g ⟨th, ix⟩)).ints), .bool (evAt g ⟨th, ix⟩).isSome] ∧ St σ' K L := by
 have h' := h; obtain ⟨hi, ht, hf, ho⟩ := h'
 refine eY hG Try.func46 rfl (t := (PT.leaf.put (some (.agg [a, b, c, d])) 0).put (some (.agg [.int .i64 th, .int .i64 ix])) 1) (by rfl) ?_
 refine eS ?_
 refine eR rfl ?_
 refine oP hst rfl (xo_ rfl rfl) (fun _ => rfl) (fun σ b1 hst => ?_)
 refine oP hst rfl (xo_ rfl rfl) (fun _ => rfl) (fun σ b2 hst => ?_)
 refine oP hst rfl (xe (cs := [.int .i64 0, .int .i64 0, .int .i64 0, .int .i64 0, .int .i64 0]) (by kernel_rfl) (by kernel_rfl)) (fun _ => rfl) (fun σ b3 hst => ?_)
 refine eV rfl (xA rfl) rfl ?_
 refine eN ?_
 refine tN ?_
 refine eS ?_
 refine eS ?_
 refine eR rfl ?_
 refine eV rfl (xF rfl (k := 0) (by kernel_rfl)) rfl ?_
 refine eV rfl (x1_ rfl (hst.get 1 rfl) (by kernel_rfl) rfl) rfl ?_
 refine eV rfl (xB rfl rfl rfl) rfl ?_
 refine eN ?_
 refine tN ?_
 refine e2_ rfl (fun h8 => ?_) (fun h8 => ?_)
 ·refine eS ?_
  refine eS ?_
  refine eR rfl ?_
  refine eV rfl (xF rfl (k := 1) (by kernel_rfl)) rfl ?_
  refine eV rfl (x1_ rfl (hst.get 1 rfl) (by kernel_rfl) rfl) rfl ?_
  refine eV rfl (xB rfl rfl rfl) rfl ?_
  refine oS rfl (xM rfl) (fun _ => rfl) (fun h12 => ?_) (fun h12 => ?_)
  ·refine eU rfl rfl ?_
   refine eU rfl rfl ?_
   refine eU rfl rfl ?_
   refine eU rfl rfl ?_
   refine eU rfl rfl ?_
   refine eU rfl rfl ?_
   refine eV rfl (xP rfl rfl) rfl ?_
   refine eN ?_
   refine tN ?_
   refine eA rfl ?_
   refine eS ?_
   refine eR rfl ?_
   refine eV rfl (xb_ (places := [(0, 1), (1, 1), (2, 1), (3, 1), (4, 1)]) (zero := [.int .i64 0, .int .i64 0, .int .i64 0, .int .i64 0, .int .i64 0]) (cs := [_, _, _, _, _]) (by kernel_rfl) (by kernel_rfl) (by kernel_rfl) rfl (by kernel_rfl)) rfl ?_
   refine o_set0 hst rfl (xS rfl rfl rfl (hst.get 0 rfl) (m := 5) (by kernel_rfl) rfl (Nat.le_of_ble_eq_true rfl) (lC rfl (lC rfl (lC rfl (lC rfl (lC rfl l0_))))) (cells' := [_, _, _, _, _]) rfl) rfl (fun σ hst => ?_)
   refine eV rfl (xA rfl) rfl ?_
   refine eN ?_
   refine tN ?_
   refine eT ?_
   refine tR (tR (?_))
   exact rc_ rfl rfl (hst.get 0 rfl) (m := 5) (by kernel_rfl) rfl rfl ⟨by rw [evAt_neg2 h12]; rfl, hst.pop.pop.pop⟩
  ·refine eV rfl (xF rfl (k := 1) (by kernel_rfl)) rfl ?_
   refine eV rfl (x1_ rfl (hst.get 1 rfl) (by kernel_rfl) rfl) rfl ?_
   refine eV rfl (xF rfl (k := 0) (by kernel_rfl)) rfl ?_
   refine eV rfl (x1_ rfl (hst.get 2 rfl) (by kernel_rfl) rfl) rfl ?_
   refine eV rfl (x_len' hi rfl rfl rfl (e := 2) (by kernel_rfl) rfl) rfl ?_
   refine eV rfl (xB rfl rfl rfl) rfl ?_
   refine eV rfl (xP rfl rfl) rfl ?_
   refine eN ?_
   refine tN ?_
   refine e2_ rfl (fun h19 => ?_) (fun h19 => ?_)
   ·obtain ⟨ixn, rfl⟩ := nat_of h12
    obtain rfl : th = 0 := by rw [eqI_eq] at h8; simpa using h8
    refine eS ?_
    refine eR rfl ?_
    refine eV rfl (xb_ (places := [(0, 1), (1, 1), (2, 1), (3, 1), (4, 1)]) (zero := [.int .i64 0, .int .i64 0, .int .i64 0, .int .i64 0, .int .i64 0]) (cs := [_, _, _, _, _]) (by kernel_rfl) (by kernel_rfl) (by kernel_rfl) rfl (by kernel_rfl)) rfl ?_
    refine o_set0 hst rfl (xS rfl rfl rfl (hst.get 0 rfl) (m := 5) (by kernel_rfl) rfl (Nat.le_of_ble_eq_true rfl) (lC rfl (lC rfl (lC rfl (lC rfl (lC rfl l0_))))) (cells' := [_, _, _, _, _]) rfl) rfl (fun σ hst => ?_)
    refine eV rfl (xA rfl) rfl ?_
    refine eN ?_
    refine tN ?_
    refine eT ?_
    refine tR (tR (?_))
    exact rc_ rfl rfl (hst.get 0 rfl) (m := 5) (by kernel_rfl) rfl rfl ⟨by rw [show evAt g _ = none from by show (g.init[ixn]?).map _ = _; rw [List.getElem?_eq_none (ge_of_ge h19)]; rfl]; rfl, hst.pop.pop.pop⟩
   ·obtain ⟨ixn, rfl⟩ := nat_of h12
    obtain rfl : th = 0 := by rw [eqI_eq] at h8; simpa using h8
    refine eI ?_
    refine tN ?_
    refine eS ?_
    refine eP (l := [(0, []), (1, []), (2, []), (3, []), (4, []), (5, []), (6, []), (7, []), (8, []), (9, []), (10, [])]) (by kernel_rfl) (by kernel_rfl) ?_
    refine pV rfl rfl (xF rfl (k := 1) (by kernel_rfl)) rfl ?_
    refine pV rfl rfl (x1_ rfl (hst.get 1 rfl) (by kernel_rfl) rfl) rfl ?_
    refine pV rfl rfl (xF rfl (k := 0) (by kernel_rfl)) rfl ?_
    refine pV rfl rfl (x1_ rfl (hst.get 2 rfl) (by kernel_rfl) rfl) rfl ?_
    refine pV rfl rfl (xF rfl (k := 1) (by kernel_rfl)) rfl ?_
    refine pV rfl rfl (x1_ rfl (hst.get 1 rfl) (by kernel_rfl) rfl) rfl ?_
    obtain ⟨x27, hx27⟩ := at_of (lt_of_ge h19)
    refine pi (e := 2) (m := 1) hi hx27 rfl rfl rfl (by kernel_rfl) (by kernel_rfl) rfl rfl (fun _ => rfl) (fun p27 vs27 hp27 hl27 hr27 => ?_)
    obtain rfl := hr27
    refine pV rfl rfl (xp hst hp27 rfl (by kernel_rfl) rfl) rfl ?_
    refine pV rfl rfl (xb_ (places := [(0, 1), (1, 1), (2, 1), (3, 1), (4, 1)]) (zero := [.int .i64 0, .int .i64 0, .int .i64 0, .int .i64 0, .int .i64 0]) (cs := [_, _, _, _, _]) (by kernel_rfl) (by kernel_rfl) (by kernel_rfl) rfl (by kernel_rfl)) rfl ?_
    refine p_set0 hst rfl rfl (xS rfl rfl rfl (hst.get 0 rfl) (m := 5) (by kernel_rfl) rfl (Nat.le_of_ble_eq_true rfl) (lC rfl (lC rfl (lC rfl (lC rfl (lC rfl l0_))))) (cells' := [_, _, _, _, _]) rfl) rfl (fun σ hst => ?_)
    refine ⟨s0, ?_⟩
    refine pV rfl rfl (xA rfl) rfl ?_
    refine pN ?_
    refine tN ?_
    refine eT ?_
    refine tR (?_)
    exact rc_ rfl rfl (hst.get 0 rfl) (m := 5) (by kernel_rfl) rfl rfl ⟨by rw [show evAt g _ = some _ from by show (g.init[ixn]?).map _ = _; rw [hx27]; rfl]; rfl, hst.pop.pop.pop⟩
 ·refine eI ?_
  refine tN ?_
  refine eS ?_
  refine eS ?_
  refine eP (l := [(0, []), (1, []), (2, []), (3, []), (4, []), (5, []), (6, []), (7, []), (8, []), (9, []), (10, []), (11, []), (12, []), (13, []), (14, []), (15, []), (16, []), (17, []), (18, []), (19, []), (20, []), (21, []), (22, []), (23, []), (24, []), (25, []), (26, []), (27, []), (28, [])]) (by kernel_rfl) (by kernel_rfl) ?_
  refine pV rfl rfl (xF rfl (k := 0) (by kernel_rfl)) rfl ?_
  refine pV rfl rfl (x1_ rfl (hst.get 1 rfl) (by kernel_rfl) rfl) rfl ?_
  refine pV rfl rfl (xB rfl rfl rfl) rfl ?_
  refine ps_ rfl rfl (xM rfl) (fun _ => rfl) (fun h33 => ?_) (fun h33 => ?_)
  ·refine pU rfl rfl rfl ?_
   refine pU rfl rfl rfl ?_
   refine pU rfl rfl rfl ?_
   refine pU rfl rfl rfl ?_
   refine pU rfl rfl rfl ?_
   refine pU rfl rfl rfl ?_
   refine pV rfl rfl (xP rfl rfl) rfl ?_
   refine pV rfl rfl (xM rfl) rfl ?_
   refine pU rfl rfl rfl ?_
   refine pU rfl rfl rfl ?_
   refine pU rfl rfl rfl ?_
   refine pV rfl rfl (xP rfl rfl) rfl ?_
   refine pV rfl rfl (xM rfl) rfl ?_
   refine pU rfl rfl rfl ?_
   refine pU rfl rfl rfl ?_
   refine pU rfl rfl rfl ?_
   refine pU rfl rfl rfl ?_
   refine pU rfl rfl rfl ?_
   refine pU rfl rfl rfl ?_
   refine pU rfl rfl rfl ?_
   refine pU rfl rfl rfl ?_
   refine pU rfl rfl rfl ?_
   refine pU rfl rfl rfl ?_
   refine pU rfl rfl rfl ?_
   refine pV rfl rfl (xP rfl rfl) rfl ?_
   refine pN ?_
   refine tN ?_
   refine eA rfl ?_
   refine eS ?_
   refine eR rfl ?_
   refine eV rfl (xb_ (places := [(0, 1), (1, 1), (2, 1), (3, 1), (4, 1)]) (zero := [.int .i64 0, .int .i64 0, .int .i64 0, .int .i64 0, .int .i64 0]) (cs := [_, _, _, _, _]) (by kernel_rfl) (by kernel_rfl) (by kernel_rfl) rfl (by kernel_rfl)) rfl ?_
   refine o_set0 hst rfl (xS rfl rfl rfl (hst.get 0 rfl) (m := 5) (by kernel_rfl) rfl (Nat.le_of_ble_eq_true rfl) (lC rfl (lC rfl (lC rfl (lC rfl (lC rfl l0_))))) (cells' := [_, _, _, _, _]) rfl) rfl (fun σ hst => ?_)
   refine eV rfl (xA rfl) rfl ?_
   refine eN ?_
   refine tN ?_
   refine eT ?_
   refine tR (?_)
   exact rc_ rfl rfl (hst.get 0 rfl) (m := 5) (by kernel_rfl) rfl rfl ⟨by rw [evAt_neg1 h33]; rfl, hst.pop.pop.pop⟩
  ·refine pV rfl rfl (xF rfl (k := 0) (by kernel_rfl)) rfl ?_
   refine pV rfl rfl (x1_ rfl (hst.get 1 rfl) (by kernel_rfl) rfl) rfl ?_
   refine pV rfl rfl (xF rfl (k := 1) (by kernel_rfl)) rfl ?_
   refine pV rfl rfl (x1_ rfl (hst.get 2 rfl) (by kernel_rfl) rfl) rfl ?_
   refine pV rfl rfl (x_len' ht rfl rfl rfl (e := 61) (by kernel_rfl) rfl) rfl ?_
   refine pV rfl rfl (xB rfl rfl rfl) rfl ?_
   refine pV rfl rfl (xP rfl rfl) rfl ?_
   refine ps_ rfl rfl (xM rfl) (fun _ => rfl) (fun h41 => ?_) (fun h41 => ?_)
   ·refine pU rfl rfl rfl ?_
    refine pU rfl rfl rfl ?_
    refine pU rfl rfl rfl ?_
    refine pV rfl rfl (xP rfl rfl) rfl ?_
    refine pV rfl rfl (xM rfl) rfl ?_
    refine pU rfl rfl rfl ?_
    refine pU rfl rfl rfl ?_
    refine pU rfl rfl rfl ?_
    refine pU rfl rfl rfl ?_
    refine pU rfl rfl rfl ?_
    refine pU rfl rfl rfl ?_
    refine pU rfl rfl rfl ?_
    refine pU rfl rfl rfl ?_
    refine pU rfl rfl rfl ?_
    refine pU rfl rfl rfl ?_
    refine pU rfl rfl rfl ?_
    refine pV rfl rfl (xP rfl rfl) rfl ?_
    refine pN ?_
    refine tN ?_
    refine eA rfl ?_
    refine eS ?_
    refine eR rfl ?_
    refine eV rfl (xb_ (places := [(0, 1), (1, 1), (2, 1), (3, 1), (4, 1)]) (zero := [.int .i64 0, .int .i64 0, .int .i64 0, .int .i64 0, .int .i64 0]) (cs := [_, _, _, _, _]) (by kernel_rfl) (by kernel_rfl) (by kernel_rfl) rfl (by kernel_rfl)) rfl ?_
    refine o_set0 hst rfl (xS rfl rfl rfl (hst.get 0 rfl) (m := 5) (by kernel_rfl) rfl (Nat.le_of_ble_eq_true rfl) (lC rfl (lC rfl (lC rfl (lC rfl (lC rfl l0_))))) (cells' := [_, _, _, _, _]) rfl) rfl (fun σ hst => ?_)
    refine eV rfl (xA rfl) rfl ?_
    refine eN ?_
    refine tN ?_
    refine eT ?_
    refine tR (?_)
    exact rc_ rfl rfl (hst.get 0 rfl) (m := 5) (by kernel_rfl) rfl rfl ⟨by rw [evAt_big h41]; rfl, hst.pop.pop.pop⟩
   ·refine pV rfl rfl (xF rfl (k := 1) (by kernel_rfl)) rfl ?_
    refine pV rfl rfl (x1_ rfl (hst.get 1 rfl) (by kernel_rfl) rfl) rfl ?_
    refine pV rfl rfl (xB rfl rfl rfl) rfl ?_
    refine pV rfl rfl (xP rfl rfl) rfl ?_
    refine ps_ rfl rfl (xM rfl) (fun _ => rfl) (fun h46 => ?_) (fun h46 => ?_)
    ·refine pU rfl rfl rfl ?_
     refine pU rfl rfl rfl ?_
     refine pU rfl rfl rfl ?_
     refine pU rfl rfl rfl ?_
     refine pU rfl rfl rfl ?_
     refine pU rfl rfl rfl ?_
     refine pU rfl rfl rfl ?_
     refine pU rfl rfl rfl ?_
     refine pU rfl rfl rfl ?_
     refine pU rfl rfl rfl ?_
     refine pU rfl rfl rfl ?_
     refine pV rfl rfl (xP rfl rfl) rfl ?_
     refine pN ?_
     refine tN ?_
     refine eA rfl ?_
     refine eS ?_
     refine eR rfl ?_
     refine eV rfl (xb_ (places := [(0, 1), (1, 1), (2, 1), (3, 1), (4, 1)]) (zero := [.int .i64 0, .int .i64 0, .int .i64 0, .int .i64 0, .int .i64 0]) (cs := [_, _, _, _, _]) (by kernel_rfl) (by kernel_rfl) (by kernel_rfl) rfl (by kernel_rfl)) rfl ?_
     refine o_set0 hst rfl (xS rfl rfl rfl (hst.get 0 rfl) (m := 5) (by kernel_rfl) rfl (Nat.le_of_ble_eq_true rfl) (lC rfl (lC rfl (lC rfl (lC rfl (lC rfl l0_))))) (cells' := [_, _, _, _, _]) rfl) rfl (fun σ hst => ?_)
     refine eV rfl (xA rfl) rfl ?_
     refine eN ?_
     refine tN ?_
     refine eT ?_
     refine tR (?_)
     exact rc_ rfl rfl (hst.get 0 rfl) (m := 5) (by kernel_rfl) rfl rfl ⟨by rw [evAt_neg2 h46]; rfl, hst.pop.pop.pop⟩
    ·refine pV rfl rfl (xF rfl (k := 1) (by kernel_rfl)) rfl ?_
     refine pV rfl rfl (x1_ rfl (hst.get 1 rfl) (by kernel_rfl) rfl) rfl ?_
     refine pV rfl rfl (xF rfl (k := 1) (by kernel_rfl)) rfl ?_
     refine pV rfl rfl (x1_ rfl (hst.get 2 rfl) (by kernel_rfl) rfl) rfl ?_
     refine pV rfl rfl (xF rfl (k := 0) (by kernel_rfl)) rfl ?_
     refine pV rfl rfl (x1_ rfl (hst.get 1 rfl) (by kernel_rfl) rfl) rfl ?_
     refine pV rfl rfl (xB rfl rfl rfl) rfl ?_
     obtain ⟨tn, rfl⟩ := nat_of h33
     obtain ⟨tm, rfl⟩ := succ_of h8
     obtain ⟨ixn, rfl⟩ := nat_of h46
     obtain ⟨x54, hx54⟩ := at_of (show tm < g.threads.length from by have := le_of_no h41; omega)
     refine pi (e := 61) (m := 1) ht hx54 rfl rfl rfl (by kernel_rfl) (by kernel_rfl) rfl (congrArg (fun z => some (AV.int .i64 z)) (wr_pred (by have := le_of_no h41; have := ht.len_le; omega))) (fun _ => rfl) (fun p54 vs54 hp54 hl54 hr54 => ?_)
     have hr54' := hr54; obtain ⟨v54, rfl, hk54⟩ := hr54'
     refine pV rfl rfl (xp hst hp54 rfl (by kernel_rfl) rfl) rfl ?_
     refine pV rfl rfl (x_len' hk54 rfl rfl rfl (e := 45) (by kernel_rfl) rfl) rfl ?_
     refine pV rfl rfl (xB rfl rfl rfl) rfl ?_
     refine pV rfl rfl (xP rfl rfl) rfl ?_
     refine pN ?_
     refine tN ?_
     refine e2_ rfl (fun h58 => ?_) (fun h58 => ?_)
     ·refine eS ?_
      refine eR rfl ?_
      refine eV rfl (xb_ (places := [(0, 1), (1, 1), (2, 1), (3, 1), (4, 1)]) (zero := [.int .i64 0, .int .i64 0, .int .i64 0, .int .i64 0, .int .i64 0]) (cs := [_, _, _, _, _]) (by kernel_rfl) (by kernel_rfl) (by kernel_rfl) rfl (by kernel_rfl)) rfl ?_
      refine o_set0 hst rfl (xS rfl rfl rfl (hst.get 0 rfl) (m := 5) (by kernel_rfl) rfl (Nat.le_of_ble_eq_true rfl) (lC rfl (lC rfl (lC rfl (lC rfl (lC rfl l0_))))) (cells' := [_, _, _, _, _]) rfl) rfl (fun σ hst => ?_)
      refine eV rfl (xA rfl) rfl ?_
      refine eN ?_
      refine tN ?_
      refine eT ?_
      refine tR (?_)
      exact rc_ rfl rfl (hst.get 0 rfl) (m := 5) (by kernel_rfl) rfl rfl ⟨by rw [show evAt g _ = none from by show (g.threads[tm]?).bind _ = _; rw [hx54]; exact List.getElem?_eq_none (ge_of_ge h58)]; rfl, hst.pop.pop.pop⟩
     ·refine eI ?_
      refine tN ?_
      refine eS ?_
      refine eP (l := [(0, []), (1, []), (2, []), (3, []), (4, []), (5, []), (6, []), (7, []), (8, []), (9, []), (10, []), (11, []), (12, [])]) (by kernel_rfl) (by kernel_rfl) ?_
      refine pV rfl rfl (xF rfl (k := 1) (by kernel_rfl)) rfl ?_
      refine pV rfl rfl (x1_ rfl (hst.get 2 rfl) (by kernel_rfl) rfl) rfl ?_
      refine pV rfl rfl (xF rfl (k := 0) (by kernel_rfl)) rfl ?_
      refine pV rfl rfl (x1_ rfl (hst.get 1 rfl) (by kernel_rfl) rfl) rfl ?_
      refine pV rfl rfl (xB rfl rfl rfl) rfl ?_
      refine pi (e := 61) (m := 1) ht hx54 rfl rfl rfl (by kernel_rfl) (by kernel_rfl) rfl (congrArg (fun z => some (AV.int .i64 z)) (wr_pred (by have := le_of_no h41; have := ht.len_le; omega))) (fun _ => rfl) (fun p65 vs65 hp65 hl65 hr65 => ?_)
      have hr65' := hr65; obtain ⟨v65, rfl, hk65⟩ := hr65'
      refine pV rfl rfl (xp hst hp65 rfl (by kernel_rfl) rfl) rfl ?_
      refine pV rfl rfl (xF rfl (k := 1) (by kernel_rfl)) rfl ?_
      refine pV rfl rfl (x1_ rfl (hst.get 1 rfl) (by kernel_rfl) rfl) rfl ?_
      obtain ⟨x69, hx69⟩ := at_of (lt_of_ge h58)
      refine pi (e := 45) (m := 5) hk65 hx69 rfl rfl rfl (by kernel_rfl) (by kernel_rfl) rfl rfl (fun _ => rfl) (fun p69 vs69 hp69 hl69 hr69 => ?_)
      obtain rfl := hr69
      refine pV rfl rfl (xw hst hp69 rfl (by kernel_rfl) rfl) rfl ?_
      refine p_set0 hst rfl rfl (xS rfl rfl rfl (hst.get 0 rfl) (m := 5) (by kernel_rfl) rfl (Nat.le_of_ble_eq_true rfl) (lC rfl (lC rfl (lC rfl (lC rfl (lC rfl l0_))))) (cells' := [_, _, _, _, _]) rfl) rfl (fun σ hst => ?_)
      refine ⟨s0, ?_⟩
      refine pV rfl rfl (xA rfl) rfl ?_
      refine pN ?_
      refine tN ?_
      refine eT ?_
      exact rc_ rfl rfl (hst.get 0 rfl) (m := 5) (by kernel_rfl) rfl rfl ⟨by rw [show evAt g _ = some _ from by show (g.threads[tm]?).bind _ = _; rw [hx54]; exact hx69]; rfl, hst.pop.pop.pop⟩
end Go.Ev

namespace Go.Ev
variable [Env]
open Go.Proofs
set_option maxRecDepth 4000
set_option maxHeartbeats 8000000

theorem w_LightGraph {G : Cx} (hG : Plain G) {K : KP} {g : XG} {a b c d : AV} (h : HasG K g a b c d) (mo : Int) {σ : AHeap} {L : Own} (hst : St σ K L) : EvCall Try.prog G 15 [.agg [a, b, c, d], .int .i64 mo] σ fun v σ' => ∃ q, v = .bool q ∧ St σ' K L := by
 have h' := h; obtain ⟨hi, ht, hf, ho⟩ := h'
 refine eY hG Try.func15 rfl (t := (PT.leaf.put (some (.agg [a, b, c, d])) 0).put (some (.int .i64 mo)) 1) (by rfl) ?_
 refine eS ?_
 refine eR rfl ?_
 refine oP hst rfl (xo_ rfl rfl) (fun _ => rfl) (fun σ b1 hst => ?_)
 refine eV rfl (xA rfl) rfl ?_
 refine eN ?_
 refine tN ?_
 refine eS ?_
 refine eR rfl ?_
 refine eV rfl (xM rfl) rfl ?_
 refine eV rfl (xB rfl rfl rfl) rfl ?_
 refine eV rfl (xF rfl (k := 0) (by kernel_rfl)) rfl ?_
 refine eV rfl (x1_ rfl (hst.get 0 rfl) (by kernel_rfl) rfl) rfl ?_
 refine eV rfl (x_len' hi rfl rfl rfl (e := 2) (by kernel_rfl) rfl) rfl ?_
 refine eV rfl (x_min rfl rfl rfl rfl) rfl ?_
 refine eV rfl (xM rfl) rfl ?_
 refine eV rfl (xB rfl rfl rfl) rfl ?_
 refine eV rfl (xF rfl (k := 1) (by kernel_rfl)) rfl ?_
 refine eV rfl (x1_ rfl (hst.get 0 rfl) (by kernel_rfl) rfl) rfl ?_
 refine eV rfl (x_len' ht rfl rfl rfl (e := 61) (by kernel_rfl) rfl) rfl ?_
 refine eV rfl (x_min rfl rfl rfl rfl) rfl ?_
 refine eV rfl (xB rfl rfl rfl) rfl ?_
 refine eV rfl (xM rfl) rfl ?_
 refine eV rfl (xB rfl rfl rfl) rfl ?_
 refine eV rfl (xF rfl (k := 2) (by kernel_rfl)) rfl ?_
 refine eV rfl (x1_ rfl (hst.get 0 rfl) (by kernel_rfl) rfl) rfl ?_
 refine eV rfl (x_len' hf rfl rfl rfl (e := 62) (by kernel_rfl) rfl) rfl ?_
 refine eV rfl (x_min rfl rfl rfl rfl) rfl ?_
 refine eV rfl (xB rfl rfl rfl) rfl ?_
 refine eV rfl (xM rfl) rfl ?_
 refine eV rfl (xB rfl rfl rfl) rfl ?_
 refine eV rfl (xF rfl (k := 3) (by kernel_rfl)) rfl ?_
 refine eV rfl (x1_ rfl (hst.get 0 rfl) (by kernel_rfl) rfl) rfl ?_
 refine eV rfl (x_len' ho rfl rfl rfl (e := 62) (by kernel_rfl) rfl) rfl ?_
 refine eV rfl (x_min rfl rfl rfl rfl) rfl ?_
 refine eV rfl (xB rfl rfl rfl) rfl ?_
 refine eV rfl (xA rfl) rfl ?_
 refine eN ?_
 refine tN ?_
 refine eS ?_
 refine eS ?_
 refine eR rfl ?_
 refine eV rfl (xA rfl) rfl ?_
 refine eN ?_
 refine tN ?_
 refine eB ?_
 obtain ⟨LL1, hst, hLL1⟩ := hst.named
 refine eW [5, 6, 36, 37, 38, 39, 40, 41, 42, 43, 44, 45, 46, 47, 48, 49, 50, 51, 52, 53, 54, 55, 56, 57, 58] (fun j t σ => ∃ (i : Nat) (m : Int), j + i = g.threads.length ∧ t.get 5 = some (.int .i64 m) ∧ t.get 6 = some (.int .i64 (.ofNat i)) ∧ St σ K LL1) (g.threads.length) ⟨0, _, rfl, rfl, rfl, hst⟩ ?_
 clear hst; intro j3 t σ hoff hI; obtain ⟨i, m, hj3, hv5, hv6, hst⟩ := hI
 subst hLL1
 obtain ⟨o5, o6, o36, o37, o38, o39, o40, o41, hoff⟩ := hoff.ex8 rfl rfl
 obtain ⟨o42, o43, o44, o45, o46, o47, o48, o49, hoff⟩ := hoff.ex8 rfl rfl
 obtain ⟨o50, o51, o52, o53, o54, o55, o56, o57, hoff⟩ := hoff.ex8 rfl rfl
 obtain ⟨o58, hoff⟩ := hoff.ex1 rfl
 obtain rfl := hoff.nil; clear hoff
 replace hv5 : o5 = some _ := hv5; subst hv5
 replace hv6 : o6 = some _ := hv6; subst hv6
 refine eS ?_
 refine eS ?_
 refine eR rfl ?_
 refine eV rfl (xM rfl) rfl ?_
 refine eV rfl (xF rfl (k := 1) (by kernel_rfl)) rfl ?_
 refine eV rfl (x1_ rfl (hst.get 0 rfl) (by kernel_rfl) rfl) rfl ?_
 refine eV rfl (x_len' ht rfl rfl rfl (e := 61) (by kernel_rfl) rfl) rfl ?_
 refine eV rfl (xB rfl rfl rfl) rfl ?_
 refine oS rfl (xM rfl) (fun _ => rfl) (fun h41 => ?_) (fun h41 => ?_)
 ·refine eV rfl (xM rfl) rfl ?_
  refine eV rfl (xM rfl) rfl ?_
  refine eV rfl (xB rfl rfl rfl) rfl ?_
  refine eV rfl (xP rfl rfl) rfl ?_
  refine eN ?_
  refine tN ?_
  refine e2_ rfl (fun h45 => ?_) (fun h45 => ?_)
  ·refine eI ?_
   refine tN ?_
   refine eS ?_
   refine eB ?_
   refine eR rfl ?_
   refine eV rfl (xM rfl) rfl ?_
   refine eV rfl (xM rfl) rfl ?_
   refine eV rfl (xB rfl rfl rfl) rfl ?_
   refine eV rfl (xF rfl (k := 1) (by kernel_rfl)) rfl ?_
   refine eV rfl (x1_ rfl (hst.get 0 rfl) (by kernel_rfl) rfl) rfl ?_
   refine eV rfl (xM rfl) rfl ?_
   obtain ⟨x54, hx54, hi54⟩ := at_lt h41
   refine oI (e := 61) (m := 1) ht hx54 rfl rfl (by kernel_rfl) (by kernel_rfl) rfl rfl (fun _ => rfl) (fun p54 vs54 hp54 hl54 hr54 => ?_)
   have hr54' := hr54; obtain ⟨v54, rfl, hk54⟩ := hr54'
   refine eV rfl (xp hst hp54 rfl (by kernel_rfl) rfl) rfl ?_
   refine eV rfl (x_len' hk54 rfl rfl rfl (e := 45) (by kernel_rfl) rfl) rfl ?_
   refine eV rfl (x_min rfl rfl rfl rfl) rfl ?_
   refine eV rfl (xB rfl rfl rfl) rfl ?_
   refine eV rfl (xA rfl) rfl ?_
   refine eN ?_
   refine bN ?_
   refine tN ?_
   refine eR rfl ?_
   refine eV rfl (xM rfl) rfl ?_
   refine eV rfl (xB rfl rfl rfl) rfl ?_
   refine eV rfl (xA rfl) rfl ?_
   refine eN ?_
   refine lN ⟨j3 - 1, by omega, (by (iterate 50 refine OffW.put rfl ?_); exact OffW.refl _ _), i + 1, _, by omega, rfl, congrArg (fun z => some (AV.int .i64 z)) (wr_succ (by have := ht.len_le; omega)), hst⟩
  ·refine eX ?_
   refine tX ?_
   refine lX ?_
   refine bX ?_
   refine tN ?_
   refine eS ?_
   refine eS ?_
   refine eR rfl ?_
   refine eV rfl (xA rfl) rfl ?_
   refine eN ?_
   refine tN ?_
   refine eB ?_
   obtain ⟨LL2, hst, hLL2⟩ := hst.named
   refine eW [5, 7, 59, 60, 61, 62, 63, 64, 65, 66, 67, 68, 69, 70, 71, 72, 73, 74, 75, 76, 77, 78, 79, 80, 81, 82] (fun j t σ => ∃ (i : Nat) (m : Int), j + i = g.from_.length ∧ t.get 5 = some (.int .i64 m) ∧ t.get 7 = some (.int .i64 (.ofNat i)) ∧ St σ K LL2) (g.from_.length) ⟨0, _, rfl, rfl, rfl, hst⟩ ?_
   clear hst; intro j7 t σ hoff hI; obtain ⟨i, m, hj7, hv5, hv7, hst⟩ := hI
   subst hLL2
   obtain ⟨o5, o7, o59, o60, o61, o62, o63, o64, hoff⟩ := hoff.ex8 rfl rfl
   obtain ⟨o65, o66, o67, o68, o69, o70, o71, o72, hoff⟩ := hoff.ex8 rfl rfl
   obtain ⟨o73, o74, o75, o76, o77, o78, o79, o80, hoff⟩ := hoff.ex8 rfl rfl
   obtain ⟨o81, hoff⟩ := hoff.ex1 rfl
   obtain ⟨o82, hoff⟩ := hoff.ex1 rfl
   obtain rfl := hoff.nil; clear hoff
   replace hv5 : o5 = some _ := hv5; subst hv5
   replace hv7 : o7 = some _ := hv7; subst hv7
   refine eS ?_
   refine eS ?_
   refine eR rfl ?_
   refine eV rfl (xM rfl) rfl ?_
   refine eV rfl (xF rfl (k := 2) (by kernel_rfl)) rfl ?_
   refine eV rfl (x1_ rfl (hst.get 0 rfl) (by kernel_rfl) rfl) rfl ?_
   refine eV rfl (x_len' hf rfl rfl rfl (e := 62) (by kernel_rfl) rfl) rfl ?_
   refine eV rfl (xB rfl rfl rfl) rfl ?_
   refine oS rfl (xM rfl) (fun _ => rfl) (fun h64 => ?_) (fun h64 => ?_)
   ·refine eV rfl (xM rfl) rfl ?_
    refine eV rfl (xM rfl) rfl ?_
    refine eV rfl (xB rfl rfl rfl) rfl ?_
    refine eV rfl (xB rfl rfl rfl) rfl ?_
    refine eV rfl (xP rfl rfl) rfl ?_
    refine eN ?_
    refine tN ?_
    refine e2_ rfl (fun h69 => ?_) (fun h69 => ?_)
    ·refine eI ?_
     refine tN ?_
     refine eS ?_
     refine eB ?_
     refine eR rfl ?_
     refine eV rfl (xM rfl) rfl ?_
     refine eV rfl (xM rfl) rfl ?_
     refine eV rfl (xB rfl rfl rfl) rfl ?_
     refine eV rfl (xF rfl (k := 2) (by kernel_rfl)) rfl ?_
     refine eV rfl (x1_ rfl (hst.get 0 rfl) (by kernel_rfl) rfl) rfl ?_
     refine eV rfl (xM rfl) rfl ?_
     obtain ⟨x78, hx78, hi78⟩ := at_lt h64
     refine oI (e := 62) (m := 1) hf hx78 rfl rfl (by kernel_rfl) (by kernel_rfl) rfl rfl (fun _ => rfl) (fun p78 vs78 hp78 hl78 hr78 => ?_)
     have hr78' := hr78; obtain ⟨v78, rfl, hk78⟩ := hr78'
     refine eV rfl (xp hst hp78 rfl (by kernel_rfl) rfl) rfl ?_
     refine eV rfl (x_len' hk78 rfl rfl rfl (e := 47) (by kernel_rfl) rfl) rfl ?_
     refine eV rfl (x_min rfl rfl rfl rfl) rfl ?_
     refine eV rfl (xB rfl rfl rfl) rfl ?_
     refine eV rfl (xA rfl) rfl ?_
     refine eN ?_
     refine bN ?_
     refine tN ?_
     refine eR rfl ?_
     refine eV rfl (xM rfl) rfl ?_
     refine eV rfl (xB rfl rfl rfl) rfl ?_
     refine eV rfl (xA rfl) rfl ?_
     refine eN ?_
     refine lN ⟨j7 - 1, by omega, (by (iterate 52 refine OffW.put rfl ?_); exact OffW.refl _ _), i + 1, _, by omega, rfl, congrArg (fun z => some (AV.int .i64 z)) (wr_succ (by have := hf.len_le; omega)), hst⟩
    ·refine eX ?_
     refine tX ?_
     refine lX ?_
     refine bX ?_
     refine tN ?_
     refine eS ?_
     refine eS ?_
     refine eR rfl ?_
     refine eV rfl (xA rfl) rfl ?_
     refine eN ?_
     refine tN ?_
     refine eB ?_
     obtain ⟨LL3, hst, hLL3⟩ := hst.named
     refine eW [5, 8, 83, 84, 85, 86, 87, 88, 89, 90, 91, 92, 93, 94, 95, 96, 97, 98, 99, 100, 101, 102, 103, 104, 105, 106] (fun j t σ => ∃ (i : Nat) (m : Int), j + i = g.order.length ∧ t.get 5 = some (.int .i64 m) ∧ t.get 8 = some (.int .i64 (.ofNat i)) ∧ St σ K LL3) (g.order.length) ⟨0, _, rfl, rfl, rfl, hst⟩ ?_
     clear hst; intro j11 t σ hoff hI; obtain ⟨i, m, hj11, hv5, hv8, hst⟩ := hI
     subst hLL3
     obtain ⟨o5, o8, o83, o84, o85, o86, o87, o88, hoff⟩ := hoff.ex8 rfl rfl
     obtain ⟨o89, o90, o91, o92, o93, o94, o95, o96, hoff⟩ := hoff.ex8 rfl rfl
     obtain ⟨o97, o98, o99, o100, o101, o102, o103, o104, hoff⟩ := hoff.ex8 rfl rfl
     obtain ⟨o105, hoff⟩ := hoff.ex1 rfl
     obtain ⟨o106, hoff⟩ := hoff.ex1 rfl
     obtain rfl := hoff.nil; clear hoff
     replace hv5 : o5 = some _ := hv5; subst hv5
     replace hv8 : o8 = some _ := hv8; subst hv8
     refine eS ?_
     refine eS ?_
     refine eR rfl ?_
     refine eV rfl (xM rfl) rfl ?_
     refine eV rfl (xF rfl (k := 3) (by kernel_rfl)) rfl ?_
     refine eV rfl (x1_ rfl (hst.get 0 rfl) (by kernel_rfl) rfl) rfl ?_
     refine eV rfl (x_len' ho rfl rfl rfl (e := 62) (by kernel_rfl) rfl) rfl ?_
     refine eV rfl (xB rfl rfl rfl) rfl ?_
     refine oS rfl (xM rfl) (fun _ => rfl) (fun h88 => ?_) (fun h88 => ?_)
     ·refine eV rfl (xM rfl) rfl ?_
      refine eV rfl (xM rfl) rfl ?_
      refine eV rfl (xB rfl rfl rfl) rfl ?_
      refine eV rfl (xB rfl rfl rfl) rfl ?_
      refine eV rfl (xP rfl rfl) rfl ?_
      refine eN ?_
      refine tN ?_
      refine e2_ rfl (fun h93 => ?_) (fun h93 => ?_)
      ·refine eI ?_
       refine tN ?_
       refine eS ?_
       refine eB ?_
       refine eR rfl ?_
       refine eV rfl (xM rfl) rfl ?_
       refine eV rfl (xM rfl) rfl ?_
       refine eV rfl (xB rfl rfl rfl) rfl ?_
       refine eV rfl (xF rfl (k := 3) (by kernel_rfl)) rfl ?_
       refine eV rfl (x1_ rfl (hst.get 0 rfl) (by kernel_rfl) rfl) rfl ?_
       refine eV rfl (xM rfl) rfl ?_
       obtain ⟨x102, hx102, hi102⟩ := at_lt h88
       refine oI (e := 62) (m := 1) ho hx102 rfl rfl (by kernel_rfl) (by kernel_rfl) rfl rfl (fun _ => rfl) (fun p102 vs102 hp102 hl102 hr102 => ?_)
       have hr102' := hr102; obtain ⟨v102, rfl, hk102⟩ := hr102'
       refine eV rfl (xp hst hp102 rfl (by kernel_rfl) rfl) rfl ?_
       refine eV rfl (x_len' hk102 rfl rfl rfl (e := 47) (by kernel_rfl) rfl) rfl ?_
       refine eV rfl (x_min rfl rfl rfl rfl) rfl ?_
       refine eV rfl (xB rfl rfl rfl) rfl ?_
       refine eV rfl (xA rfl) rfl ?_
       refine eN ?_
       refine bN ?_
       refine tN ?_
       refine eR rfl ?_
       refine eV rfl (xM rfl) rfl ?_
       refine eV rfl (xB rfl rfl rfl) rfl ?_
       refine eV rfl (xA rfl) rfl ?_
       refine eN ?_
       refine lN ⟨j11 - 1, by omega, (by (iterate 52 refine OffW.put rfl ?_); exact OffW.refl _ _), i + 1, _, by omega, rfl, congrArg (fun z => some (AV.int .i64 z)) (wr_succ (by have := ho.len_le; omega)), hst⟩
      ·refine eX ?_
       refine tX ?_
       refine lX ?_
       refine bX ?_
       refine tN ?_
       refine eS ?_
       refine eR rfl ?_
       refine eV rfl (xM rfl) rfl ?_
       refine eV rfl (xM rfl) rfl ?_
       refine eV rfl (xB rfl rfl rfl) rfl ?_
       refine eV rfl (xB rfl rfl rfl) rfl ?_
       refine eV rfl (xA rfl) rfl ?_
       refine eN ?_
       refine tN ?_
       refine eT ?_
       exact r1_ rfl rfl ⟨_, rfl, hst.pop⟩
     ·refine eU rfl rfl ?_
      refine eU rfl rfl ?_
      refine eU rfl rfl ?_
      refine eU rfl rfl ?_
      refine eV rfl (xP rfl rfl) rfl ?_
      refine eN ?_
      refine tN ?_
      refine eF rfl ?_
      refine eX ?_
      refine tX ?_
      refine lX ?_
      refine bX ?_
      refine tN ?_
      refine eS ?_
      refine eR rfl ?_
      refine eV rfl (xM rfl) rfl ?_
      refine eV rfl (xM rfl) rfl ?_
      refine eV rfl (xB rfl rfl rfl) rfl ?_
      refine eV rfl (xB rfl rfl rfl) rfl ?_
      refine eV rfl (xA rfl) rfl ?_
      refine eN ?_
      refine tN ?_
      refine eT ?_
      exact r1_ rfl rfl ⟨_, rfl, hst.pop⟩
   ·refine eU rfl rfl ?_
    refine eU rfl rfl ?_
    refine eU rfl rfl ?_
    refine eU rfl rfl ?_
    refine eV rfl (xP rfl rfl) rfl ?_
    refine eN ?_
    refine tN ?_
    refine eF rfl ?_
    refine eX ?_
    refine tX ?_
    refine lX ?_
    refine bX ?_
    refine tN ?_
    refine eS ?_
    refine eS ?_
    refine eR rfl ?_
    refine eV rfl (xA rfl) rfl ?_
    refine eN ?_
    refine tN ?_
    refine eB ?_
    obtain ⟨LL4, hst, hLL4⟩ := hst.named
    refine eW [5, 8, 83, 84, 85, 86, 87, 88, 89, 90, 91, 92, 93, 94, 95, 96, 97, 98, 99, 100, 101, 102, 103, 104, 105, 106] (fun j t σ => ∃ (i : Nat) (m : Int), j + i = g.order.length ∧ t.get 5 = some (.int .i64 m) ∧ t.get 8 = some (.int .i64 (.ofNat i)) ∧ St σ K LL4) (g.order.length) ⟨0, _, rfl, rfl, rfl, hst⟩ ?_
    clear hst; intro j11 t σ hoff hI; obtain ⟨i, m, hj11, hv5, hv8, hst⟩ := hI
    subst hLL4
    obtain ⟨o5, o8, o83, o84, o85, o86, o87, o88, hoff⟩ := hoff.ex8 rfl rfl
    obtain ⟨o89, o90, o91, o92, o93, o94, o95, o96, hoff⟩ := hoff.ex8 rfl rfl
    obtain ⟨o97, o98, o99, o100, o101, o102, o103, o104, hoff⟩ := hoff.ex8 rfl rfl
    obtain ⟨o105, hoff⟩ := hoff.ex1 rfl
    obtain ⟨o106, hoff⟩ := hoff.ex1 rfl
    obtain rfl := hoff.nil; clear hoff
    replace hv5 : o5 = some _ := hv5; subst hv5
    replace hv8 : o8 = some _ := hv8; subst hv8
    refine eS ?_
    refine eS ?_
    refine eR rfl ?_
    refine eV rfl (xM rfl) rfl ?_
    refine eV rfl (xF rfl (k := 3) (by kernel_rfl)) rfl ?_
    refine eV rfl (x1_ rfl (hst.get 0 rfl) (by kernel_rfl) rfl) rfl ?_
    refine eV rfl (x_len' ho rfl rfl rfl (e := 62) (by kernel_rfl) rfl) rfl ?_
    refine eV rfl (xB rfl rfl rfl) rfl ?_
    refine oS rfl (xM rfl) (fun _ => rfl) (fun h88 => ?_) (fun h88 => ?_)
    ·refine eV rfl (xM rfl) rfl ?_
     refine eV rfl (xM rfl) rfl ?_
     refine eV rfl (xB rfl rfl rfl) rfl ?_
     refine eV rfl (xB rfl rfl rfl) rfl ?_
     refine eV rfl (xP rfl rfl) rfl ?_
     refine eN ?_
     refine tN ?_
     refine e2_ rfl (fun h93 => ?_) (fun h93 => ?_)
     ·refine eI ?_
      refine tN ?_
      refine eS ?_
      refine eB ?_
      refine eR rfl ?_
      refine eV rfl (xM rfl) rfl ?_
      refine eV rfl (xM rfl) rfl ?_
      refine eV rfl (xB rfl rfl rfl) rfl ?_
      refine eV rfl (xF rfl (k := 3) (by kernel_rfl)) rfl ?_
      refine eV rfl (x1_ rfl (hst.get 0 rfl) (by kernel_rfl) rfl) rfl ?_
      refine eV rfl (xM rfl) rfl ?_
      obtain ⟨x102, hx102, hi102⟩ := at_lt h88
      refine oI (e := 62) (m := 1) ho hx102 rfl rfl (by kernel_rfl) (by kernel_rfl) rfl rfl (fun _ => rfl) (fun p102 vs102 hp102 hl102 hr102 => ?_)
      have hr102' := hr102; obtain ⟨v102, rfl, hk102⟩ := hr102'
      refine eV rfl (xp hst hp102 rfl (by kernel_rfl) rfl) rfl ?_
      refine eV rfl (x_len' hk102 rfl rfl rfl (e := 47) (by kernel_rfl) rfl) rfl ?_
      refine eV rfl (x_min rfl rfl rfl rfl) rfl ?_
      refine eV rfl (xB rfl rfl rfl) rfl ?_
      refine eV rfl (xA rfl) rfl ?_
      refine eN ?_
      refine bN ?_
      refine tN ?_
      refine eR rfl ?_
      refine eV rfl (xM rfl) rfl ?_
      refine eV rfl (xB rfl rfl rfl) rfl ?_
      refine eV rfl (xA rfl) rfl ?_
      refine eN ?_
      refine lN ⟨j11 - 1, by omega, (by (iterate 52 refine OffW.put rfl ?_); exact OffW.refl _ _), i + 1, _, by omega, rfl, congrArg (fun z => some (AV.int .i64 z)) (wr_succ (by have := ho.len_le; omega)), hst⟩
     ·refine eX ?_
      refine tX ?_
      refine lX ?_
      refine bX ?_
      refine tN ?_
      refine eS ?_
      refine eR rfl ?_
      refine eV rfl (xM rfl) rfl ?_
      refine eV rfl (xM rfl) rfl ?_
      refine eV rfl (xB rfl rfl rfl) rfl ?_
      refine eV rfl (xB rfl rfl rfl) rfl ?_
      refine eV rfl (xA rfl) rfl ?_
      refine eN ?_
      refine tN ?_
      refine eT ?_
      exact r1_ rfl rfl ⟨_, rfl, hst.pop⟩
    ·refine eU rfl rfl ?_
     refine eU rfl rfl ?_
     refine eU rfl rfl ?_
     refine eU rfl rfl ?_
     refine eV rfl (xP rfl rfl) rfl ?_
     refine eN ?_
     refine tN ?_
     refine eF rfl ?_
     refine eX ?_
     refine tX ?_
     refine lX ?_
     refine bX ?_
     refine tN ?_
     refine eS ?_
     refine eR rfl ?_
     refine eV rfl (xM rfl) rfl ?_
     refine eV rfl (xM rfl) rfl ?_
     refine eV rfl (xB rfl rfl rfl) rfl ?_
     refine eV rfl (xB rfl rfl rfl) rfl ?_
     refine eV rfl (xA rfl) rfl ?_
     refine eN ?_
     refine tN ?_
     refine eT ?_
     exact r1_ rfl rfl ⟨_, rfl, hst.pop⟩
 ·refine eU rfl rfl ?_
  refine eU rfl rfl ?_
  refine eU rfl rfl ?_
  refine eV rfl (xP rfl rfl) rfl ?_
  refine eN ?_
  refine tN ?_
  refine eF rfl ?_
  refine eX ?_
  refine tX ?_
  refine lX ?_
  refine bX ?_
  refine tN ?_
  refine eS ?_
  refine eS ?_
  refine eR rfl ?_
  refine eV rfl (xA rfl) rfl ?_
  refine eN ?_
  refine tN ?_
  refine eB ?_
  obtain ⟨LL5, hst, hLL5⟩ := hst.named
  refine eW [5, 7, 59, 60, 61, 62, 63, 64, 65, 66, 67, 68, 69, 70, 71, 72, 73, 74, 75, 76, 77, 78, 79, 80, 81, 82] (fun j t σ => ∃ (i : Nat) (m : Int), j + i = g.from_.length ∧ t.get 5 = some (.int .i64 m) ∧ t.get 7 = some (.int .i64 (.ofNat i)) ∧ St σ K LL5) (g.from_.length) ⟨0, _, rfl, rfl, rfl, hst⟩ ?_
  clear hst; intro j7 t σ hoff hI; obtain ⟨i, m, hj7, hv5, hv7, hst⟩ := hI
  subst hLL5
  obtain ⟨o5, o7, o59, o60, o61, o62, o63, o64, hoff⟩ := hoff.ex8 rfl rfl
  obtain ⟨o65, o66, o67, o68, o69, o70, o71, o72, hoff⟩ := hoff.ex8 rfl rfl
  obtain ⟨o73, o74, o75, o76, o77, o78, o79, o80, hoff⟩ := hoff.ex8 rfl rfl
  obtain ⟨o81, hoff⟩ := hoff.ex1 rfl
  obtain ⟨o82, hoff⟩ := hoff.ex1 rfl
  obtain rfl := hoff.nil; clear hoff
  replace hv5 : o5 = some _ := hv5; subst hv5
  replace hv7 : o7 = some _ := hv7; subst hv7
  refine eS ?_
  refine eS ?_
  refine eR rfl ?_
  refine eV rfl (xM rfl) rfl ?_
  refine eV rfl (xF rfl (k := 2) (by kernel_rfl)) rfl ?_
  refine eV rfl (x1_ rfl (hst.get 0 rfl) (by kernel_rfl) rfl) rfl ?_
  refine eV rfl (x_len' hf rfl rfl rfl (e := 62) (by kernel_rfl) rfl) rfl ?_
  refine eV rfl (xB rfl rfl rfl) rfl ?_
  refine oS rfl (xM rfl) (fun _ => rfl) (fun h64 => ?_) (fun h64 => ?_)
  ·refine eV rfl (xM rfl) rfl ?_
   refine eV rfl (xM rfl) rfl ?_
   refine eV rfl (xB rfl rfl rfl) rfl ?_
   refine eV rfl (xB rfl rfl rfl) rfl ?_
   refine eV rfl (xP rfl rfl) rfl ?_
   refine eN ?_
   refine tN ?_
   refine e2_ rfl (fun h69 => ?_) (fun h69 => ?_)
   ·refine eI ?_
    refine tN ?_
    refine eS ?_
    refine eB ?_
    refine eR rfl ?_
    refine eV rfl (xM rfl) rfl ?_
    refine eV rfl (xM rfl) rfl ?_
    refine eV rfl (xB rfl rfl rfl) rfl ?_
    refine eV rfl (xF rfl (k := 2) (by kernel_rfl)) rfl ?_
    refine eV rfl (x1_ rfl (hst.get 0 rfl) (by kernel_rfl) rfl) rfl ?_
    refine eV rfl (xM rfl) rfl ?_
    obtain ⟨x78, hx78, hi78⟩ := at_lt h64
    refine oI (e := 62) (m := 1) hf hx78 rfl rfl (by kernel_rfl) (by kernel_rfl) rfl rfl (fun _ => rfl) (fun p78 vs78 hp78 hl78 hr78 => ?_)
    have hr78' := hr78; obtain ⟨v78, rfl, hk78⟩ := hr78'
    refine eV rfl (xp hst hp78 rfl (by kernel_rfl) rfl) rfl ?_
    refine eV rfl (x_len' hk78 rfl rfl rfl (e := 47) (by kernel_rfl) rfl) rfl ?_
    refine eV rfl (x_min rfl rfl rfl rfl) rfl ?_
    refine eV rfl (xB rfl rfl rfl) rfl ?_
    refine eV rfl (xA rfl) rfl ?_
    refine eN ?_
    refine bN ?_
    refine tN ?_
    refine eR rfl ?_
    refine eV rfl (xM rfl) rfl ?_
    refine eV rfl (xB rfl rfl rfl) rfl ?_
    refine eV rfl (xA rfl) rfl ?_
    refine eN ?_
    refine lN ⟨j7 - 1, by omega, (by (iterate 52 refine OffW.put rfl ?_); exact OffW.refl _ _), i + 1, _, by omega, rfl, congrArg (fun z => some (AV.int .i64 z)) (wr_succ (by have := hf.len_le; omega)), hst⟩
   ·refine eX ?_
    refine tX ?_
    refine lX ?_
    refine bX ?_
    refine tN ?_
    refine eS ?_
    refine eS ?_
    refine eR rfl ?_
    refine eV rfl (xA rfl) rfl ?_
    refine eN ?_
    refine tN ?_
    refine eB ?_
    obtain ⟨LL6, hst, hLL6⟩ := hst.named
    refine eW [5, 8, 83, 84, 85, 86, 87, 88, 89, 90, 91, 92, 93, 94, 95, 96, 97, 98, 99, 100, 101, 102, 103, 104, 105, 106] (fun j t σ => ∃ (i : Nat) (m : Int), j + i = g.order.length ∧ t.get 5 = some (.int .i64 m) ∧ t.get 8 = some (.int .i64 (.ofNat i)) ∧ St σ K LL6) (g.order.length) ⟨0, _, rfl, rfl, rfl, hst⟩ ?_
    clear hst; intro j11 t σ hoff hI; obtain ⟨i, m, hj11, hv5, hv8, hst⟩ := hI
    subst hLL6
    obtain ⟨o5, o8, o83, o84, o85, o86, o87, o88, hoff⟩ := hoff.ex8 rfl rfl
    obtain ⟨o89, o90, o91, o92, o93, o94, o95, o96, hoff⟩ := hoff.ex8 rfl rfl
    obtain ⟨o97, o98, o99, o100, o101, o102, o103, o104, hoff⟩ := hoff.ex8 rfl rfl
    obtain ⟨o105, hoff⟩ := hoff.ex1 rfl
    obtain ⟨o106, hoff⟩ := hoff.ex1 rfl
    obtain rfl := hoff.nil; clear hoff
    replace hv5 : o5 = some _ := hv5; subst hv5
    replace hv8 : o8 = some _ := hv8; subst hv8
    refine eS ?_
    refine eS ?_
    refine eR rfl ?_
    refine eV rfl (xM rfl) rfl ?_
    refine eV rfl (xF rfl (k := 3) (by kernel_rfl)) rfl ?_
    refine eV rfl (x1_ rfl (hst.get 0 rfl) (by kernel_rfl) rfl) rfl ?_
    refine eV rfl (x_len' ho rfl rfl rfl (e := 62) (by kernel_rfl) rfl) rfl ?_
    refine eV rfl (xB rfl rfl rfl) rfl ?_
    refine oS rfl (xM rfl) (fun _ => rfl) (fun h88 => ?_) (fun h88 => ?_)
    ·refine eV rfl (xM rfl) rfl ?_
     refine eV rfl (xM rfl) rfl ?_
     refine eV rfl (xB rfl rfl rfl) rfl ?_
     refine eV rfl (xB rfl rfl rfl) rfl ?_
     refine eV rfl (xP rfl rfl) rfl ?_
     refine eN ?_
     refine tN ?_
     refine e2_ rfl (fun h93 => ?_) (fun h93 => ?_)
     ·refine eI ?_
      refine tN ?_
      refine eS ?_
      refine eB ?_
      refine eR rfl ?_
      refine eV rfl (xM rfl) rfl ?_
      refine eV rfl (xM rfl) rfl ?_
      refine eV rfl (xB rfl rfl rfl) rfl ?_
      refine eV rfl (xF rfl (k := 3) (by kernel_rfl)) rfl ?_
      refine eV rfl (x1_ rfl (hst.get 0 rfl) (by kernel_rfl) rfl) rfl ?_
      refine eV rfl (xM rfl) rfl ?_
      obtain ⟨x102, hx102, hi102⟩ := at_lt h88
      refine oI (e := 62) (m := 1) ho hx102 rfl rfl (by kernel_rfl) (by kernel_rfl) rfl rfl (fun _ => rfl) (fun p102 vs102 hp102 hl102 hr102 => ?_)
      have hr102' := hr102; obtain ⟨v102, rfl, hk102⟩ := hr102'
      refine eV rfl (xp hst hp102 rfl (by kernel_rfl) rfl) rfl ?_
      refine eV rfl (x_len' hk102 rfl rfl rfl (e := 47) (by kernel_rfl) rfl) rfl ?_
      refine eV rfl (x_min rfl rfl rfl rfl) rfl ?_
      refine eV rfl (xB rfl rfl rfl) rfl ?_
      refine eV rfl (xA rfl) rfl ?_
      refine eN ?_
      refine bN ?_
      refine tN ?_
      refine eR rfl ?_
      refine eV rfl (xM rfl) rfl ?_
      refine eV rfl (xB rfl rfl rfl) rfl ?_
      refine eV rfl (xA rfl) rfl ?_
      refine eN ?_
      refine lN ⟨j11 - 1, by omega, (by (iterate 52 refine OffW.put rfl ?_); exact OffW.refl _ _), i + 1, _, by omega, rfl, congrArg (fun z => some (AV.int .i64 z)) (wr_succ (by have := ho.len_le; omega)), hst⟩
     ·refine eX ?_
      refine tX ?_
      refine lX ?_
      refine bX ?_
      refine tN ?_
      refine eS ?_
      refine eR rfl ?_
      refine eV rfl (xM rfl) rfl ?_
      refine eV rfl (xM rfl) rfl ?_
      refine eV rfl (xB rfl rfl rfl) rfl ?_
      refine eV rfl (xB rfl rfl rfl) rfl ?_
      refine eV rfl (xA rfl) rfl ?_
      refine eN ?_
      refine tN ?_
      refine eT ?_
      exact r1_ rfl rfl ⟨_, rfl, hst.pop⟩
    ·refine eU rfl rfl ?_
     refine eU rfl rfl ?_
     refine eU rfl rfl ?_
     refine eU rfl rfl ?_
     refine eV rfl (xP rfl rfl) rfl ?_
     refine eN ?_
     refine tN ?_
     refine eF rfl ?_
     refine eX ?_
     refine tX ?_
     refine lX ?_
     refine bX ?_
     refine tN ?_
     refine eS ?_
     refine eR rfl ?_
     refine eV rfl (xM rfl) rfl ?_
     refine eV rfl (xM rfl) rfl ?_
     refine eV rfl (xB rfl rfl rfl) rfl ?_
     refine eV rfl (xB rfl rfl rfl) rfl ?_
     refine eV rfl (xA rfl) rfl ?_
     refine eN ?_
     refine tN ?_
     refine eT ?_
     exact r1_ rfl rfl ⟨_, rfl, hst.pop⟩
  ·refine eU rfl rfl ?_
   refine eU rfl rfl ?_
   refine eU rfl rfl ?_
   refine eU rfl rfl ?_
   refine eV rfl (xP rfl rfl) rfl ?_
   refine eN ?_
   refine tN ?_
   refine eF rfl ?_
   refine eX ?_
   refine tX ?_
   refine lX ?_
   refine bX ?_
   refine tN ?_
   refine eS ?_
   refine eS ?_
   refine eR rfl ?_
   refine eV rfl (xA rfl) rfl ?_
   refine eN ?_
   refine tN ?_
   refine eB ?_
   obtain ⟨LL7, hst, hLL7⟩ := hst.named
   refine eW [5, 8, 83, 84, 85, 86, 87, 88, 89, 90, 91, 92, 93, 94, 95, 96, 97, 98, 99, 100, 101, 102, 103, 104, 105, 106] (fun j t σ => ∃ (i : Nat) (m : Int), j + i = g.order.length ∧ t.get 5 = some (.int .i64 m) ∧ t.get 8 = some (.int .i64 (.ofNat i)) ∧ St σ K LL7) (g.order.length) ⟨0, _, rfl, rfl, rfl, hst⟩ ?_
   clear hst; intro j11 t σ hoff hI; obtain ⟨i, m, hj11, hv5, hv8, hst⟩ := hI
   subst hLL7
   obtain ⟨o5, o8, o83, o84, o85, o86, o87, o88, hoff⟩ := hoff.ex8 rfl rfl
   obtain ⟨o89, o90, o91, o92, o93, o94, o95, o96, hoff⟩ := hoff.ex8 rfl rfl
   obtain ⟨o97, o98, o99, o100, o101, o102, o103, o104, hoff⟩ := hoff.ex8 rfl rfl
   obtain ⟨o105, hoff⟩ := hoff.ex1 rfl
   obtain ⟨o106, hoff⟩ := hoff.ex1 rfl
   obtain rfl := hoff.nil; clear hoff
   replace hv5 : o5 = some _ := hv5; subst hv5
   replace hv8 : o8 = some _ := hv8; subst hv8
   refine eS ?_
   refine eS ?_
   refine eR rfl ?_
   refine eV rfl (xM rfl) rfl ?_
   refine eV rfl (xF rfl (k := 3) (by kernel_rfl)) rfl ?_
   refine eV rfl (x1_ rfl (hst.get 0 rfl) (by kernel_rfl) rfl) rfl ?_
   refine eV rfl (x_len' ho rfl rfl rfl (e := 62) (by kernel_rfl) rfl) rfl ?_
   refine eV rfl (xB rfl rfl rfl) rfl ?_
   refine oS rfl (xM rfl) (fun _ => rfl) (fun h88 => ?_) (fun h88 => ?_)
   ·refine eV rfl (xM rfl) rfl ?_
    refine eV rfl (xM rfl) rfl ?_
    refine eV rfl (xB rfl rfl rfl) rfl ?_
    refine eV rfl (xB rfl rfl rfl) rfl ?_
    refine eV rfl (xP rfl rfl) rfl ?_
    refine eN ?_
    refine tN ?_
    refine e2_ rfl (fun h93 => ?_) (fun h93 => ?_)
    ·refine eI ?_
     refine tN ?_
     refine eS ?_
     refine eB ?_
     refine eR rfl ?_
     refine eV rfl (xM rfl) rfl ?_
     refine eV rfl (xM rfl) rfl ?_
     refine eV rfl (xB rfl rfl rfl) rfl ?_
     refine eV rfl (xF rfl (k := 3) (by kernel_rfl)) rfl ?_
     refine eV rfl (x1_ rfl (hst.get 0 rfl) (by kernel_rfl) rfl) rfl ?_
     refine eV rfl (xM rfl) rfl ?_
     obtain ⟨x102, hx102, hi102⟩ := at_lt h88
     refine oI (e := 62) (m := 1) ho hx102 rfl rfl (by kernel_rfl) (by kernel_rfl) rfl rfl (fun _ => rfl) (fun p102 vs102 hp102 hl102 hr102 => ?_)
     have hr102' := hr102; obtain ⟨v102, rfl, hk102⟩ := hr102'
     refine eV rfl (xp hst hp102 rfl (by kernel_rfl) rfl) rfl ?_
     refine eV rfl (x_len' hk102 rfl rfl rfl (e := 47) (by kernel_rfl) rfl) rfl ?_
     refine eV rfl (x_min rfl rfl rfl rfl) rfl ?_
     refine eV rfl (xB rfl rfl rfl) rfl ?_
     refine eV rfl (xA rfl) rfl ?_
     refine eN ?_
     refine bN ?_
     refine tN ?_
     refine eR rfl ?_
     refine eV rfl (xM rfl) rfl ?_
     refine eV rfl (xB rfl rfl rfl) rfl ?_
     refine eV rfl (xA rfl) rfl ?_
     refine eN ?_
     refine lN ⟨j11 - 1, by omega, (by (iterate 52 refine OffW.put rfl ?_); exact OffW.refl _ _), i + 1, _, by omega, rfl, congrArg (fun z => some (AV.int .i64 z)) (wr_succ (by have := ho.len_le; omega)), hst⟩
    ·refine eX ?_
     refine tX ?_
     refine lX ?_
     refine bX ?_
     refine tN ?_
     refine eS ?_
     refine eR rfl ?_
     refine eV rfl (xM rfl) rfl ?_
     refine eV rfl (xM rfl) rfl ?_
     refine eV rfl (xB rfl rfl rfl) rfl ?_
     refine eV rfl (xB rfl rfl rfl) rfl ?_
     refine eV rfl (xA rfl) rfl ?_
     refine eN ?_
     refine tN ?_
     refine eT ?_
     exact r1_ rfl rfl ⟨_, rfl, hst.pop⟩
   ·refine eU rfl rfl ?_
    refine eU rfl rfl ?_
    refine eU rfl rfl ?_
    refine eU rfl rfl ?_
    refine eV rfl (xP rfl rfl) rfl ?_
    refine eN ?_
    refine tN ?_
    refine eF rfl ?_
    refine eX ?_
    refine tX ?_
    refine lX ?_
    refine bX ?_
    refine tN ?_
    refine eS ?_
    refine eR rfl ?_
    refine eV rfl (xM rfl) rfl ?_
    refine eV rfl (xM rfl) rfl ?_
    refine eV rfl (xB rfl rfl rfl) rfl ?_
    refine eV rfl (xB rfl rfl rfl) rfl ?_
    refine eV rfl (xA rfl) rfl ?_
    refine eN ?_
    refine tN ?_
    refine eT ?_
    exact r1_ rfl rfl ⟨_, rfl, hst.pop⟩
end Go.Ev

namespace Go.Ev
variable [Env]
open Go.Proofs
set_option maxRecDepth 4000
set_option maxHeartbeats 8000000
theorem rows_step {α β : Type} {A : List (List α)} {B : List (List β)} {i : Nat} {a : List α} {b : List β} (h : ∀ (k : Nat) (x : List α) (y : List β), k < i → A[k]? = some x → B[k]? = some y → y.length = x.length) (hx : A[i]? = some a) (hy : B[i]? = some b) (he : b.length = a.length) :
  ∀ (k : Nat) (x : List α) (y : List β), k < i + 1 → A[k]? = some x → B[k]? = some y → y.length = x.length := by
 intro k x y hk h1 h2
 by_cases hki : k = i
 ·subst hki
  rw [hx] at h1; rw [hy] at h2
  cases h1; cases h2; exact he
 ·exact h k x y (by omega) h1 h2

theorem w_fine {G : Cx} (hG : Plain G) {K : KP} {g : XG} {a b c d : AV} (h : HasG K g a b c d) (e : XEv) {σ : AHeap} {L : Own} (hst : St σ K L) : EvCall Try.prog G 43 [.agg [a, b, c, d], .agg (ints e.ints)] σ fun v σ' => ∃ q, v = .bool q ∧ St σ' K L := by
 have h' := h; obtain ⟨hi, ht, hf, ho⟩ := h'
 refine eY hG Try.func43 rfl (t := (PT.leaf.put (some (.agg [a, b, c, d])) 0).put (some (.agg (ints e.ints))) 1) (by rfl) ?_
 refine eS ?_
 refine eR rfl ?_
 refine oP hst rfl (xo_ rfl rfl) (fun _ => rfl) (fun σ b1 hst => ?_)
 refine oP hst rfl (xo_ rfl rfl) (fun _ => rfl) (fun σ b2 hst => ?_)
 refine eV rfl (xA rfl) rfl ?_
 refine eN ?_
 refine tN ?_
 refine eS ?_
 refine eS ?_
 refine eR rfl ?_
 refine eV rfl (xF rfl (k := 0) (by kernel_rfl)) rfl ?_
 refine eV rfl (x1_ rfl (hst.get 0 rfl) (by kernel_rfl) rfl) rfl ?_
 refine eV rfl (xB rfl rfl rfl) rfl ?_
 refine oS rfl (xM rfl) (fun _ => rfl) (fun h8 => ?_) (fun h8 => ?_)
 ·refine eU rfl rfl ?_
  refine eU rfl rfl ?_
  refine eU rfl rfl ?_
  refine eV rfl (xP rfl rfl) rfl ?_
  refine eV rfl (xM rfl) rfl ?_
  refine eU rfl rfl ?_
  refine eU rfl rfl ?_
  refine eU rfl rfl ?_
  refine eV rfl (xP rfl rfl) rfl ?_
  refine eV rfl (xM rfl) rfl ?_
  refine eU rfl rfl ?_
  refine eU rfl rfl ?_
  refine eU rfl rfl ?_
  refine eV rfl (xP rfl rfl) rfl ?_
  refine eV rfl (xM rfl) rfl ?_
  refine eU rfl rfl ?_
  refine eU rfl rfl ?_
  refine eU rfl rfl ?_
  refine eU rfl rfl ?_
  refine eU rfl rfl ?_
  refine eU rfl rfl ?_
  refine eU rfl rfl ?_
  refine eU rfl rfl ?_
  refine eV rfl (xP rfl rfl) rfl ?_
  refine eV rfl (xM rfl) rfl ?_
  refine eU rfl rfl ?_
  refine eU rfl rfl ?_
  refine eU rfl rfl ?_
  refine eU rfl rfl ?_
  refine eU rfl rfl ?_
  refine eU rfl rfl ?_
  refine eU rfl rfl ?_
  refine eU rfl rfl ?_
  refine eV rfl (xP rfl rfl) rfl ?_
  refine eN ?_
  refine tN ?_
  refine eA rfl ?_
  refine eS ?_
  refine eR rfl ?_
  refine eV rfl (xA rfl) rfl ?_
  refine eN ?_
  refine tN ?_
  refine eT ?_
  refine tR (?_)
  exact r1_ rfl rfl ⟨_, rfl, hst.pop.pop⟩
 ·refine eV rfl (xF rfl (k := 0) (by kernel_rfl)) rfl ?_
  refine eV rfl (x1_ rfl (hst.get 0 rfl) (by kernel_rfl) rfl) rfl ?_
  refine eV rfl (xB rfl rfl rfl) rfl ?_
  refine eV rfl (xP rfl rfl) rfl ?_
  refine oS rfl (xM rfl) (fun _ => rfl) (fun h13 => ?_) (fun h13 => ?_)
  ·refine eU rfl rfl ?_
   refine eU rfl rfl ?_
   refine eU rfl rfl ?_
   refine eV rfl (xP rfl rfl) rfl ?_
   refine eV rfl (xM rfl) rfl ?_
   refine eU rfl rfl ?_
   refine eU rfl rfl ?_
   refine eU rfl rfl ?_
   refine eV rfl (xP rfl rfl) rfl ?_
   refine eV rfl (xM rfl) rfl ?_
   refine eU rfl rfl ?_
   refine eU rfl rfl ?_
   refine eU rfl rfl ?_
   refine eU rfl rfl ?_
   refine eU rfl rfl ?_
   refine eU rfl rfl ?_
   refine eU rfl rfl ?_
   refine eU rfl rfl ?_
   refine eV rfl (xP rfl rfl) rfl ?_
   refine eV rfl (xM rfl) rfl ?_
   refine eU rfl rfl ?_
   refine eU rfl rfl ?_
   refine eU rfl rfl ?_
   refine eU rfl rfl ?_
   refine eU rfl rfl ?_
   refine eU rfl rfl ?_
   refine eU rfl rfl ?_
   refine eU rfl rfl ?_
   refine eV rfl (xP rfl rfl) rfl ?_
   refine eN ?_
   refine tN ?_
   refine eA rfl ?_
   refine eS ?_
   refine eR rfl ?_
   refine eV rfl (xA rfl) rfl ?_
   refine eN ?_
   refine tN ?_
   refine eT ?_
   refine tR (?_)
   exact r1_ rfl rfl ⟨_, rfl, hst.pop.pop⟩
  ·refine eV rfl (xF rfl (k := 2) (by kernel_rfl)) rfl ?_
   refine eV rfl (x1_ rfl (hst.get 0 rfl) (by kernel_rfl) rfl) rfl ?_
   refine eV rfl (xB rfl rfl rfl) rfl ?_
   refine eV rfl (xP rfl rfl) rfl ?_
   refine oS rfl (xM rfl) (fun _ => rfl) (fun h18 => ?_) (fun h18 => ?_)
   ·refine eU rfl rfl ?_
    refine eU rfl rfl ?_
    refine eU rfl rfl ?_
    refine eV rfl (xP rfl rfl) rfl ?_
    refine eV rfl (xM rfl) rfl ?_
    refine eU rfl rfl ?_
    refine eU rfl rfl ?_
    refine eU rfl rfl ?_
    refine eU rfl rfl ?_
    refine eU rfl rfl ?_
    refine eU rfl rfl ?_
    refine eU rfl rfl ?_
    refine eU rfl rfl ?_
    refine eV rfl (xP rfl rfl) rfl ?_
    refine eV rfl (xM rfl) rfl ?_
    refine eU rfl rfl ?_
    refine eU rfl rfl ?_
    refine eU rfl rfl ?_
    refine eU rfl rfl ?_
    refine eU rfl rfl ?_
    refine eU rfl rfl ?_
    refine eU rfl rfl ?_
    refine eU rfl rfl ?_
    refine eV rfl (xP rfl rfl) rfl ?_
    refine eN ?_
    refine tN ?_
    refine eA rfl ?_
    refine eS ?_
    refine eR rfl ?_
    refine eV rfl (xA rfl) rfl ?_
    refine eN ?_
    refine tN ?_
    refine eT ?_
    refine tR (?_)
    exact r1_ rfl rfl ⟨_, rfl, hst.pop.pop⟩
   ·refine eV rfl (xF rfl (k := 2) (by kernel_rfl)) rfl ?_
    refine eV rfl (x1_ rfl (hst.get 0 rfl) (by kernel_rfl) rfl) rfl ?_
    refine eV rfl (xB rfl rfl rfl) rfl ?_
    refine eV rfl (xP rfl rfl) rfl ?_
    refine oS rfl (xM rfl) (fun _ => rfl) (fun h23 => ?_) (fun h23 => ?_)
    ·refine eU rfl rfl ?_
     refine eU rfl rfl ?_
     refine eU rfl rfl ?_
     refine eU rfl rfl ?_
     refine eU rfl rfl ?_
     refine eU rfl rfl ?_
     refine eU rfl rfl ?_
     refine eU rfl rfl ?_
     refine eV rfl (xP rfl rfl) rfl ?_
     refine eV rfl (xM rfl) rfl ?_
     refine eU rfl rfl ?_
     refine eU rfl rfl ?_
     refine eU rfl rfl ?_
     refine eU rfl rfl ?_
     refine eU rfl rfl ?_
     refine eU rfl rfl ?_
     refine eU rfl rfl ?_
     refine eU rfl rfl ?_
     refine eV rfl (xP rfl rfl) rfl ?_
     refine eN ?_
     refine tN ?_
     refine eA rfl ?_
     refine eS ?_
     refine eR rfl ?_
     refine eV rfl (xA rfl) rfl ?_
     refine eN ?_
     refine tN ?_
     refine eT ?_
     refine tR (?_)
     exact r1_ rfl rfl ⟨_, rfl, hst.pop.pop⟩
    ·refine eV rfl (xN rfl (hst.get 0 rfl) (n := 5) (vs := [_, _, _, _, _]) (by kernel_rfl) (Nat.le_of_ble_eq_true rfl) rfl) rfl ?_
     refine oV rfl (xC rfl rfl rfl (by kernel_rfl)) (fun _ => rfl) (w_rreads hG _ hst) (fun σ hst => ?_)
     refine eV rfl (xn rfl) rfl ?_
     refine oS rfl (xM rfl) (fun _ => rfl) (fun h27 => ?_) (fun h27 => ?_)
     ·refine eV rfl (xF rfl (k := 3) (by kernel_rfl)) rfl ?_
      refine eV rfl (x1_ rfl (hst.get 0 rfl) (by kernel_rfl) rfl) rfl ?_
      refine eV rfl (xB rfl rfl rfl) rfl ?_
      refine eV rfl (xP rfl rfl) rfl ?_
      refine eV rfl (xP rfl rfl) rfl ?_
      refine oS rfl (xM rfl) (fun _ => rfl) (fun h33 => ?_) (fun h33 => ?_)
      ·refine eU rfl rfl ?_
       refine eU rfl rfl ?_
       refine eU rfl rfl ?_
       refine eU rfl rfl ?_
       refine eU rfl rfl ?_
       refine eU rfl rfl ?_
       refine eU rfl rfl ?_
       refine eU rfl rfl ?_
       refine eV rfl (xP rfl rfl) rfl ?_
       refine eN ?_
       refine tN ?_
       refine eA rfl ?_
       refine eS ?_
       refine eR rfl ?_
       refine eV rfl (xA rfl) rfl ?_
       refine eN ?_
       refine tN ?_
       refine eT ?_
       refine tR (?_)
       exact r1_ rfl rfl ⟨_, rfl, hst.pop.pop⟩
      ·refine eV rfl (xN rfl (hst.get 0 rfl) (n := 5) (vs := [_, _, _, _, _]) (by kernel_rfl) (Nat.le_of_ble_eq_true rfl) rfl) rfl ?_
       refine oV rfl (xC rfl rfl rfl (by kernel_rfl)) (fun _ => rfl) (w_rwrites hG _ hst) (fun σ hst => ?_)
       refine eV rfl (xn rfl) rfl ?_
       refine oS rfl (xM rfl) (fun _ => rfl) (fun h37 => ?_) (fun h37 => ?_)
       ·refine eV rfl (xF rfl (k := 4) (by kernel_rfl)) rfl ?_
        refine eV rfl (x1_ rfl (hst.get 0 rfl) (by kernel_rfl) rfl) rfl ?_
        refine eV rfl (xB rfl rfl rfl) rfl ?_
        refine eV rfl (xP rfl rfl) rfl ?_
        refine eV rfl (xP rfl rfl) rfl ?_
        refine eN ?_
        refine tN ?_
        refine e2_ rfl (fun h42 => ?_) (fun h42 => ?_)
        ·refine eS ?_
         refine eR rfl ?_
         refine eV rfl (xA rfl) rfl ?_
         refine eN ?_
         refine tN ?_
         refine eT ?_
         refine tR (?_)
         exact r1_ rfl rfl ⟨_, rfl, hst.pop.pop⟩
        ·refine eI ?_
         refine tN ?_
         refine eS ?_
         refine eS ?_
         refine eR rfl ?_
         refine eV rfl (xF rfl (k := 0) (by kernel_rfl)) rfl ?_
         refine eV rfl (x1_ rfl (hst.get 0 rfl) (by kernel_rfl) rfl) rfl ?_
         refine eV rfl (xB rfl rfl rfl) rfl ?_
         refine eN ?_
         refine tN ?_
         refine e2_ rfl (fun h45 => ?_) (fun h45 => ?_)
         ·refine eS ?_
          refine eR rfl ?_
          refine eV rfl (xF rfl (k := 1) (by kernel_rfl)) rfl ?_
          refine eV rfl (x1_ rfl (hst.get 0 rfl) (by kernel_rfl) rfl) rfl ?_
          refine eV rfl (xB rfl rfl rfl) rfl ?_
          refine eV rfl (xA rfl) rfl ?_
          refine eN ?_
          refine tN ?_
          refine eT ?_
          refine tR (?_)
          exact r1_ rfl rfl ⟨_, rfl, hst.pop.pop⟩
         ·refine eI ?_
          refine tN ?_
          refine eS ?_
          refine eR rfl ?_
          refine eV rfl (xF rfl (k := 1) (by kernel_rfl)) rfl ?_
          refine eV rfl (x1_ rfl (hst.get 0 rfl) (by kernel_rfl) rfl) rfl ?_
          refine eV rfl (xB rfl rfl rfl) rfl ?_
          refine oS rfl (xM rfl) (fun _ => rfl) (fun h52 => ?_) (fun h52 => ?_)
          ·refine eV rfl (xF rfl (k := 1) (by kernel_rfl)) rfl ?_
           refine eV rfl (x1_ rfl (hst.get 0 rfl) (by kernel_rfl) rfl) rfl ?_
           refine eV rfl (xF rfl (k := 0) (by kernel_rfl)) rfl ?_
           refine eV rfl (x1_ rfl (hst.get 1 rfl) (by kernel_rfl) rfl) rfl ?_
           refine eV rfl (x_len' hi rfl rfl rfl (e := 2) (by kernel_rfl) rfl) rfl ?_
           refine eV rfl (xB rfl rfl rfl) rfl ?_
           refine eV rfl (xP rfl rfl) rfl ?_
           refine eV rfl (xA rfl) rfl ?_
           refine eN ?_
           refine tN ?_
           refine eT ?_
           exact r1_ rfl rfl ⟨_, rfl, hst.pop.pop⟩
          ·refine eU rfl rfl ?_
           refine eU rfl rfl ?_
           refine eU rfl rfl ?_
           refine eU rfl rfl ?_
           refine eU rfl rfl ?_
           refine eU rfl rfl ?_
           refine eV rfl (xP rfl rfl) rfl ?_
           refine eV rfl (xA rfl) rfl ?_
           refine eN ?_
           refine tN ?_
           refine eT ?_
           exact r1_ rfl rfl ⟨_, rfl, hst.pop.pop⟩
       ·refine eU rfl rfl ?_
        refine eU rfl rfl ?_
        refine eU rfl rfl ?_
        refine eV rfl (xP rfl rfl) rfl ?_
        refine eV rfl (xP rfl rfl) rfl ?_
        refine eN ?_
        refine tN ?_
        refine eF rfl ?_
        refine eI ?_
        refine tN ?_
        refine eS ?_
        refine eS ?_
        refine eR rfl ?_
        refine eV rfl (xF rfl (k := 0) (by kernel_rfl)) rfl ?_
        refine eV rfl (x1_ rfl (hst.get 0 rfl) (by kernel_rfl) rfl) rfl ?_
        refine eV rfl (xB rfl rfl rfl) rfl ?_
        refine eN ?_
        refine tN ?_
        refine e2_ rfl (fun h45 => ?_) (fun h45 => ?_)
        ·refine eS ?_
         refine eR rfl ?_
         refine eV rfl (xF rfl (k := 1) (by kernel_rfl)) rfl ?_
         refine eV rfl (x1_ rfl (hst.get 0 rfl) (by kernel_rfl) rfl) rfl ?_
         refine eV rfl (xB rfl rfl rfl) rfl ?_
         refine eV rfl (xA rfl) rfl ?_
         refine eN ?_
         refine tN ?_
         refine eT ?_
         refine tR (?_)
         exact r1_ rfl rfl ⟨_, rfl, hst.pop.pop⟩
        ·refine eI ?_
         refine tN ?_
         refine eS ?_
         refine eR rfl ?_
         refine eV rfl (xF rfl (k := 1) (by kernel_rfl)) rfl ?_
         refine eV rfl (x1_ rfl (hst.get 0 rfl) (by kernel_rfl) rfl) rfl ?_
         refine eV rfl (xB rfl rfl rfl) rfl ?_
         refine oS rfl (xM rfl) (fun _ => rfl) (fun h52 => ?_) (fun h52 => ?_)
         ·refine eV rfl (xF rfl (k := 1) (by kernel_rfl)) rfl ?_
          refine eV rfl (x1_ rfl (hst.get 0 rfl) (by kernel_rfl) rfl) rfl ?_
          refine eV rfl (xF rfl (k := 0) (by kernel_rfl)) rfl ?_
          refine eV rfl (x1_ rfl (hst.get 1 rfl) (by kernel_rfl) rfl) rfl ?_
          refine eV rfl (x_len' hi rfl rfl rfl (e := 2) (by kernel_rfl) rfl) rfl ?_
          refine eV rfl (xB rfl rfl rfl) rfl ?_
          refine eV rfl (xP rfl rfl) rfl ?_
          refine eV rfl (xA rfl) rfl ?_
          refine eN ?_
          refine tN ?_
          refine eT ?_
          exact r1_ rfl rfl ⟨_, rfl, hst.pop.pop⟩
         ·refine eU rfl rfl ?_
          refine eU rfl rfl ?_
          refine eU rfl rfl ?_
          refine eU rfl rfl ?_
          refine eU rfl rfl ?_
          refine eU rfl rfl ?_
          refine eV rfl (xP rfl rfl) rfl ?_
          refine eV rfl (xA rfl) rfl ?_
          refine eN ?_
          refine tN ?_
          refine eT ?_
          exact r1_ rfl rfl ⟨_, rfl, hst.pop.pop⟩
     ·refine eU rfl rfl ?_
      refine eU rfl rfl ?_
      refine eU rfl rfl ?_
      refine eV rfl (xP rfl rfl) rfl ?_
      refine eV rfl (xP rfl rfl) rfl ?_
      refine eV rfl (xM rfl) rfl ?_
      refine eV rfl (xN rfl (hst.get 0 rfl) (n := 5) (vs := [_, _, _, _, _]) (by kernel_rfl) (Nat.le_of_ble_eq_true rfl) rfl) rfl ?_
      refine oV rfl (xC rfl rfl rfl (by kernel_rfl)) (fun _ => rfl) (w_rwrites hG _ hst) (fun σ hst => ?_)
      refine eV rfl (xn rfl) rfl ?_
      refine oS rfl (xM rfl) (fun _ => rfl) (fun h37 => ?_) (fun h37 => ?_)
      ·refine eV rfl (xF rfl (k := 4) (by kernel_rfl)) rfl ?_
       refine eV rfl (x1_ rfl (hst.get 0 rfl) (by kernel_rfl) rfl) rfl ?_
       refine eV rfl (xB rfl rfl rfl) rfl ?_
       refine eV rfl (xP rfl rfl) rfl ?_
       refine eV rfl (xP rfl rfl) rfl ?_
       refine eN ?_
       refine tN ?_
       refine e2_ rfl (fun h42 => ?_) (fun h42 => ?_)
       ·refine eS ?_
        refine eR rfl ?_
        refine eV rfl (xA rfl) rfl ?_
        refine eN ?_
        refine tN ?_
        refine eT ?_
        refine tR (?_)
        exact r1_ rfl rfl ⟨_, rfl, hst.pop.pop⟩
       ·refine eI ?_
        refine tN ?_
        refine eS ?_
        refine eS ?_
        refine eR rfl ?_
        refine eV rfl (xF rfl (k := 0) (by kernel_rfl)) rfl ?_
        refine eV rfl (x1_ rfl (hst.get 0 rfl) (by kernel_rfl) rfl) rfl ?_
        refine eV rfl (xB rfl rfl rfl) rfl ?_
        refine eN ?_
        refine tN ?_
        refine e2_ rfl (fun h45 => ?_) (fun h45 => ?_)
        ·refine eS ?_
         refine eR rfl ?_
         refine eV rfl (xF rfl (k := 1) (by kernel_rfl)) rfl ?_
         refine eV rfl (x1_ rfl (hst.get 0 rfl) (by kernel_rfl) rfl) rfl ?_
         refine eV rfl (xB rfl rfl rfl) rfl ?_
         refine eV rfl (xA rfl) rfl ?_
         refine eN ?_
         refine tN ?_
         refine eT ?_
         refine tR (?_)
         exact r1_ rfl rfl ⟨_, rfl, hst.pop.pop⟩
        ·refine eI ?_
         refine tN ?_
         refine eS ?_
         refine eR rfl ?_
         refine eV rfl (xF rfl (k := 1) (by kernel_rfl)) rfl ?_
         refine eV rfl (x1_ rfl (hst.get 0 rfl) (by kernel_rfl) rfl) rfl ?_
         refine eV rfl (xB rfl rfl rfl) rfl ?_
         refine oS rfl (xM rfl) (fun _ => rfl) (fun h52 => ?_) (fun h52 => ?_)
         ·refine eV rfl (xF rfl (k := 1) (by kernel_rfl)) rfl ?_
          refine eV rfl (x1_ rfl (hst.get 0 rfl) (by kernel_rfl) rfl) rfl ?_
          refine eV rfl (xF rfl (k := 0) (by kernel_rfl)) rfl ?_
          refine eV rfl (x1_ rfl (hst.get 1 rfl) (by kernel_rfl) rfl) rfl ?_
          refine eV rfl (x_len' hi rfl rfl rfl (e := 2) (by kernel_rfl) rfl) rfl ?_
          refine eV rfl (xB rfl rfl rfl) rfl ?_
          refine eV rfl (xP rfl rfl) rfl ?_
          refine eV rfl (xA rfl) rfl ?_
          refine eN ?_
          refine tN ?_
          refine eT ?_
          exact r1_ rfl rfl ⟨_, rfl, hst.pop.pop⟩
         ·refine eU rfl rfl ?_
          refine eU rfl rfl ?_
          refine eU rfl rfl ?_
          refine eU rfl rfl ?_
          refine eU rfl rfl ?_
          refine eU rfl rfl ?_
          refine eV rfl (xP rfl rfl) rfl ?_
          refine eV rfl (xA rfl) rfl ?_
          refine eN ?_
          refine tN ?_
          refine eT ?_
          exact r1_ rfl rfl ⟨_, rfl, hst.pop.pop⟩
      ·refine eU rfl rfl ?_
       refine eU rfl rfl ?_
       refine eU rfl rfl ?_
       refine eV rfl (xP rfl rfl) rfl ?_
       refine eV rfl (xP rfl rfl) rfl ?_
       refine eN ?_
       refine tN ?_
       refine eF rfl ?_
       refine eI ?_
       refine tN ?_
       refine eS ?_
       refine eS ?_
       refine eR rfl ?_
       refine eV rfl (xF rfl (k := 0) (by kernel_rfl)) rfl ?_
       refine eV rfl (x1_ rfl (hst.get 0 rfl) (by kernel_rfl) rfl) rfl ?_
       refine eV rfl (xB rfl rfl rfl) rfl ?_
       refine eN ?_
       refine tN ?_
       refine e2_ rfl (fun h45 => ?_) (fun h45 => ?_)
       ·refine eS ?_
        refine eR rfl ?_
        refine eV rfl (xF rfl (k := 1) (by kernel_rfl)) rfl ?_
        refine eV rfl (x1_ rfl (hst.get 0 rfl) (by kernel_rfl) rfl) rfl ?_
        refine eV rfl (xB rfl rfl rfl) rfl ?_
        refine eV rfl (xA rfl) rfl ?_
        refine eN ?_
        refine tN ?_
        refine eT ?_
        refine tR (?_)
        exact r1_ rfl rfl ⟨_, rfl, hst.pop.pop⟩
       ·refine eI ?_
        refine tN ?_
        refine eS ?_
        refine eR rfl ?_
        refine eV rfl (xF rfl (k := 1) (by kernel_rfl)) rfl ?_
        refine eV rfl (x1_ rfl (hst.get 0 rfl) (by kernel_rfl) rfl) rfl ?_
        refine eV rfl (xB rfl rfl rfl) rfl ?_
        refine oS rfl (xM rfl) (fun _ => rfl) (fun h52 => ?_) (fun h52 => ?_)
        ·refine eV rfl (xF rfl (k := 1) (by kernel_rfl)) rfl ?_
         refine eV rfl (x1_ rfl (hst.get 0 rfl) (by kernel_rfl) rfl) rfl ?_
         refine eV rfl (xF rfl (k := 0) (by kernel_rfl)) rfl ?_
         refine eV rfl (x1_ rfl (hst.get 1 rfl) (by kernel_rfl) rfl) rfl ?_
         refine eV rfl (x_len' hi rfl rfl rfl (e := 2) (by kernel_rfl) rfl) rfl ?_
         refine eV rfl (xB rfl rfl rfl) rfl ?_
         refine eV rfl (xP rfl rfl) rfl ?_
         refine eV rfl (xA rfl) rfl ?_
         refine eN ?_
         refine tN ?_
         refine eT ?_
         exact r1_ rfl rfl ⟨_, rfl, hst.pop.pop⟩
        ·refine eU rfl rfl ?_
         refine eU rfl rfl ?_
         refine eU rfl rfl ?_
         refine eU rfl rfl ?_
         refine eU rfl rfl ?_
         refine eU rfl rfl ?_
         refine eV rfl (xP rfl rfl) rfl ?_
         refine eV rfl (xA rfl) rfl ?_
         refine eN ?_
         refine tN ?_
         refine eT ?_
         exact r1_ rfl rfl ⟨_, rfl, hst.pop.pop⟩
theorem w_source {G : Cx} (hG : Plain G) {K : KP} {g : XG} {a b c d : AV} (h : HasG K g a b c d) (th ix th2 ix2 : Int) {σ : AHeap} {L : Own} (hst : St σ K L) : EvCall Try.prog G 44 [.agg [a, b, c, d], .agg [.int .i64 th, .int .i64 ix], .agg [.int .i64 th2, .int .i64 ix2]] σ fun v σ' => ∃ q, v = .bool q ∧ St σ' K L := by
 have h' := h; obtain ⟨hi, ht, hf, ho⟩ := h'
 refine eY hG Try.func44 rfl (t := ((PT.leaf.put (some (.agg [a, b, c, d])) 0).put (some (.agg [.int .i64 th, .int .i64 ix])) 1).put (some (.agg [.int .i64 th2, .int .i64 ix2])) 2) (by rfl) ?_
 refine eS ?_
 refine eR rfl ?_
 refine oP hst rfl (xo_ rfl rfl) (fun _ => rfl) (fun σ b1 hst => ?_)
 refine oP hst rfl (xo_ rfl rfl) (fun _ => rfl) (fun σ b2 hst => ?_)
 refine oP hst rfl (xo_ rfl rfl) (fun _ => rfl) (fun σ b3 hst => ?_)
 refine eV rfl (xA rfl) rfl ?_
 refine eN ?_
 refine tN ?_
 refine eS ?_
 refine eR rfl ?_
 refine eV rfl (xN rfl (hst.get 2 rfl) (n := 4) (vs := [_, _, _, _]) (by kernel_rfl) (Nat.le_of_ble_eq_true rfl) rfl) rfl ?_
 refine eV rfl (xN rfl (hst.get 1 rfl) (n := 2) (vs := [_, _]) (by kernel_rfl) (Nat.le_of_ble_eq_true rfl) rfl) rfl ?_
 refine oV rfl (xC rfl rfl rfl (by kernel_rfl)) (fun _ => rfl) (w_revent hG h _ _ hst) (fun σ hst => ?_)
 refine eV rfl (xM rfl) rfl ?_
 refine eV rfl (xU rfl rfl) rfl ?_
 refine eV rfl (xU rfl rfl) rfl ?_
 refine oP hst rfl (xe (cs := [.int .i64 0, .int .i64 0, .int .i64 0, .int .i64 0, .int .i64 0]) (by kernel_rfl) (by kernel_rfl)) (fun _ => rfl) (fun σ b4 hst => ?_)
 refine o_set0 hst rfl (xS rfl rfl rfl (hst.get 0 rfl) (m := 5) (by kernel_rfl) rfl (Nat.le_of_ble_eq_true rfl) (lC rfl (lC rfl (lC rfl (lC rfl (lC rfl l0_))))) (cells' := [_, _, _, _, _]) rfl) rfl (fun σ hst => ?_)
 refine eV rfl (xA rfl) rfl ?_
 refine eN ?_
 refine tN ?_
 refine eS ?_
 refine eS ?_
 refine eR rfl ?_
 refine eV rfl (xN rfl (hst.get 0 rfl) (n := 5) (vs := [_, _, _, _, _]) (by kernel_rfl) (Nat.le_of_ble_eq_true rfl) rfl) rfl ?_
 refine oV rfl (xC rfl rfl rfl (by kernel_rfl)) (fun _ => rfl) (w_rreads hG _ hst) (fun σ hst => ?_)
 refine eV rfl (xn rfl) rfl ?_
 refine eN ?_
 refine tN ?_
 refine e2_ rfl (fun h19 => ?_) (fun h19 => ?_)
 ·refine eS ?_
  refine eR rfl ?_
  refine eV rfl (xN rfl (hst.get 1 rfl) (n := 2) (vs := [_, _]) (by kernel_rfl) (Nat.le_of_ble_eq_true rfl) rfl) rfl ?_
  refine eV rfl (xb_ (places := [(0, 1), (1, 1)]) (zero := [.int .i64 0, .int .i64 0]) (cs := [_, _]) (by kernel_rfl) (by kernel_rfl) (by kernel_rfl) rfl (by kernel_rfl)) rfl ?_
  refine eV rfl (x_eqS (n := 2) (ca := [_, _]) (cb := [_, _]) (by kernel_rfl) rfl rfl rfl rfl) rfl ?_
  refine eV rfl (xA rfl) rfl ?_
  refine eN ?_
  refine tN ?_
  refine eT ?_
  refine tR (?_)
  exact r1_ rfl rfl ⟨_, rfl, hst.pop.pop.pop.pop⟩
 ·refine eI ?_
  refine tN ?_
  refine eS ?_
  refine eR rfl ?_
  refine eV rfl (xN rfl (hst.get 3 rfl) (n := 4) (vs := [_, _, _, _]) (by kernel_rfl) (Nat.le_of_ble_eq_true rfl) rfl) rfl ?_
  refine eV rfl (xN rfl (hst.get 1 rfl) (n := 2) (vs := [_, _]) (by kernel_rfl) (Nat.le_of_ble_eq_true rfl) rfl) rfl ?_
  refine oV rfl (xC rfl rfl rfl (by kernel_rfl)) (fun _ => rfl) (w_revent hG h _ _ hst) (fun σ hst => ?_)
  refine eV rfl (xM rfl) rfl ?_
  refine eV rfl (xU rfl rfl) rfl ?_
  refine eV rfl (xU rfl rfl) rfl ?_
  refine oP hst rfl (xe (cs := [.int .i64 0, .int .i64 0, .int .i64 0, .int .i64 0, .int .i64 0]) (by kernel_rfl) (by kernel_rfl)) (fun _ => rfl) (fun σ b5 hst => ?_)
  refine o_set0 hst rfl (xS rfl rfl rfl (hst.get 0 rfl) (m := 5) (by kernel_rfl) rfl (Nat.le_of_ble_eq_true rfl) (lC rfl (lC rfl (lC rfl (lC rfl (lC rfl l0_))))) (cells' := [_, _, _, _, _]) rfl) rfl (fun σ hst => ?_)
  refine eV rfl (xA rfl) rfl ?_
  refine eN ?_
  refine tN ?_
  refine eS ?_
  refine eR rfl ?_
  refine eV rfl (xM rfl) rfl ?_
  refine oS rfl (xM rfl) (fun _ => rfl) (fun h30 => ?_) (fun h30 => ?_)
  ·refine eV rfl (xN rfl (hst.get 2 rfl) (n := 2) (vs := [_, _]) (by kernel_rfl) (Nat.le_of_ble_eq_true rfl) rfl) rfl ?_
   refine eV rfl (xN rfl (hst.get 3 rfl) (n := 2) (vs := [_, _]) (by kernel_rfl) (Nat.le_of_ble_eq_true rfl) rfl) rfl ?_
   refine eV rfl (x_neS (n := 2) (ca := [_, _]) (cb := [_, _]) (by kernel_rfl) rfl rfl rfl rfl) rfl ?_
   refine eV rfl (xP rfl rfl) rfl ?_
   refine oS rfl (xM rfl) (fun _ => rfl) (fun h35 => ?_) (fun h35 => ?_)
   ·refine eV rfl (xN rfl (hst.get 0 rfl) (n := 5) (vs := [_, _, _, _, _]) (by kernel_rfl) (Nat.le_of_ble_eq_true rfl) rfl) rfl ?_
    refine oV rfl (xC rfl rfl rfl (by kernel_rfl)) (fun _ => rfl) (w_rwrites hG _ hst) (fun σ hst => ?_)
    refine eV rfl (xP rfl rfl) rfl ?_
    refine oS rfl (xM rfl) (fun _ => rfl) (fun h39 => ?_) (fun h39 => ?_)
    ·refine eV rfl (xF rfl (k := 1) (by kernel_rfl)) rfl ?_
     refine eV rfl (x1_ rfl (hst.get 0 rfl) (by kernel_rfl) rfl) rfl ?_
     refine eV rfl (xF rfl (k := 1) (by kernel_rfl)) rfl ?_
     refine eV rfl (x1_ rfl (hst.get 1 rfl) (by kernel_rfl) rfl) rfl ?_
     refine eV rfl (xB rfl rfl rfl) rfl ?_
     refine eV rfl (xP rfl rfl) rfl ?_
     refine oS rfl (xM rfl) (fun _ => rfl) (fun h46 => ?_) (fun h46 => ?_)
     ·refine eV rfl (xF rfl (k := 4) (by kernel_rfl)) rfl ?_
      refine eV rfl (x1_ rfl (hst.get 0 rfl) (by kernel_rfl) rfl) rfl ?_
      refine eV rfl (xF rfl (k := 3) (by kernel_rfl)) rfl ?_
      refine eV rfl (x1_ rfl (hst.get 1 rfl) (by kernel_rfl) rfl) rfl ?_
      refine eV rfl (xB rfl rfl rfl) rfl ?_
      refine eV rfl (xP rfl rfl) rfl ?_
      refine eV rfl (xA rfl) rfl ?_
      refine eN ?_
      refine tN ?_
      refine eT ?_
      exact r1_ rfl rfl ⟨_, rfl, hst.pop.pop.pop.pop.pop⟩
     ·refine eU rfl rfl ?_
      refine eU rfl rfl ?_
      refine eU rfl rfl ?_
      refine eU rfl rfl ?_
      refine eU rfl rfl ?_
      refine eV rfl (xP rfl rfl) rfl ?_
      refine eV rfl (xA rfl) rfl ?_
      refine eN ?_
      refine tN ?_
      refine eT ?_
      exact r1_ rfl rfl ⟨_, rfl, hst.pop.pop.pop.pop.pop⟩
    ·refine eU rfl rfl ?_
     refine eU rfl rfl ?_
     refine eU rfl rfl ?_
     refine eU rfl rfl ?_
     refine eU rfl rfl ?_
     refine eV rfl (xP rfl rfl) rfl ?_
     refine eV rfl (xM rfl) rfl ?_
     refine eU rfl rfl ?_
     refine eU rfl rfl ?_
     refine eU rfl rfl ?_
     refine eU rfl rfl ?_
     refine eU rfl rfl ?_
     refine eV rfl (xP rfl rfl) rfl ?_
     refine eV rfl (xA rfl) rfl ?_
     refine eN ?_
     refine tN ?_
     refine eT ?_
     exact r1_ rfl rfl ⟨_, rfl, hst.pop.pop.pop.pop.pop⟩
   ·refine eU rfl rfl ?_
    refine eU rfl rfl ?_
    refine eV rfl (xP rfl rfl) rfl ?_
    refine eV rfl (xM rfl) rfl ?_
    refine eU rfl rfl ?_
    refine eU rfl rfl ?_
    refine eU rfl rfl ?_
    refine eU rfl rfl ?_
    refine eU rfl rfl ?_
    refine eV rfl (xP rfl rfl) rfl ?_
    refine eV rfl (xM rfl) rfl ?_
    refine eU rfl rfl ?_
    refine eU rfl rfl ?_
    refine eU rfl rfl ?_
    refine eU rfl rfl ?_
    refine eU rfl rfl ?_
    refine eV rfl (xP rfl rfl) rfl ?_
    refine eV rfl (xA rfl) rfl ?_
    refine eN ?_
    refine tN ?_
    refine eT ?_
    exact r1_ rfl rfl ⟨_, rfl, hst.pop.pop.pop.pop.pop⟩
  ·refine eU rfl rfl ?_
   refine eU rfl rfl ?_
   refine eU rfl rfl ?_
   refine eV rfl (xP rfl rfl) rfl ?_
   refine eV rfl (xM rfl) rfl ?_
   refine eU rfl rfl ?_
   refine eU rfl rfl ?_
   refine eV rfl (xP rfl rfl) rfl ?_
   refine eV rfl (xM rfl) rfl ?_
   refine eU rfl rfl ?_
   refine eU rfl rfl ?_
   refine eU rfl rfl ?_
   refine eU rfl rfl ?_
   refine eU rfl rfl ?_
   refine eV rfl (xP rfl rfl) rfl ?_
   refine eV rfl (xM rfl) rfl ?_
   refine eU rfl rfl ?_
   refine eU rfl rfl ?_
   refine eU rfl rfl ?_
   refine eU rfl rfl ?_
   refine eU rfl rfl ?_
   refine eV rfl (xP rfl rfl) rfl ?_
   refine eV rfl (xA rfl) rfl ?_
   refine eN ?_
   refine tN ?_
   refine eT ?_
   exact r1_ rfl rfl ⟨_, rfl, hst.pop.pop.pop.pop.pop⟩
theorem w_ordered {G : Cx} (hG : Plain G) {K : KP} {g : XG} {a b c d : AV} (h : HasG K g a b c d) {ln : Nat} (hln : ln < g.order.length) {σ : AHeap} {L : Own} (hst : St σ K L) : EvCall Try.prog G 45 [.agg [a, b, c, d], .int .i64 (.ofNat ln)] σ fun v σ' => ∃ q, v = .bool q ∧ St σ' K L := by
 have h' := h; obtain ⟨hi, ht, hf, ho⟩ := h'
 refine eY hG Try.func45 rfl (t := (PT.leaf.put (some (.agg [a, b, c, d])) 0).put (some (.int .i64 (.ofNat ln))) 1) (by rfl) ?_
 refine eS ?_
 refine eR rfl ?_
 refine oP hst rfl (xo_ rfl rfl) (fun _ => rfl) (fun σ b1 hst => ?_)
 refine eV rfl (xA rfl) rfl ?_
 refine eN ?_
 refine tN ?_
 refine eS ?_
 refine eR rfl ?_
 refine eV rfl (xA rfl) rfl ?_
 refine eN ?_
 refine tN ?_
 refine eS ?_
 refine eS ?_
 refine eR rfl ?_
 refine eV rfl (xA rfl) rfl ?_
 refine eN ?_
 refine tN ?_
 refine eB ?_
 obtain ⟨LL1, hst, hLL1⟩ := hst.named
 refine eW [5, 6, 7, 13, 14, 15, 16, 17, 18, 19, 20, 21, 22, 23, 24, 25, 26, 27, 28, 29, 30, 31, 32, 33, 34, 35, 36, 37, 38, 39, 40, 41, 42, 43, 44, 45, 46, 47, 48, 49, 50, 51, 52, 53] (fun j t σ => ∃ (i : Nat) (m : Int), j + i = g.threads.length ∧ t.get 5 = some (.int .i64 m) ∧ t.get 6 = some (.int .i64 (.ofNat i)) ∧ St σ K LL1) (g.threads.length) ⟨0, _, rfl, rfl, rfl, hst⟩ ?_
 clear hst; intro j3 t σ hoff hI; obtain ⟨i, m, hj3, hv5, hv6, hst⟩ := hI
 subst hLL1
 obtain ⟨o5, o6, o7, o13, o14, o15, o16, o17, hoff⟩ := hoff.ex8 rfl rfl
 obtain ⟨o18, o19, o20, o21, o22, o23, o24, o25, hoff⟩ := hoff.ex8 rfl rfl
 obtain ⟨o26, o27, o28, o29, o30, o31, o32, o33, hoff⟩ := hoff.ex8 rfl rfl
 obtain ⟨o34, o35, o36, o37, o38, o39, o40, o41, hoff⟩ := hoff.ex8 rfl rfl
 obtain ⟨o42, o43, o44, o45, o46, o47, o48, o49, hoff⟩ := hoff.ex8 rfl rfl
 obtain ⟨o50, o51, o52, o53, hoff⟩ := hoff.ex4 rfl
 obtain rfl := hoff.nil; clear hoff
 replace hv5 : o5 = some _ := hv5; subst hv5
 replace hv6 : o6 = some _ := hv6; subst hv6
 refine eS ?_
 refine eS ?_
 refine eR rfl ?_
 refine eV rfl (xM rfl) rfl ?_
 refine eV rfl (xF rfl (k := 1) (by kernel_rfl)) rfl ?_
 refine eV rfl (x1_ rfl (hst.get 0 rfl) (by kernel_rfl) rfl) rfl ?_
 refine eV rfl (x_len' ht rfl rfl rfl (e := 61) (by kernel_rfl) rfl) rfl ?_
 refine eV rfl (xB rfl rfl rfl) rfl ?_
 refine eN ?_
 refine tN ?_
 refine e2_ rfl (fun h17 => ?_) (fun h17 => ?_)
 ·refine eI ?_
  refine tN ?_
  refine eS ?_
  refine eB ?_
  refine eS ?_
  refine eR rfl ?_
  obtain ⟨xa, hxa, hi_xa⟩ := at_lt h17
  refine eV rfl (xA rfl) rfl ?_
  refine eN ?_
  refine tN ?_
  refine eB ?_
  obtain ⟨LL2, hst, hLL2⟩ := hst.named
  refine eW [5, 7, 20, 21, 22, 23, 24, 25, 26, 27, 28, 29, 30, 31, 32, 33, 34, 35, 36, 37, 38, 39, 40, 41, 42, 43, 44, 45, 46, 47, 48, 49, 50, 51, 52, 53] (fun j t σ => ∃ (i2 : Nat) (m : Int), j + i2 = xa.length ∧ t.get 5 = some (.int .i64 m) ∧ t.get 7 = some (.int .i64 (.ofNat i2)) ∧ St σ K LL2) (xa.length) ⟨0, _, rfl, rfl, rfl, hst⟩ ?_
  clear hst; intro j6 t σ hoff hI; obtain ⟨i2, m, hj6, hv5, hv7, hst⟩ := hI
  subst hLL2
  obtain ⟨o5, o7, o20, o21, o22, o23, o24, o25, hoff⟩ := hoff.ex8 rfl rfl
  obtain ⟨o26, o27, o28, o29, o30, o31, o32, o33, hoff⟩ := hoff.ex8 rfl rfl
  obtain ⟨o34, o35, o36, o37, o38, o39, o40, o41, hoff⟩ := hoff.ex8 rfl rfl
  obtain ⟨o42, o43, o44, o45, o46, o47, o48, o49, hoff⟩ := hoff.ex8 rfl rfl
  obtain ⟨o50, o51, o52, o53, hoff⟩ := hoff.ex4 rfl
  obtain rfl := hoff.nil; clear hoff
  replace hv5 : o5 = some _ := hv5; subst hv5
  replace hv7 : o7 = some _ := hv7; subst hv7
  refine eS ?_
  refine eS ?_
  refine eR rfl ?_
  refine eV rfl (xM rfl) rfl ?_
  refine eV rfl (xF rfl (k := 1) (by kernel_rfl)) rfl ?_
  refine eV rfl (x1_ rfl (hst.get 0 rfl) (by kernel_rfl) rfl) rfl ?_
  refine eV rfl (xM rfl) rfl ?_
  refine oI (e := 61) (m := 1) ht hxa rfl rfl (by kernel_rfl) (by kernel_rfl) rfl rfl (fun _ => rfl) (fun p24 vs24 hp24 hl24 hr24 => ?_)
  have hr24' := hr24; obtain ⟨v24, rfl, hk24⟩ := hr24'
  refine eV rfl (xp hst hp24 rfl (by kernel_rfl) rfl) rfl ?_
  refine eV rfl (x_len' hk24 rfl rfl rfl (e := 45) (by kernel_rfl) rfl) rfl ?_
  refine eV rfl (xB rfl rfl rfl) rfl ?_
  refine eN ?_
  refine tN ?_
  refine e2_ rfl (fun h27 => ?_) (fun h27 => ?_)
  ·refine eI ?_
   refine tN ?_
   refine eS ?_
   refine eB ?_
   refine eS ?_
   refine eR rfl ?_
   refine eV rfl (xF rfl (k := 1) (by kernel_rfl)) rfl ?_
   refine eV rfl (x1_ rfl (hst.get 0 rfl) (by kernel_rfl) rfl) rfl ?_
   refine eV rfl (xM rfl) rfl ?_
   refine oI (e := 61) (m := 1) ht hxa rfl rfl (by kernel_rfl) (by kernel_rfl) rfl rfl (fun _ => rfl) (fun p33 vs33 hp33 hl33 hr33 => ?_)
   have hr33' := hr33; obtain ⟨v33, rfl, hk33⟩ := hr33'
   refine eV rfl (xp hst hp33 rfl (by kernel_rfl) rfl) rfl ?_
   refine eV rfl (xM rfl) rfl ?_
   obtain ⟨x36, hx36, hi36⟩ := at_lt h27
   refine oI (e := 45) (m := 5) hk33 hx36 rfl rfl (by kernel_rfl) (by kernel_rfl) rfl rfl (fun _ => rfl) (fun p36 vs36 hp36 hl36 hr36 => ?_)
   obtain rfl := hr36
   refine eV rfl (xw hst hp36 rfl (by kernel_rfl) rfl) rfl ?_
   refine oV rfl (xC rfl rfl rfl (by kernel_rfl)) (fun _ => rfl) (w_rwrites hG _ hst) (fun σ hst => ?_)
   refine oS rfl (xM rfl) (fun _ => rfl) (fun h39 => ?_) (fun h39 => ?_)
   ·refine eV rfl (xF rfl (k := 1) (by kernel_rfl)) rfl ?_
    refine eV rfl (x1_ rfl (hst.get 0 rfl) (by kernel_rfl) rfl) rfl ?_
    refine eV rfl (xM rfl) rfl ?_
    refine oI (e := 61) (m := 1) ht hxa rfl rfl (by kernel_rfl) (by kernel_rfl) rfl rfl (fun _ => rfl) (fun p43 vs43 hp43 hl43 hr43 => ?_)
    have hr43' := hr43; obtain ⟨v43, rfl, hk43⟩ := hr43'
    refine eV rfl (xp hst hp43 rfl (by kernel_rfl) rfl) rfl ?_
    refine eV rfl (xM rfl) rfl ?_
    refine oI (e := 45) (m := 5) hk43 hx36 rfl rfl (by kernel_rfl) (by kernel_rfl) rfl rfl (fun _ => rfl) (fun p46 vs46 hp46 hl46 hr46 => ?_)
    obtain rfl := hr46
    refine o_pfield hp46 rfl rfl rfl (k := 1) (by kernel_rfl) (Nat.le_of_ble_eq_true rfl) (fun _ => rfl) (fun p47 hp47 => ?_)
    refine eV rfl (xp hst hp47 rfl (by kernel_rfl) rfl) rfl ?_
    refine eV rfl (xM rfl) rfl ?_
    refine eV rfl (xB rfl rfl rfl) rfl ?_
    refine eV rfl (xP rfl rfl) rfl ?_
    refine eN ?_
    refine tN ?_
    refine e2_ rfl (fun h51 => ?_) (fun h51 => ?_)
    ·refine eR rfl ?_
     refine eV rfl (xM rfl) rfl ?_
     refine eV rfl (xB rfl rfl rfl) rfl ?_
     refine eV rfl (xA rfl) rfl ?_
     refine eN ?_
     refine bN ?_
     refine tN ?_
     refine eR rfl ?_
     refine eV rfl (xM rfl) rfl ?_
     refine eV rfl (xB rfl rfl rfl) rfl ?_
     refine eV rfl (xA rfl) rfl ?_
     refine eN ?_
     refine lN ⟨j6 - 1, by omega, (by (iterate 72 refine OffW.put rfl ?_); exact OffW.refl _ _), i2 + 1, _, by omega, rfl, congrArg (fun z => some (AV.int .i64 z)) (wr_succ (by have := hk24.len_le; omega)), hst⟩
    ·refine eI ?_
     refine bN ?_
     refine tN ?_
     refine eR rfl ?_
     refine eV rfl (xM rfl) rfl ?_
     refine eV rfl (xB rfl rfl rfl) rfl ?_
     refine eV rfl (xA rfl) rfl ?_
     refine eN ?_
     refine lN ⟨j6 - 1, by omega, (by (iterate 69 refine OffW.put rfl ?_); exact OffW.refl _ _), i2 + 1, _, by omega, rfl, congrArg (fun z => some (AV.int .i64 z)) (wr_succ (by have := hk24.len_le; omega)), hst⟩
   ·refine eU rfl rfl ?_
    refine eU rfl rfl ?_
    refine eU rfl rfl ?_
    refine eU rfl rfl ?_
    refine eU rfl rfl ?_
    refine eU rfl rfl ?_
    refine eU rfl rfl ?_
    refine eU rfl rfl ?_
    refine eU rfl rfl ?_
    refine eU rfl rfl ?_
    refine eU rfl rfl ?_
    refine eV rfl (xP rfl rfl) rfl ?_
    refine eN ?_
    refine tN ?_
    refine eF rfl ?_
    refine eI ?_
    refine bN ?_
    refine tN ?_
    refine eR rfl ?_
    refine eV rfl (xM rfl) rfl ?_
    refine eV rfl (xB rfl rfl rfl) rfl ?_
    refine eV rfl (xA rfl) rfl ?_
    refine eN ?_
    refine lN ⟨j6 - 1, by omega, (by (iterate 69 refine OffW.put rfl ?_); exact OffW.refl _ _), i2 + 1, _, by omega, rfl, congrArg (fun z => some (AV.int .i64 z)) (wr_succ (by have := hk24.len_le; omega)), hst⟩
  ·refine eX ?_
   refine tX ?_
   refine lX ?_
   refine bX ?_
   refine bN ?_
   refine tN ?_
   refine eR rfl ?_
   refine eV rfl (xM rfl) rfl ?_
   refine eV rfl (xB rfl rfl rfl) rfl ?_
   refine eV rfl (xA rfl) rfl ?_
   refine eN ?_
   refine lN ⟨j3 - 1, by omega, (by (iterate 97 refine OffW.put rfl ?_); exact OffW.refl _ _), i + 1, _, by omega, rfl, congrArg (fun z => some (AV.int .i64 z)) (wr_succ (by have := ht.len_le; omega)), hst⟩
 ·refine eX ?_
  refine tX ?_
  refine lX ?_
  refine bX ?_
  refine tN ?_
  refine eS ?_
  refine eR rfl ?_
  refine eV rfl (xF rfl (k := 3) (by kernel_rfl)) rfl ?_
  refine eV rfl (x1_ rfl (hst.get 0 rfl) (by kernel_rfl) rfl) rfl ?_
  refine eV rfl (xM rfl) rfl ?_
  obtain ⟨x57, hx57⟩ := at_of hln
  refine oI (e := 62) (m := 1) ho hx57 rfl rfl (by kernel_rfl) (by kernel_rfl) rfl rfl (fun _ => rfl) (fun p57 vs57 hp57 hl57 hr57 => ?_)
  have hr57' := hr57; obtain ⟨v57, rfl, hk57⟩ := hr57'
  refine eV rfl (xp hst hp57 rfl (by kernel_rfl) rfl) rfl ?_
  refine eV rfl (xA rfl) rfl ?_
  refine eN ?_
  refine tN ?_
  refine eS ?_
  refine eS ?_
  refine eR rfl ?_
  refine eV rfl (xA rfl) rfl ?_
  refine eN ?_
  refine tN ?_
  refine eB ?_
  obtain ⟨LL3, hst, hLL3⟩ := hst.named
  refine eW [4, 9, 10, 11, 12, 59, 60, 61, 62, 63, 64, 65, 66, 67, 68, 69, 70, 71, 72, 73, 74, 75, 76, 77, 78, 79, 80, 81, 82, 83, 84, 85, 86, 87, 88, 89, 90, 91, 92, 93, 94, 95, 96, 97, 98, 99, 100, 101, 102, 103, 104, 105, 106, 107, 108] (fun j t σ => ∃ (i : Nat), j + i = x57.length ∧ t.get 9 = some (.int .i64 (.ofNat i)) ∧ St σ K LL3) (x57.length) ⟨0, rfl, rfl, hst⟩ ?_
  clear hst; intro j12 t σ hoff hI; obtain ⟨i, hj12, hv9, hst⟩ := hI
  subst hLL3
  obtain ⟨o4, o9, o10, o11, o12, o59, o60, o61, hoff⟩ := hoff.ex8 rfl rfl
  obtain ⟨o62, o63, o64, o65, o66, o67, o68, o69, hoff⟩ := hoff.ex8 rfl rfl
  obtain ⟨o70, o71, o72, o73, o74, o75, o76, o77, hoff⟩ := hoff.ex8 rfl rfl
  obtain ⟨o78, o79, o80, o81, o82, o83, o84, o85, hoff⟩ := hoff.ex8 rfl rfl
  obtain ⟨o86, o87, o88, o89, o90, o91, o92, o93, hoff⟩ := hoff.ex8 rfl rfl
  obtain ⟨o94, o95, o96, o97, o98, o99, o100, o101, hoff⟩ := hoff.ex8 rfl rfl
  obtain ⟨o102, o103, o104, o105, hoff⟩ := hoff.ex4 rfl
  obtain ⟨o106, hoff⟩ := hoff.ex1 rfl
  obtain ⟨o107, hoff⟩ := hoff.ex1 rfl
  obtain ⟨o108, hoff⟩ := hoff.ex1 rfl
  obtain rfl := hoff.nil; clear hoff
  replace hv9 : o9 = some _ := hv9; subst hv9
  refine eS ?_
  refine eS ?_
  refine eR rfl ?_
  refine eV rfl (xM rfl) rfl ?_
  refine eV rfl (xM rfl) rfl ?_
  refine eV rfl (x_len' hk57 rfl rfl rfl (e := 47) (by kernel_rfl) rfl) rfl ?_
  refine eV rfl (xB rfl rfl rfl) rfl ?_
  refine eN ?_
  refine tN ?_
  refine e2_ rfl (fun h62 => ?_) (fun h62 => ?_)
  ·refine eI ?_
   refine tN ?_
   refine eS ?_
   refine eB ?_
   refine eS ?_
   refine eP (l := [(0, []), (1, []), (2, []), (3, []), (4, []), (9, []), (5, [9]), (6, []), (7, []), (8, []), (10, []), (11, [])]) (by kernel_rfl) (by kernel_rfl) ?_
   refine pV rfl rfl (xN rfl (hst.get 0 rfl) (n := 4) (vs := [_, _, _, _]) (by kernel_rfl) (Nat.le_of_ble_eq_true rfl) rfl) rfl ?_
   refine pV rfl rfl (xM rfl) rfl ?_
   refine pV rfl rfl (xM rfl) rfl ?_
   obtain ⟨x69, hx69, hi69⟩ := at_lt h62
   refine pi (e := 47) (m := 2) hk57 hx69 rfl rfl rfl (by kernel_rfl) (by kernel_rfl) rfl rfl (fun _ => rfl) (fun p69 vs69 hp69 hl69 hr69 => ?_)
   obtain rfl := hr69
   refine pV rfl rfl (xw hst hp69 rfl (by kernel_rfl) rfl) rfl ?_
   refine pp_ hst rfl rfl (xe (cs := [.int .i64 0, .int .i64 0, .int .i64 0, .int .i64 0, .int .i64 0]) (by kernel_rfl) (by kernel_rfl)) (fun _ => rfl) (fun σ b2 hst => ?_)
   refine pv_ rfl rfl (xC rfl rfl rfl (by kernel_rfl)) (fun _ => rfl) (w_revent hG h _ _ hst) (fun σ hst => ?_)
   refine ⟨(sC (sP rfl rfl rfl rfl rfl (cs := [.int .i64 0, .int .i64 0, .int .i64 0, .int .i64 0, .int .i64 0]) (e := 45) (by kernel_rfl) (hst.get 0 rfl) (by kernel_rfl)) s0), ?_⟩
   refine pV rfl rfl (xM rfl) rfl ?_
   refine pV rfl rfl (xU rfl rfl) rfl ?_
   refine pV rfl rfl (xU rfl rfl) rfl ?_
   refine p_set0 hst rfl rfl (xS rfl rfl rfl (hst.get 0 rfl) (m := 5) (by kernel_rfl) rfl (Nat.le_of_ble_eq_true rfl) (lC rfl (lC rfl (lC rfl (lC rfl (lC rfl l0_))))) (cells' := [_, _, _, _, _]) rfl) rfl (fun σ hst => ?_)
   refine ⟨s0, ?_⟩
   refine pV rfl rfl (xA rfl) rfl ?_
   refine pN ?_
   refine tN ?_
   refine eS ?_
   refine eS ?_
   refine eR rfl ?_
   refine eV rfl (xM rfl) rfl ?_
   refine eV rfl (xn rfl) rfl ?_
   refine oS rfl (xM rfl) (fun _ => rfl) (fun h76 => ?_) (fun h76 => ?_)
   ·refine eU rfl rfl ?_
    refine eU rfl rfl ?_
    refine eU rfl rfl ?_
    refine eU rfl rfl ?_
    refine eU rfl rfl ?_
    refine eU rfl rfl ?_
    refine eV rfl (xP rfl rfl) rfl ?_
    refine eV rfl (xM rfl) rfl ?_
    refine eU rfl rfl ?_
    refine eU rfl rfl ?_
    refine eU rfl rfl ?_
    refine eV rfl (xP rfl rfl) rfl ?_
    refine eV rfl (xM rfl) rfl ?_
    refine eU rfl rfl ?_
    refine eU rfl rfl ?_
    refine eU rfl rfl ?_
    refine eU rfl rfl ?_
    refine eV rfl (xP rfl rfl) rfl ?_
    refine eN ?_
    refine tN ?_
    refine eA rfl ?_
    refine eS ?_
    refine eR rfl ?_
    refine eV rfl (xA rfl) rfl ?_
    refine eN ?_
    refine tN ?_
    refine eT ?_
    refine tR (bR (tR (lR (bR (tR (?_))))))
    exact r1_ rfl rfl ⟨_, rfl, hst.pop.pop⟩
   ·refine eV rfl (xM rfl) rfl ?_
    refine eV rfl (xM rfl) rfl ?_
    refine oI (e := 47) (m := 2) hk57 hx69 rfl rfl (by kernel_rfl) (by kernel_rfl) rfl rfl (fun _ => rfl) (fun p79 vs79 hp79 hl79 hr79 => ?_)
    obtain rfl := hr79
    refine o_pfield hp79 rfl rfl rfl (k := 0) (by kernel_rfl) (Nat.le_of_ble_eq_true rfl) (fun _ => rfl) (fun p80 hp80 => ?_)
    refine eV rfl (xp hst hp80 rfl (by kernel_rfl) rfl) rfl ?_
    refine eV rfl (xB rfl rfl rfl) rfl ?_
    refine eV rfl (xP rfl rfl) rfl ?_
    refine oS rfl (xM rfl) (fun _ => rfl) (fun h84 => ?_) (fun h84 => ?_)
    ·refine eU rfl rfl ?_
     refine eU rfl rfl ?_
     refine eU rfl rfl ?_
     refine eV rfl (xP rfl rfl) rfl ?_
     refine eV rfl (xM rfl) rfl ?_
     refine eU rfl rfl ?_
     refine eU rfl rfl ?_
     refine eU rfl rfl ?_
     refine eU rfl rfl ?_
     refine eV rfl (xP rfl rfl) rfl ?_
     refine eN ?_
     refine tN ?_
     refine eA rfl ?_
     refine eS ?_
     refine eR rfl ?_
     refine eV rfl (xA rfl) rfl ?_
     refine eN ?_
     refine tN ?_
     refine eT ?_
     refine tR (bR (tR (lR (bR (tR (?_))))))
     exact r1_ rfl rfl ⟨_, rfl, hst.pop.pop⟩
    ·refine eV rfl (xN rfl (hst.get 0 rfl) (n := 5) (vs := [_, _, _, _, _]) (by kernel_rfl) (Nat.le_of_ble_eq_true rfl) rfl) rfl ?_
     refine oV rfl (xC rfl rfl rfl (by kernel_rfl)) (fun _ => rfl) (w_rwrites hG _ hst) (fun σ hst => ?_)
     refine eV rfl (xn rfl) rfl ?_
     refine eV rfl (xP rfl rfl) rfl ?_
     refine oS rfl (xM rfl) (fun _ => rfl) (fun h89 => ?_) (fun h89 => ?_)
     ·refine eU rfl rfl ?_
      refine eU rfl rfl ?_
      refine eU rfl rfl ?_
      refine eU rfl rfl ?_
      refine eV rfl (xP rfl rfl) rfl ?_
      refine eN ?_
      refine tN ?_
      refine eA rfl ?_
      refine eS ?_
      refine eR rfl ?_
      refine eV rfl (xA rfl) rfl ?_
      refine eN ?_
      refine tN ?_
      refine eT ?_
      refine tR (bR (tR (lR (bR (tR (?_))))))
      exact r1_ rfl rfl ⟨_, rfl, hst.pop.pop⟩
     ·refine eV rfl (xF rfl (k := 1) (by kernel_rfl)) rfl ?_
      refine eV rfl (x1_ rfl (hst.get 0 rfl) (by kernel_rfl) rfl) rfl ?_
      refine eV rfl (xM rfl) rfl ?_
      refine eV rfl (xB rfl rfl rfl) rfl ?_
      refine eV rfl (xP rfl rfl) rfl ?_
      refine eN ?_
      refine tN ?_
      refine e2_ rfl (fun h94 => ?_) (fun h94 => ?_)
      ·refine eS ?_
       refine eR rfl ?_
       refine eV rfl (xA rfl) rfl ?_
       refine eN ?_
       refine tN ?_
       refine eT ?_
       refine tR (bR (tR (lR (bR (tR (?_))))))
       exact r1_ rfl rfl ⟨_, rfl, hst.pop.pop⟩
      ·refine eI ?_
       refine tN ?_
       refine eS ?_
       refine eR rfl ?_
       refine eV rfl (xA rfl) rfl ?_
       refine eN ?_
       refine tN ?_
       refine eB ?_
       obtain ⟨LL4, hst, hLL4⟩ := hst.named
       refine eW [4, 12, 95, 96, 97, 98, 99, 100, 101, 102, 103, 104, 105, 106, 107, 108] (fun j t σ => ∃ (i3 : Nat), j + i3 = i ∧ t.get 12 = some (.int .i64 (.ofNat i3)) ∧ St σ K LL4) (i) ⟨0, rfl, rfl, hst⟩ ?_
       clear hst; intro j18 t σ hoff hI; obtain ⟨i3, hj18, hv12, hst⟩ := hI
       subst hLL4
       obtain ⟨o4, o12, o95, o96, o97, o98, o99, o100, hoff⟩ := hoff.ex8 rfl rfl
       obtain ⟨o101, o102, o103, o104, o105, o106, o107, o108, hoff⟩ := hoff.ex8 rfl rfl
       obtain rfl := hoff.nil; clear hoff
       replace hv12 : o12 = some _ := hv12; subst hv12
       refine eS ?_
       refine eS ?_
       refine eR rfl ?_
       refine eV rfl (xM rfl) rfl ?_
       refine eV rfl (xM rfl) rfl ?_
       refine eV rfl (xB rfl rfl rfl) rfl ?_
       refine eN ?_
       refine tN ?_
       refine e2_ rfl (fun h97 => ?_) (fun h97 => ?_)
       ·refine eI ?_
        refine tN ?_
        refine eS ?_
        refine eB ?_
        refine eS ?_
        refine eP (l := [(0, []), (1, []), (2, []), (3, []), (4, []), (5, []), (6, []), (7, []), (8, [])]) (by kernel_rfl) (by kernel_rfl) ?_
        refine pV rfl rfl (xM rfl) rfl ?_
        refine pV rfl rfl (xM rfl) rfl ?_
        obtain ⟨x102, hx102⟩ := at_of (show i3 < x57.length from by have := lt_yes h97; omega)
        refine pi (e := 47) (m := 2) hk57 hx102 rfl rfl rfl (by kernel_rfl) (by kernel_rfl) rfl rfl (fun _ => rfl) (fun p102 vs102 hp102 hl102 hr102 => ?_)
        obtain rfl := hr102
        refine pV rfl rfl (xw hst hp102 rfl (by kernel_rfl) rfl) rfl ?_
        refine pV rfl rfl (xM rfl) rfl ?_
        refine pV rfl rfl (xM rfl) rfl ?_
        refine pi (e := 47) (m := 2) hk57 hx69 rfl rfl rfl (by kernel_rfl) (by kernel_rfl) rfl rfl (fun _ => rfl) (fun p106 vs106 hp106 hl106 hr106 => ?_)
        obtain rfl := hr106
        refine pV rfl rfl (xw hst hp106 rfl (by kernel_rfl) rfl) rfl ?_
        refine pV rfl rfl (x_eqS (n := 2) (ca := [_, _]) (cb := [_, _]) (by kernel_rfl) rfl rfl rfl rfl) rfl ?_
        refine pN ?_
        refine tN ?_
        refine e2_ rfl (fun h108 => ?_) (fun h108 => ?_)
        ·refine eS ?_
         refine eR rfl ?_
         refine eV rfl (xA rfl) rfl ?_
         refine eN ?_
         refine tN ?_
         refine eT ?_
         refine bR (tR (lR (bR (bR (tR (lR (bR (tR (?_)))))))))
         exact r1_ rfl rfl ⟨_, rfl, hst.pop.pop⟩
        ·refine eI ?_
         refine bN ?_
         refine tN ?_
         refine eR rfl ?_
         refine eV rfl (xM rfl) rfl ?_
         refine eV rfl (xB rfl rfl rfl) rfl ?_
         refine eV rfl (xA rfl) rfl ?_
         refine eN ?_
         refine lN ⟨j18 - 1, by have := lt_yes h97; omega, (by (iterate 31 refine OffW.put rfl ?_); exact OffW.refl _ _), i3 + 1, by have := lt_yes h97; omega, congrArg (fun z => some (AV.int .i64 z)) (wr_succ (by have := hk57.len_le; have := lt_yes h97; omega)), hst⟩
       ·refine eX ?_
        refine tX ?_
        refine lX ?_
        refine bX ?_
        refine bN ?_
        refine tN ?_
        refine eR rfl ?_
        refine eV rfl (xM rfl) rfl ?_
        refine eV rfl (xB rfl rfl rfl) rfl ?_
        refine eV rfl (xA rfl) rfl ?_
        refine eN ?_
        have hst := hst.pop
        refine lN ⟨j12 - 1, by omega, (by (iterate 114 refine OffW.put rfl ?_); exact OffW.refl _ _), i + 1, by omega, congrArg (fun z => some (AV.int .i64 z)) (wr_succ (by have := hk57.len_le; omega)), hst⟩
  ·refine eX ?_
   refine tX ?_
   refine lX ?_
   refine bX ?_
   refine tN ?_
   refine eS ?_
   refine eR rfl ?_
   refine eV rfl (xM rfl) rfl ?_
   refine eV rfl (x_len' hk57 rfl rfl rfl (e := 47) (by kernel_rfl) rfl) rfl ?_
   refine eV rfl (xM rfl) rfl ?_
   refine eV rfl (xB rfl rfl rfl) rfl ?_
   refine eV rfl (xA rfl) rfl ?_
   refine eN ?_
   refine tN ?_
   refine eT ?_
   exact r1_ rfl rfl ⟨_, rfl, hst.pop⟩
theorem w_rCheck {G : Cx} (hG : Plain G) {K : KP} {g : XG} {a b c d : AV} (h : HasG K g a b c d) {σ : AHeap} {L : Own} (hst : St σ K L) : EvCall Try.prog G 16 [.agg [a, b, c, d]] σ fun v σ' => ∃ q, v = .int .i64 q ∧ St σ' K L := by
 have h' := h; obtain ⟨hi, ht, hf, ho⟩ := h'
 refine eY hG Try.func16 rfl (t := PT.leaf.put (some (.agg [a, b, c, d])) 0) (by rfl) ?_
 refine eS ?_
 refine eR rfl ?_
 refine oP hst rfl (xo_ rfl rfl) (fun _ => rfl) (fun σ b1 hst => ?_)
 refine eV rfl (xA rfl) rfl ?_
 refine eN ?_
 refine tN ?_
 refine eS ?_
 refine eS ?_
 refine eR rfl ?_
 refine eV rfl (xF rfl (k := 1) (by kernel_rfl)) rfl ?_
 refine eV rfl (x1_ rfl (hst.get 0 rfl) (by kernel_rfl) rfl) rfl ?_
 refine eV rfl (x_len' ht rfl rfl rfl (e := 61) (by kernel_rfl) rfl) rfl ?_
 refine eV rfl (xB rfl rfl rfl) rfl ?_
 refine oS rfl (xM rfl) (fun _ => rfl) (fun h13 => ?_) (fun h13 => ?_)
 ·refine eU rfl rfl ?_
  refine eU rfl rfl ?_
  refine eU rfl rfl ?_
  refine eU rfl rfl ?_
  refine eV rfl (xP rfl rfl) rfl ?_
  refine eN ?_
  refine tN ?_
  refine eA rfl ?_
  refine eS ?_
  refine eR rfl ?_
  refine eV rfl (xA rfl) rfl ?_
  refine eN ?_
  refine tN ?_
  refine eT ?_
  refine tR (?_)
  exact r1_ rfl rfl ⟨_, rfl, hst.pop⟩
 ·refine eV rfl (xF rfl (k := 0) (by kernel_rfl)) rfl ?_
  refine eV rfl (x1_ rfl (hst.get 0 rfl) (by kernel_rfl) rfl) rfl ?_
  refine eV rfl (x_len' hi rfl rfl rfl (e := 2) (by kernel_rfl) rfl) rfl ?_
  refine eV rfl (xB rfl rfl rfl) rfl ?_
  refine eV rfl (xP rfl rfl) rfl ?_
  refine eN ?_
  refine tN ?_
  refine e2_ rfl (fun h18 => ?_) (fun h18 => ?_)
  ·refine eS ?_
   refine eR rfl ?_
   refine eV rfl (xA rfl) rfl ?_
   refine eN ?_
   refine tN ?_
   refine eT ?_
   refine tR (?_)
   exact r1_ rfl rfl ⟨_, rfl, hst.pop⟩
  ·refine eI ?_
   refine tN ?_
   refine eS ?_
   refine eS ?_
   refine eR rfl ?_
   refine eV rfl (xA rfl) rfl ?_
   refine eN ?_
   refine tN ?_
   refine eB ?_
   obtain ⟨LL1, hst, hLL1⟩ := hst.named
   refine eW [2, 3, 19, 20, 21, 22, 23, 24, 25, 26, 27, 28, 29, 30, 31, 32] (fun j t σ => ∃ (i : Nat), j + i = g.threads.length ∧ t.get 3 = some (.int .i64 (.ofNat i)) ∧ St σ K LL1) (g.threads.length) ⟨0, rfl, rfl, hst⟩ ?_
   clear hst; intro j4 t σ hoff hI; obtain ⟨i, hj4, hv3, hst⟩ := hI
   subst hLL1
   obtain ⟨o2, o3, o19, o20, o21, o22, o23, o24, hoff⟩ := hoff.ex8 rfl rfl
   obtain ⟨o25, o26, o27, o28, o29, o30, o31, o32, hoff⟩ := hoff.ex8 rfl rfl
   obtain rfl := hoff.nil; clear hoff
   replace hv3 : o3 = some _ := hv3; subst hv3
   refine eS ?_
   refine eS ?_
   refine eR rfl ?_
   refine eV rfl (xM rfl) rfl ?_
   refine eV rfl (xF rfl (k := 1) (by kernel_rfl)) rfl ?_
   refine eV rfl (x1_ rfl (hst.get 0 rfl) (by kernel_rfl) rfl) rfl ?_
   refine eV rfl (x_len' ht rfl rfl rfl (e := 61) (by kernel_rfl) rfl) rfl ?_
   refine eV rfl (xB rfl rfl rfl) rfl ?_
   refine eN ?_
   refine tN ?_
   refine e2_ rfl (fun h23 => ?_) (fun h23 => ?_)
   ·refine eI ?_
    refine tN ?_
    refine eS ?_
    refine eB ?_
    refine eS ?_
    refine eR rfl ?_
    refine eV rfl (xF rfl (k := 1) (by kernel_rfl)) rfl ?_
    refine eV rfl (x1_ rfl (hst.get 0 rfl) (by kernel_rfl) rfl) rfl ?_
    refine eV rfl (xM rfl) rfl ?_
    obtain ⟨x29, hx29, hi29⟩ := at_lt h23
    refine oI (e := 61) (m := 1) ht hx29 rfl rfl (by kernel_rfl) (by kernel_rfl) rfl rfl (fun _ => rfl) (fun p29 vs29 hp29 hl29 hr29 => ?_)
    have hr29' := hr29; obtain ⟨v29, rfl, hk29⟩ := hr29'
    refine eV rfl (xp hst hp29 rfl (by kernel_rfl) rfl) rfl ?_
    refine eV rfl (x_len' hk29 rfl rfl rfl (e := 45) (by kernel_rfl) rfl) rfl ?_
    refine eV rfl (xB rfl rfl rfl) rfl ?_
    refine eN ?_
    refine tN ?_
    refine e2_ rfl (fun h32 => ?_) (fun h32 => ?_)
    ·refine eS ?_
     refine eR rfl ?_
     refine eV rfl (xA rfl) rfl ?_
     refine eN ?_
     refine tN ?_
     refine eT ?_
     refine bR (tR (lR (bR (tR (?_)))))
     exact r1_ rfl rfl ⟨_, rfl, hst.pop⟩
    ·refine eI ?_
     refine bN ?_
     refine tN ?_
     refine eR rfl ?_
     refine eV rfl (xM rfl) rfl ?_
     refine eV rfl (xB rfl rfl rfl) rfl ?_
     refine eV rfl (xA rfl) rfl ?_
     refine eN ?_
     refine lN ⟨j4 - 1, by omega, (by (iterate 31 refine OffW.put rfl ?_); exact OffW.refl _ _), i + 1, by omega, congrArg (fun z => some (AV.int .i64 z)) (wr_succ (by have := ht.len_le; omega)), hst⟩
   ·refine eX ?_
    refine tX ?_
    refine lX ?_
    refine bX ?_
    refine tN ?_
    refine eS ?_
    refine eS ?_
    refine eR rfl ?_
    refine eV rfl (xF rfl (k := 2) (by kernel_rfl)) rfl ?_
    refine eV rfl (x1_ rfl (hst.get 0 rfl) (by kernel_rfl) rfl) rfl ?_
    refine eV rfl (x_len' hf rfl rfl rfl (e := 62) (by kernel_rfl) rfl) rfl ?_
    refine eV rfl (xF rfl (k := 1) (by kernel_rfl)) rfl ?_
    refine eV rfl (x1_ rfl (hst.get 0 rfl) (by kernel_rfl) rfl) rfl ?_
    refine eV rfl (x_len' ht rfl rfl rfl (e := 61) (by kernel_rfl) rfl) rfl ?_
    refine eV rfl (xB rfl rfl rfl) rfl ?_
    refine oS rfl (xM rfl) (fun _ => rfl) (fun h40 => ?_) (fun h40 => ?_)
    ·refine eU rfl rfl ?_
     refine eU rfl rfl ?_
     refine eU rfl rfl ?_
     refine eU rfl rfl ?_
     refine eU rfl rfl ?_
     refine eU rfl rfl ?_
     refine eU rfl rfl ?_
     refine eV rfl (xP rfl rfl) rfl ?_
     refine eN ?_
     refine tN ?_
     refine eA rfl ?_
     refine eS ?_
     refine eR rfl ?_
     refine eV rfl (xA rfl) rfl ?_
     refine eN ?_
     refine tN ?_
     refine eT ?_
     refine tR (?_)
     exact r1_ rfl rfl ⟨_, rfl, hst.pop⟩
    ·refine eV rfl (xF rfl (k := 3) (by kernel_rfl)) rfl ?_
     refine eV rfl (x1_ rfl (hst.get 0 rfl) (by kernel_rfl) rfl) rfl ?_
     refine eV rfl (x_len' ho rfl rfl rfl (e := 62) (by kernel_rfl) rfl) rfl ?_
     refine eV rfl (xF rfl (k := 0) (by kernel_rfl)) rfl ?_
     refine eV rfl (x1_ rfl (hst.get 0 rfl) (by kernel_rfl) rfl) rfl ?_
     refine eV rfl (x_len' hi rfl rfl rfl (e := 2) (by kernel_rfl) rfl) rfl ?_
     refine eV rfl (xB rfl rfl rfl) rfl ?_
     refine eV rfl (xP rfl rfl) rfl ?_
     refine eN ?_
     refine tN ?_
     refine e2_ rfl (fun h48 => ?_) (fun h48 => ?_)
     ·refine eS ?_
      refine eR rfl ?_
      refine eV rfl (xA rfl) rfl ?_
      refine eN ?_
      refine tN ?_
      refine eT ?_
      refine tR (?_)
      exact r1_ rfl rfl ⟨_, rfl, hst.pop⟩
     ·refine eI ?_
      refine tN ?_
      refine eS ?_
      refine eS ?_
      refine eR rfl ?_
      refine eV rfl (xA rfl) rfl ?_
      refine eN ?_
      refine tN ?_
      refine eB ?_
      obtain ⟨LL2, hst, hLL2⟩ := hst.named
      refine eW [2, 4, 5, 49, 50, 51, 52, 53, 54, 55, 56, 57, 58, 59, 60, 61, 62, 63, 64, 65, 66, 67, 68, 69, 70, 71, 72, 73, 74, 75, 76, 77, 78, 79, 80, 81, 82, 83, 84, 85, 86, 87, 88, 89] (fun j t σ => ∃ (i : Nat), j + i = g.threads.length ∧ (∀ (k : Nat) (x : List XEv) (y : List XId), k < i → g.threads[k]? = some x → g.from_[k]? = some y → y.length = x.length) ∧ t.get 4 = some (.int .i64 (.ofNat i)) ∧ St σ K LL2) (g.threads.length) ⟨0, rfl, fun k x y hk => absurd hk (Nat.not_lt_zero _), rfl, hst⟩ ?_
      clear hst; intro j11 t σ hoff hI; obtain ⟨i, hj11, hrow, hv4, hst⟩ := hI
      subst hLL2
      obtain ⟨o2, o4, o5, o49, o50, o51, o52, o53, hoff⟩ := hoff.ex8 rfl rfl
      obtain ⟨o54, o55, o56, o57, o58, o59, o60, o61, hoff⟩ := hoff.ex8 rfl rfl
      obtain ⟨o62, o63, o64, o65, o66, o67, o68, o69, hoff⟩ := hoff.ex8 rfl rfl
      obtain ⟨o70, o71, o72, o73, o74, o75, o76, o77, hoff⟩ := hoff.ex8 rfl rfl
      obtain ⟨o78, o79, o80, o81, o82, o83, o84, o85, hoff⟩ := hoff.ex8 rfl rfl
      obtain ⟨o86, o87, o88, o89, hoff⟩ := hoff.ex4 rfl
      obtain rfl := hoff.nil; clear hoff
      replace hv4 : o4 = some _ := hv4; subst hv4
      refine eS ?_
      refine eS ?_
      refine eR rfl ?_
      refine eV rfl (xM rfl) rfl ?_
      refine eV rfl (xF rfl (k := 1) (by kernel_rfl)) rfl ?_
      refine eV rfl (x1_ rfl (hst.get 0 rfl) (by kernel_rfl) rfl) rfl ?_
      refine eV rfl (x_len' ht rfl rfl rfl (e := 61) (by kernel_rfl) rfl) rfl ?_
      refine eV rfl (xB rfl rfl rfl) rfl ?_
      refine eN ?_
      refine tN ?_
      refine e2_ rfl (fun h53 => ?_) (fun h53 => ?_)
      ·refine eI ?_
       refine tN ?_
       refine eS ?_
       refine eB ?_
       refine eS ?_
       refine eS ?_
       refine eP (l := [(0, []), (1, []), (2, []), (3, []), (4, []), (5, []), (6, []), (7, []), (8, []), (9, []), (10, []), (11, []), (12, [])]) (by kernel_rfl) (by kernel_rfl) ?_
       refine pV rfl rfl (xF rfl (k := 2) (by kernel_rfl)) rfl ?_
       refine pV rfl rfl (x1_ rfl (hst.get 0 rfl) (by kernel_rfl) rfl) rfl ?_
       refine pV rfl rfl (xM rfl) rfl ?_
       obtain ⟨x59, hx59⟩ := at_of (show i < g.from_.length from by have := len_of (notB_f h40); have := lt_yes h53; omega)
       refine pi (e := 62) (m := 1) hf hx59 rfl rfl rfl (by kernel_rfl) (by kernel_rfl) rfl rfl (fun _ => rfl) (fun p59 vs59 hp59 hl59 hr59 => ?_)
       have hr59' := hr59; obtain ⟨v59, rfl, hk59⟩ := hr59'
       refine pV rfl rfl (xp hst hp59 rfl (by kernel_rfl) rfl) rfl ?_
       refine pV rfl rfl (x_len' hk59 rfl rfl rfl (e := 47) (by kernel_rfl) rfl) rfl ?_
       refine pV rfl rfl (xF rfl (k := 1) (by kernel_rfl)) rfl ?_
       refine pV rfl rfl (x1_ rfl (hst.get 0 rfl) (by kernel_rfl) rfl) rfl ?_
       refine pV rfl rfl (xM rfl) rfl ?_
       obtain ⟨x65, hx65, hi65⟩ := at_lt h53
       refine pi (e := 61) (m := 1) ht hx65 rfl rfl rfl (by kernel_rfl) (by kernel_rfl) rfl rfl (fun _ => rfl) (fun p65 vs65 hp65 hl65 hr65 => ?_)
       have hr65' := hr65; obtain ⟨v65, rfl, hk65⟩ := hr65'
       refine pV rfl rfl (xp hst hp65 rfl (by kernel_rfl) rfl) rfl ?_
       refine pV rfl rfl (x_len' hk65 rfl rfl rfl (e := 45) (by kernel_rfl) rfl) rfl ?_
       refine pV rfl rfl (xB rfl rfl rfl) rfl ?_
       refine pN ?_
       refine tN ?_
       refine e2_ rfl (fun h68 => ?_) (fun h68 => ?_)
       ·refine eS ?_
        refine eR rfl ?_
        refine eV rfl (xA rfl) rfl ?_
        refine eN ?_
        refine tN ?_
        refine eT ?_
        refine tR (bR (tR (lR (bR (tR (?_))))))
        exact r1_ rfl rfl ⟨_, rfl, hst.pop⟩
       ·refine eI ?_
        refine tN ?_
        refine eS ?_
        refine eR rfl ?_
        refine eV rfl (xA rfl) rfl ?_
        refine eN ?_
        refine tN ?_
        refine eB ?_
        obtain ⟨LL3, hst, hLL3⟩ := hst.named
        refine eW [2, 5, 69, 70, 71, 72, 73, 74, 75, 76, 77, 78, 79, 80, 81, 82, 83, 84, 85, 86, 87, 88, 89] (fun j t σ => ∃ (i2 : Nat), j + i2 = x65.length ∧ t.get 5 = some (.int .i64 (.ofNat i2)) ∧ St σ K LL3) (x65.length) ⟨0, rfl, rfl, hst⟩ ?_
        clear hst; intro j16 t σ hoff hI; obtain ⟨i2, hj16, hv5, hst⟩ := hI
        subst hLL3
        obtain ⟨o2, o5, o69, o70, o71, o72, o73, o74, hoff⟩ := hoff.ex8 rfl rfl
        obtain ⟨o75, o76, o77, o78, o79, o80, o81, o82, hoff⟩ := hoff.ex8 rfl rfl
        obtain ⟨o83, o84, o85, o86, hoff⟩ := hoff.ex4 rfl
        obtain ⟨o87, hoff⟩ := hoff.ex1 rfl
        obtain ⟨o88, hoff⟩ := hoff.ex1 rfl
        obtain ⟨o89, hoff⟩ := hoff.ex1 rfl
        obtain rfl := hoff.nil; clear hoff
        replace hv5 : o5 = some _ := hv5; subst hv5
        refine eS ?_
        refine eS ?_
        refine eR rfl ?_
        refine eV rfl (xM rfl) rfl ?_
        refine eV rfl (xF rfl (k := 1) (by kernel_rfl)) rfl ?_
        refine eV rfl (x1_ rfl (hst.get 0 rfl) (by kernel_rfl) rfl) rfl ?_
        refine eV rfl (xM rfl) rfl ?_
        refine oI (e := 61) (m := 1) ht hx65 rfl rfl (by kernel_rfl) (by kernel_rfl) rfl rfl (fun _ => rfl) (fun p73 vs73 hp73 hl73 hr73 => ?_)
        have hr73' := hr73; obtain ⟨v73, rfl, hk73⟩ := hr73'
        refine eV rfl (xp hst hp73 rfl (by kernel_rfl) rfl) rfl ?_
        refine eV rfl (x_len' hk73 rfl rfl rfl (e := 45) (by kernel_rfl) rfl) rfl ?_
        refine eV rfl (xB rfl rfl rfl) rfl ?_
        refine eN ?_
        refine tN ?_
        refine e2_ rfl (fun h76 => ?_) (fun h76 => ?_)
        ·refine eI ?_
         refine tN ?_
         refine eS ?_
         refine eB ?_
         refine eS ?_
         refine eP (l := [(0, []), (1, []), (2, []), (3, []), (4, []), (5, []), (6, []), (7, []), (8, []), (9, []), (10, [])]) (by kernel_rfl) (by kernel_rfl) ?_
         refine pV rfl rfl (xN rfl (hst.get 0 rfl) (n := 4) (vs := [_, _, _, _]) (by kernel_rfl) (Nat.le_of_ble_eq_true rfl) rfl) rfl ?_
         refine pV rfl rfl (xF rfl (k := 1) (by kernel_rfl)) rfl ?_
         refine pV rfl rfl (x1_ rfl (hst.get 0 rfl) (by kernel_rfl) rfl) rfl ?_
         refine pV rfl rfl (xM rfl) rfl ?_
         refine pi (e := 61) (m := 1) ht hx65 rfl rfl rfl (by kernel_rfl) (by kernel_rfl) rfl rfl (fun _ => rfl) (fun p83 vs83 hp83 hl83 hr83 => ?_)
         have hr83' := hr83; obtain ⟨v83, rfl, hk83⟩ := hr83'
         refine pV rfl rfl (xp hst hp83 rfl (by kernel_rfl) rfl) rfl ?_
         refine pV rfl rfl (xM rfl) rfl ?_
         obtain ⟨x86, hx86, hi86⟩ := at_lt h76
         refine pi (e := 45) (m := 5) hk83 hx86 rfl rfl rfl (by kernel_rfl) (by kernel_rfl) rfl rfl (fun _ => rfl) (fun p86 vs86 hp86 hl86 hr86 => ?_)
         obtain rfl := hr86
         refine pV rfl rfl (xw hst hp86 rfl (by kernel_rfl) rfl) rfl ?_
         refine pc rfl rfl (xC rfl rfl rfl (by kernel_rfl)) (fun _ => rfl) (w_fine hG h _ hst) ?_
         rintro _ σ ⟨q88, rfl, hst⟩
         refine ⟨s0, ?_⟩
         refine pV rfl rfl (xn rfl) rfl ?_
         refine pN ?_
         refine tN ?_
         refine e2_ rfl (fun h89 => ?_) (fun h89 => ?_)
         ·refine eS ?_
          refine eR rfl ?_
          refine eV rfl (xA rfl) rfl ?_
          refine eN ?_
          refine tN ?_
          refine eT ?_
          refine bR (tR (lR (bR (bR (tR (lR (bR (tR (?_)))))))))
          exact r1_ rfl rfl ⟨_, rfl, hst.pop⟩
         ·refine eI ?_
          refine bN ?_
          refine tN ?_
          refine eR rfl ?_
          refine eV rfl (xM rfl) rfl ?_
          refine eV rfl (xB rfl rfl rfl) rfl ?_
          refine eV rfl (xA rfl) rfl ?_
          refine eN ?_
          refine lN ⟨j16 - 1, by omega, (by (iterate 45 refine OffW.put rfl ?_); exact OffW.refl _ _), i2 + 1, by omega, congrArg (fun z => some (AV.int .i64 z)) (wr_succ (by have := hk65.len_le; omega)), hst⟩
        ·refine eX ?_
         refine tX ?_
         refine lX ?_
         refine bX ?_
         refine bN ?_
         refine tN ?_
         refine eR rfl ?_
         refine eV rfl (xM rfl) rfl ?_
         refine eV rfl (xB rfl rfl rfl) rfl ?_
         refine eV rfl (xA rfl) rfl ?_
         refine eN ?_
         refine lN ⟨j11 - 1, by omega, (by (iterate 97 refine OffW.put rfl ?_); exact OffW.refl _ _), i + 1, by omega, rows_step hrow hx65 hx59 (len_of (notB_f h68)), congrArg (fun z => some (AV.int .i64 z)) (wr_succ (by have := ht.len_le; omega)), hst⟩
      ·refine eX ?_
       refine tX ?_
       refine lX ?_
       refine bX ?_
       refine tN ?_
       refine eS ?_
       refine eS ?_
       refine eR rfl ?_
       refine eV rfl (xA rfl) rfl ?_
       refine eN ?_
       refine tN ?_
       refine eB ?_
       obtain ⟨LL4, hst, hLL4⟩ := hst.named
       refine eW [2, 6, 7, 90, 91, 92, 93, 94, 95, 96, 97, 98, 99, 100, 101, 102, 103, 104, 105, 106, 107, 108, 109, 110, 111, 112, 113, 114, 115, 116, 117, 118, 119, 120, 121] (fun j t σ => ∃ (i4 : Nat), j + i4 = g.threads.length ∧ t.get 6 = some (.int .i64 (.ofNat i4)) ∧ St σ K LL4) (g.threads.length) ⟨0, rfl, rfl, hst⟩ ?_
       clear hst; intro j21 t σ hoff hI; obtain ⟨i4, hj21, hv6, hst⟩ := hI
       subst hLL4
       obtain ⟨o2, o6, o7, o90, o91, o92, o93, o94, hoff⟩ := hoff.ex8 rfl rfl
       obtain ⟨o95, o96, o97, o98, o99, o100, o101, o102, hoff⟩ := hoff.ex8 rfl rfl
       obtain ⟨o103, o104, o105, o106, o107, o108, o109, o110, hoff⟩ := hoff.ex8 rfl rfl
       obtain ⟨o111, o112, o113, o114, o115, o116, o117, o118, hoff⟩ := hoff.ex8 rfl rfl
       obtain ⟨o119, hoff⟩ := hoff.ex1 rfl
       obtain ⟨o120, hoff⟩ := hoff.ex1 rfl
       obtain ⟨o121, hoff⟩ := hoff.ex1 rfl
       obtain rfl := hoff.nil; clear hoff
       replace hv6 : o6 = some _ := hv6; subst hv6
       refine eS ?_
       refine eS ?_
       refine eR rfl ?_
       refine eV rfl (xM rfl) rfl ?_
       refine eV rfl (xF rfl (k := 1) (by kernel_rfl)) rfl ?_
       refine eV rfl (x1_ rfl (hst.get 0 rfl) (by kernel_rfl) rfl) rfl ?_
       refine eV rfl (x_len' ht rfl rfl rfl (e := 61) (by kernel_rfl) rfl) rfl ?_
       refine eV rfl (xB rfl rfl rfl) rfl ?_
       refine eN ?_
       refine tN ?_
       refine e2_ rfl (fun h94 => ?_) (fun h94 => ?_)
       ·refine eI ?_
        refine tN ?_
        refine eS ?_
        refine eB ?_
        refine eS ?_
        refine eR rfl ?_
        obtain ⟨xb, hxb, hi_xb⟩ := at_lt h94
        refine eV rfl (xA rfl) rfl ?_
        refine eN ?_
        refine tN ?_
        refine eB ?_
        obtain ⟨LL5, hst, hLL5⟩ := hst.named
        refine eW [2, 7, 97, 98, 99, 100, 101, 102, 103, 104, 105, 106, 107, 108, 109, 110, 111, 112, 113, 114, 115, 116, 117, 118, 119, 120, 121] (fun j t σ => ∃ (i5 : Nat), j + i5 = xb.length ∧ t.get 7 = some (.int .i64 (.ofNat i5)) ∧ St σ K LL5) (xb.length) ⟨0, rfl, rfl, hst⟩ ?_
        clear hst; intro j24 t σ hoff hI; obtain ⟨i5, hj24, hv7, hst⟩ := hI
        subst hLL5
        obtain ⟨o2, o7, o97, o98, o99, o100, o101, o102, hoff⟩ := hoff.ex8 rfl rfl
        obtain ⟨o103, o104, o105, o106, o107, o108, o109, o110, hoff⟩ := hoff.ex8 rfl rfl
        obtain ⟨o111, o112, o113, o114, o115, o116, o117, o118, hoff⟩ := hoff.ex8 rfl rfl
        obtain ⟨o119, hoff⟩ := hoff.ex1 rfl
        obtain ⟨o120, hoff⟩ := hoff.ex1 rfl
        obtain ⟨o121, hoff⟩ := hoff.ex1 rfl
        obtain rfl := hoff.nil; clear hoff
        replace hv7 : o7 = some _ := hv7; subst hv7
        refine eS ?_
        refine eS ?_
        refine eR rfl ?_
        refine eV rfl (xM rfl) rfl ?_
        refine eV rfl (xF rfl (k := 1) (by kernel_rfl)) rfl ?_
        refine eV rfl (x1_ rfl (hst.get 0 rfl) (by kernel_rfl) rfl) rfl ?_
        refine eV rfl (xM rfl) rfl ?_
        refine oI (e := 61) (m := 1) ht hxb rfl rfl (by kernel_rfl) (by kernel_rfl) rfl rfl (fun _ => rfl) (fun p101 vs101 hp101 hl101 hr101 => ?_)
        have hr101' := hr101; obtain ⟨v101, rfl, hk101⟩ := hr101'
        refine eV rfl (xp hst hp101 rfl (by kernel_rfl) rfl) rfl ?_
        refine eV rfl (x_len' hk101 rfl rfl rfl (e := 45) (by kernel_rfl) rfl) rfl ?_
        refine eV rfl (xB rfl rfl rfl) rfl ?_
        refine eN ?_
        refine tN ?_
        refine e2_ rfl (fun h104 => ?_) (fun h104 => ?_)
        ·refine eI ?_
         refine tN ?_
         refine eS ?_
         refine eB ?_
         refine eS ?_
         refine eP (l := [(0, []), (1, []), (2, []), (3, []), (4, []), (5, []), (6, []), (7, []), (8, []), (9, []), (10, []), (11, []), (12, []), (13, []), (14, [])]) (by kernel_rfl) (by kernel_rfl) ?_
         refine pV rfl rfl (xN rfl (hst.get 0 rfl) (n := 4) (vs := [_, _, _, _]) (by kernel_rfl) (Nat.le_of_ble_eq_true rfl) rfl) rfl ?_
         refine pV rfl rfl (xM rfl) rfl ?_
         refine pV rfl rfl (xB rfl rfl rfl) rfl ?_
         refine pV rfl rfl (xM rfl) rfl ?_
         refine pV rfl rfl (xb_ (places := [(0, 1), (1, 1)]) (zero := [.int .i64 0, .int .i64 0]) (cs := [_, _]) (by kernel_rfl) (by kernel_rfl) (by kernel_rfl) rfl (by kernel_rfl)) rfl ?_
         refine pV rfl rfl (xF rfl (k := 2) (by kernel_rfl)) rfl ?_
         refine pV rfl rfl (x1_ rfl (hst.get 0 rfl) (by kernel_rfl) rfl) rfl ?_
         refine pV rfl rfl (xM rfl) rfl ?_
         obtain ⟨x115, hx115⟩ := at_of (show i4 < g.from_.length from by have := len_of (notB_f h40); omega)
         refine pi (e := 62) (m := 1) hf hx115 rfl rfl rfl (by kernel_rfl) (by kernel_rfl) rfl rfl (fun _ => rfl) (fun p115 vs115 hp115 hl115 hr115 => ?_)
         have hr115' := hr115; obtain ⟨v115, rfl, hk115⟩ := hr115'
         refine pV rfl rfl (xp hst hp115 rfl (by kernel_rfl) rfl) rfl ?_
         refine pV rfl rfl (xM rfl) rfl ?_
         obtain ⟨x118, hx118⟩ := at_of (show i5 < x115.length from by rw [hrow i4 _ _ (by have := lt_no h53; omega) hxb hx115]; exact lt_yes h104)
         refine pi (e := 47) (m := 2) hk115 hx118 rfl rfl rfl (by kernel_rfl) (by kernel_rfl) rfl rfl (fun _ => rfl) (fun p118 vs118 hp118 hl118 hr118 => ?_)
         obtain rfl := hr118
         refine pV rfl rfl (xw hst hp118 rfl (by kernel_rfl) rfl) rfl ?_
         refine pc rfl rfl (xC rfl rfl rfl (by kernel_rfl)) (fun _ => rfl) (w_source hG h _ _ _ _ hst) ?_
         rintro _ σ ⟨q120, rfl, hst⟩
         refine ⟨s0, ?_⟩
         refine pV rfl rfl (xn rfl) rfl ?_
         refine pN ?_
         refine tN ?_
         refine e2_ rfl (fun h121 => ?_) (fun h121 => ?_)
         ·refine eS ?_
          refine eR rfl ?_
          refine eV rfl (xA rfl) rfl ?_
          refine eN ?_
          refine tN ?_
          refine eT ?_
          refine bR (tR (lR (bR (bR (tR (lR (bR (tR (?_)))))))))
          exact r1_ rfl rfl ⟨_, rfl, hst.pop⟩
         ·refine eI ?_
          refine bN ?_
          refine tN ?_
          refine eR rfl ?_
          refine eV rfl (xM rfl) rfl ?_
          refine eV rfl (xB rfl rfl rfl) rfl ?_
          refine eV rfl (xA rfl) rfl ?_
          refine eN ?_
          refine lN ⟨j24 - 1, by have := lt_yes h104; omega, (by (iterate 53 refine OffW.put rfl ?_); exact OffW.refl _ _), i5 + 1, by have := lt_yes h104; omega, congrArg (fun z => some (AV.int .i64 z)) (wr_succ (by have := hk101.len_le; have := lt_yes h104; omega)), hst⟩
        ·refine eX ?_
         refine tX ?_
         refine lX ?_
         refine bX ?_
         refine bN ?_
         refine tN ?_
         refine eR rfl ?_
         refine eV rfl (xM rfl) rfl ?_
         refine eV rfl (xB rfl rfl rfl) rfl ?_
         refine eV rfl (xA rfl) rfl ?_
         refine eN ?_
         refine lN ⟨j21 - 1, by omega, (by (iterate 79 refine OffW.put rfl ?_); exact OffW.refl _ _), i4 + 1, by omega, congrArg (fun z => some (AV.int .i64 z)) (wr_succ (by have := ht.len_le; omega)), hst⟩
       ·refine eX ?_
        refine tX ?_
        refine lX ?_
        refine bX ?_
        refine tN ?_
        refine eS ?_
        refine eS ?_
        refine eR rfl ?_
        refine eV rfl (xA rfl) rfl ?_
        refine eN ?_
        refine tN ?_
        refine eB ?_
        obtain ⟨LL6, hst, hLL6⟩ := hst.named
        refine eW [2, 8, 122, 123, 124, 125, 126, 127, 128, 129, 130, 131, 132] (fun j t σ => ∃ (i6 : Nat), j + i6 = g.init.length ∧ t.get 8 = some (.int .i64 (.ofNat i6)) ∧ St σ K LL6) (g.init.length) ⟨0, rfl, rfl, hst⟩ ?_
        clear hst; intro j29 t σ hoff hI; obtain ⟨i6, hj29, hv8, hst⟩ := hI
        subst hLL6
        obtain ⟨o2, o8, o122, o123, o124, o125, o126, o127, hoff⟩ := hoff.ex8 rfl rfl
        obtain ⟨o128, o129, o130, o131, hoff⟩ := hoff.ex4 rfl
        obtain ⟨o132, hoff⟩ := hoff.ex1 rfl
        obtain rfl := hoff.nil; clear hoff
        replace hv8 : o8 = some _ := hv8; subst hv8
        refine eS ?_
        refine eS ?_
        refine eR rfl ?_
        refine eV rfl (xM rfl) rfl ?_
        refine eV rfl (xF rfl (k := 0) (by kernel_rfl)) rfl ?_
        refine eV rfl (x1_ rfl (hst.get 0 rfl) (by kernel_rfl) rfl) rfl ?_
        refine eV rfl (x_len' hi rfl rfl rfl (e := 2) (by kernel_rfl) rfl) rfl ?_
        refine eV rfl (xB rfl rfl rfl) rfl ?_
        refine eN ?_
        refine tN ?_
        refine e2_ rfl (fun h126 => ?_) (fun h126 => ?_)
        ·refine eI ?_
         refine tN ?_
         refine eS ?_
         refine eB ?_
         refine eS ?_
         refine eR rfl ?_
         refine eV rfl (xN rfl (hst.get 0 rfl) (n := 4) (vs := [_, _, _, _]) (by kernel_rfl) (Nat.le_of_ble_eq_true rfl) rfl) rfl ?_
         refine eV rfl (xM rfl) rfl ?_
         refine oC rfl (xC rfl rfl rfl (by kernel_rfl)) (fun _ => rfl) (w_ordered hG h (by have := len_of (notB_f h48); have := lt_yes h126; omega) hst) ?_
         rintro _ σ ⟨q131, rfl, hst⟩
         refine eV rfl (xn rfl) rfl ?_
         refine eN ?_
         refine tN ?_
         refine e2_ rfl (fun h132 => ?_) (fun h132 => ?_)
         ·refine eS ?_
          refine eR rfl ?_
          refine eV rfl (xA rfl) rfl ?_
          refine eN ?_
          refine tN ?_
          refine eT ?_
          refine bR (tR (lR (bR (tR (?_)))))
          exact r1_ rfl rfl ⟨_, rfl, hst.pop⟩
         ·refine eI ?_
          refine bN ?_
          refine tN ?_
          refine eR rfl ?_
          refine eV rfl (xM rfl) rfl ?_
          refine eV rfl (xB rfl rfl rfl) rfl ?_
          refine eV rfl (xA rfl) rfl ?_
          refine eN ?_
          refine lN ⟨j29 - 1, by have := lt_yes h126; omega, (by (iterate 25 refine OffW.put rfl ?_); exact OffW.refl _ _), i6 + 1, by have := lt_yes h126; omega, congrArg (fun z => some (AV.int .i64 z)) (wr_succ (by have := hi.len_le; have := lt_yes h126; omega)), hst⟩
        ·refine eX ?_
         refine tX ?_
         refine lX ?_
         refine bX ?_
         refine tN ?_
         refine eS ?_
         refine eR rfl ?_
         refine eV rfl (xA rfl) rfl ?_
         refine eN ?_
         refine tN ?_
         refine eT ?_
         exact r1_ rfl rfl ⟨_, rfl, hst.pop⟩
end Go.Ev

namespace Go.Ev
variable [Env]
open Go.Proofs
set_option maxRecDepth 4000
set_option maxHeartbeats 8000000

theorem w_rEvent {G : Cx} (hG : Plain G) {K : KP} {g : XG} {a b c d : AV} (h : HasG K g a b c d) (th ix : Int) {σ : AHeap} {L : Own} (hst : St σ K L) : EvCall Try.prog G 17 [.agg [a, b, c, d], .agg [.int .i64 th, .int .i64 ix]] σ fun v σ' => ∃ (e : XEv) (q : Bool), v = .tuple [.agg (ints e.ints), .bool q] ∧ (q = true → (evAt g ⟨th, ix⟩).isSome = true) ∧ St σ' K L := by
 have h' := h; obtain ⟨hi, ht, hf, ho⟩ := h'
 refine eY hG Try.func17 rfl (t := (PT.leaf.put (some (.agg [a, b, c, d])) 0).put (some (.agg [.int .i64 th, .int .i64 ix])) 1) (by rfl) ?_
 refine eS ?_
 refine eR rfl ?_
 refine oP hst rfl (xo_ rfl rfl) (fun _ => rfl) (fun σ b1 hst => ?_)
 refine oP hst rfl (xo_ rfl rfl) (fun _ => rfl) (fun σ b2 hst => ?_)
 refine oP hst rfl (xe (cs := [.int .i64 0, .int .i64 0, .int .i64 0, .int .i64 0, .int .i64 0]) (by kernel_rfl) (by kernel_rfl)) (fun _ => rfl) (fun σ b3 hst => ?_)
 refine eV rfl (xA rfl) rfl ?_
 refine eN ?_
 refine tN ?_
 refine eS ?_
 refine eR rfl ?_
 refine eV rfl (xN rfl (hst.get 2 rfl) (n := 4) (vs := [_, _, _, _]) (by kernel_rfl) (Nat.le_of_ble_eq_true rfl) rfl) rfl ?_
 refine eV rfl (xN rfl (hst.get 1 rfl) (n := 2) (vs := [_, _]) (by kernel_rfl) (Nat.le_of_ble_eq_true rfl) rfl) rfl ?_
 refine oV rfl (xC rfl rfl rfl (by kernel_rfl)) (fun _ => rfl) (w_revent hG h _ _ hst) (fun σ hst => ?_)
 refine eV rfl (xM rfl) rfl ?_
 refine eV rfl (xU rfl rfl) rfl ?_
 refine eV rfl (xU rfl rfl) rfl ?_
 refine oP hst rfl (xe (cs := [.int .i64 0, .int .i64 0, .int .i64 0, .int .i64 0, .int .i64 0]) (by kernel_rfl) (by kernel_rfl)) (fun _ => rfl) (fun σ b4 hst => ?_)
 refine o_set0 hst rfl (xS rfl rfl rfl (hst.get 0 rfl) (m := 5) (by kernel_rfl) rfl (Nat.le_of_ble_eq_true rfl) (lC rfl (lC rfl (lC rfl (lC rfl (lC rfl l0_))))) (cells' := [_, _, _, _, _]) rfl) rfl (fun σ hst => ?_)
 refine eV rfl (xA rfl) rfl ?_
 refine eN ?_
 refine tN ?_
 refine eS ?_
 refine eS ?_
 refine eR rfl ?_
 refine eV rfl (xN rfl (hst.get 3 rfl) (n := 4) (vs := [_, _, _, _]) (by kernel_rfl) (Nat.le_of_ble_eq_true rfl) rfl) rfl ?_
 refine oC rfl (xC rfl rfl rfl (by kernel_rfl)) (fun _ => rfl) (w_rCheck hG h hst) ?_
 rintro _ σ ⟨q15, rfl, hst⟩
 refine eV rfl (xB rfl rfl rfl) rfl ?_
 refine oS rfl (xM rfl) (fun _ => rfl) (fun h17 => ?_) (fun h17 => ?_)
 ·refine eU rfl rfl ?_
  refine eU rfl rfl ?_
  refine eV rfl (xP rfl rfl) rfl ?_
  refine eN ?_
  refine tN ?_
  refine eA rfl ?_
  refine eS ?_
  refine eR rfl ?_
  refine eV rfl (xb_ (places := [(0, 1), (1, 1), (2, 1), (3, 1), (4, 1)]) (zero := [.int .i64 0, .int .i64 0, .int .i64 0, .int .i64 0, .int .i64 0]) (cs := [_, _, _, _, _]) (by kernel_rfl) (by kernel_rfl) (by kernel_rfl) rfl (by kernel_rfl)) rfl ?_
  refine o_set1 hst rfl (xS rfl rfl rfl (hst.get 1 rfl) (m := 5) (by kernel_rfl) rfl (Nat.le_of_ble_eq_true rfl) (lC rfl (lC rfl (lC rfl (lC rfl (lC rfl l0_))))) (cells' := [_, _, _, _, _]) rfl) rfl (fun σ hst => ?_)
  refine eV rfl (xA rfl) rfl ?_
  refine eN ?_
  refine tN ?_
  refine eT ?_
  refine tR (?_)
  exact rc_ rfl rfl (hst.get 1 rfl) (m := 5) (by kernel_rfl) rfl rfl ⟨⟨0, 0, 0, 0, 0⟩, false, rfl, (fun h => by cases h), hst.pop.pop.pop.pop⟩
 ·refine eV rfl (xM rfl) rfl ?_
  refine eV rfl (xn rfl) rfl ?_
  refine eV rfl (xP rfl rfl) rfl ?_
  refine eN ?_
  refine tN ?_
  refine e2_ rfl (fun h20 => ?_) (fun h20 => ?_)
  ·refine eS ?_
   refine eR rfl ?_
   refine eV rfl (xb_ (places := [(0, 1), (1, 1), (2, 1), (3, 1), (4, 1)]) (zero := [.int .i64 0, .int .i64 0, .int .i64 0, .int .i64 0, .int .i64 0]) (cs := [_, _, _, _, _]) (by kernel_rfl) (by kernel_rfl) (by kernel_rfl) rfl (by kernel_rfl)) rfl ?_
   refine o_set1 hst rfl (xS rfl rfl rfl (hst.get 1 rfl) (m := 5) (by kernel_rfl) rfl (Nat.le_of_ble_eq_true rfl) (lC rfl (lC rfl (lC rfl (lC rfl (lC rfl l0_))))) (cells' := [_, _, _, _, _]) rfl) rfl (fun σ hst => ?_)
   refine eV rfl (xA rfl) rfl ?_
   refine eN ?_
   refine tN ?_
   refine eT ?_
   refine tR (?_)
   exact rc_ rfl rfl (hst.get 1 rfl) (m := 5) (by kernel_rfl) rfl rfl ⟨⟨0, 0, 0, 0, 0⟩, false, rfl, (fun h => by cases h), hst.pop.pop.pop.pop⟩
  ·refine eI ?_
   refine tN ?_
   refine eS ?_
   refine eR rfl ?_
   refine eV rfl (xN rfl (hst.get 0 rfl) (n := 5) (vs := [_, _, _, _, _]) (by kernel_rfl) (Nat.le_of_ble_eq_true rfl) rfl) rfl ?_
   refine o_set1 hst rfl (xS rfl rfl rfl (hst.get 1 rfl) (m := 5) (by kernel_rfl) rfl (Nat.le_of_ble_eq_true rfl) (lC rfl (lC rfl (lC rfl (lC rfl (lC rfl l0_))))) (cells' := [_, _, _, _, _]) rfl) rfl (fun σ hst => ?_)
   refine eV rfl (xA rfl) rfl ?_
   refine eN ?_
   refine tN ?_
   refine eT ?_
   exact rc_ rfl rfl (hst.get 1 rfl) (m := 5) (by kernel_rfl) rfl rfl ⟨_, true, rfl, (fun _ => not_f h20), hst.pop.pop.pop.pop⟩
end Go.Ev

