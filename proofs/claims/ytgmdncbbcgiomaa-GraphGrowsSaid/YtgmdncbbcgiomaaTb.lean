/- Walks and runs: what functions of the program come to, on the evaluator. Without conditions. -/
import Derived.Test.YtgmdncbbcgiomaaTa
import Derived.Test.YtgmdncbbcgiomaaEe
set_option linter.unusedSectionVars false
set_option linter.unusedVariables false
set_option linter.unusedSimpArgs false
namespace Go.Ev
variable [Env]
open Go.Proofs
set_option maxRecDepth 4000
set_option maxHeartbeats 8000000

theorem w_Count {G : Cx} (hG : Plain G) {K : KP} {g : XG} {a b c d : AV} (h : HasG K g a b c d) {σ : AHeap} {L : Own} (hst : St σ K L) : EvCall Try.prog G 22 [.agg [a, b, c, d]] σ fun v σ' => v = .int .i64 (.ofNat (countG g)) ∧ St σ' K L := by
 have h' := h; obtain ⟨hi, ht, hf, ho⟩ := h'
 refine eY hG Try.func22 rfl (t := PT.leaf.put (some (.agg [a, b, c, d])) 0) (by rfl) ?_
 refine eS ?_
 refine eR rfl ?_
 refine oP hst rfl (xo_ rfl rfl) (fun _ => rfl) (fun σ b1 hst => ?_)
 refine eV rfl (xA rfl) rfl ?_
 refine eN ?_
 refine tN ?_
 refine eS ?_
 refine eS ?_
 refine eR rfl ?_
 refine eV rfl (xN rfl (hst.get 0 rfl) (n := 4) (vs := [_, _, _, _]) (by kernel_rfl) (Nat.le_of_ble_eq_true rfl) rfl) rfl ?_
 refine oV rfl (xC rfl rfl rfl (by kernel_rfl)) (fun _ => rfl) (w_Check hG h  hst) (fun σ hst => ?_)
 refine eV rfl (xB rfl rfl rfl) rfl ?_
 refine eN ?_
 refine tN ?_
 refine e2_ rfl (fun h8 => ?_) (fun h8 => ?_)
 ·refine eS ?_
  refine eR rfl ?_
  refine eV rfl (xA rfl) rfl ?_
  refine eN ?_
  refine tN ?_
  refine eT ?_
  refine tR (?_)
  exact r1_ rfl rfl ⟨congrArg (AV.int .i64) (by symm; unfold countG; rw [notB_t h8]; rfl), hst.pop⟩
 ·refine eI ?_
  refine tN ?_
  refine eS ?_
  refine eR rfl ?_
  refine eV rfl (xF rfl (k := 0) (by kernel_rfl)) rfl ?_
  refine eV rfl (x1_ rfl (hst.get 0 rfl) (by kernel_rfl) rfl) rfl ?_
  refine eV rfl (x_len' hi rfl rfl rfl (e := 2) (by kernel_rfl) rfl) rfl ?_
  refine eV rfl (xA rfl) rfl ?_
  refine eN ?_
  refine tN ?_
  refine eS ?_
  refine eS ?_
  refine eR rfl ?_
  refine eV rfl (xF rfl (k := 1) (by kernel_rfl)) rfl ?_
  refine eV rfl (x1_ rfl (hst.get 0 rfl) (by kernel_rfl) rfl) rfl ?_
  refine eV rfl (x_len' ht rfl rfl rfl (e := 61) (by kernel_rfl) rfl) rfl ?_
  refine eV rfl (xM rfl) rfl ?_
  refine eN ?_
  refine tN ?_
  refine eB ?_
  obtain ⟨LL1, hst, hLL1⟩ := hst.named
  refine eW [3, 5, 15, 16, 17, 18, 19, 20, 21, 22, 23] (fun j t σ => ∃ (i : Nat), j + i = g.threads.length ∧ t.get 3 = some (.int .i64 (.ofNat (g.init.length + sumLen (g.threads.take i)))) ∧ t.get 15 = some (.int .i64 (.ofNat i)) ∧ St σ K LL1) (g.threads.length) ⟨0, rfl, rfl, rfl, hst⟩ ?_
  clear hst; intro j5 t σ hoff hI; obtain ⟨i, hj5, hv3, hv15, hst⟩ := hI
  subst hLL1
  obtain ⟨o3, o5, o15, o16, o17, o18, o19, o20, hoff⟩ := hoff.ex8 rfl rfl
  obtain ⟨o21, hoff⟩ := hoff.ex1 rfl
  obtain ⟨o22, hoff⟩ := hoff.ex1 rfl
  obtain ⟨o23, hoff⟩ := hoff.ex1 rfl
  obtain rfl := hoff.nil; clear hoff
  replace hv3 : o3 = some _ := hv3; subst hv3
  replace hv15 : o15 = some _ := hv15; subst hv15
  refine eS ?_
  refine eR rfl ?_
  refine eV rfl (xB rfl rfl rfl) rfl ?_
  refine eN ?_
  refine tN ?_
  refine eS ?_
  refine e2_ rfl (fun h16 => ?_) (fun h16 => ?_)
  ·refine eI ?_
   refine tN ?_
   refine eS ?_
   refine eB ?_
   refine eS ?_
   refine eR rfl ?_
   obtain ⟨x17, hx17, hi17⟩ := at_lt h16
   refine oI (e := 61) (m := 1) ht hx17 rfl rfl (by kernel_rfl) (by kernel_rfl) rfl rfl (fun _ => rfl) (fun p17 vs17 hp17 hl17 hr17 => ?_)
   have hr17' := hr17; obtain ⟨v17, rfl, hk17⟩ := hr17'
   refine eV rfl (xp hst hp17 rfl (by kernel_rfl) rfl) rfl ?_
   refine eV rfl (xA rfl) rfl ?_
   refine eN ?_
   refine tN ?_
   refine eR rfl ?_
   refine eV rfl (xM rfl) rfl ?_
   refine eV rfl (xM rfl) rfl ?_
   refine eV rfl (x_len' hk17 rfl rfl rfl (e := 45) (by kernel_rfl) rfl) rfl ?_
   refine eV rfl (xB rfl rfl rfl) rfl ?_
   refine eV rfl (xA rfl) rfl ?_
   refine eN ?_
   refine bN ?_
   refine tN ?_
   refine eR rfl ?_
   refine eV rfl (xB rfl rfl rfl) rfl ?_
   refine eV rfl (xM rfl) rfl ?_
   refine eN ?_
   refine lN ⟨j5 - 1, by omega, (by (iterate 22 refine OffW.put rfl ?_); exact OffW.refl _ _), i + 1, by omega, congrArg (fun z => some (AV.int .i64 z)) ((wr_addN (by have hb := check_bounds (eq0 (notB_f h8)); have := sumLen_take hb.2.2.1 i; have := hb.2.2.1 _ (List.mem_of_getElem? hx17); omega)).trans (by rw [sumLen_step hx17, Nat.add_assoc])), congrArg (fun z => some (AV.int .i64 z)) (wr_succ (by have := ht.len_le; omega)), hst⟩
  ·refine eX ?_
   refine tX ?_
   refine lX ?_
   refine bX ?_
   refine tN ?_
   refine eS ?_
   refine eR rfl ?_
   refine eV rfl (xM rfl) rfl ?_
   refine eV rfl (xA rfl) rfl ?_
   refine eN ?_
   refine tN ?_
   refine eT ?_
   exact r1_ rfl rfl ⟨congrArg (AV.int .i64) (by symm; unfold countG; rw [notB_f h8, List.take_of_length_le (lt_no h16)]; rfl), hst.pop⟩
theorem w_Event {G : Cx} (hG : Plain G) {K : KP} {g : XG} {a b c d : AV} (h : HasG K g a b c d) (th ix : Int) {σ : AHeap} {L : Own} (hst : St σ K L) : EvCall Try.prog G 25 [.agg [a, b, c, d], .agg [.int .i64 th, .int .i64 ix]] σ fun v σ' => v = .tuple [.agg (ints (evD (eventG g ⟨th, ix⟩)).ints), .bool (eventG g ⟨th, ix⟩).isSome] ∧ St σ' K L := by
 have h' := h; obtain ⟨hi, ht, hf, ho⟩ := h'
 refine eY hG Try.func25 rfl (t := (PT.leaf.put (some (.agg [a, b, c, d])) 0).put (some (.agg [.int .i64 th, .int .i64 ix])) 1) (by rfl) ?_
 refine eS ?_
 refine eR rfl ?_
 refine oP hst rfl (xo_ rfl rfl) (fun _ => rfl) (fun σ b1 hst => ?_)
 refine oP hst rfl (xo_ rfl rfl) (fun _ => rfl) (fun σ b2 hst => ?_)
 refine oP hst rfl (xe (cs := [.int .i64 0, .int .i64 0, .int .i64 0, .int .i64 0, .int .i64 0]) (by kernel_rfl) (by kernel_rfl)) (fun _ => rfl) (fun σ b3 hst => ?_)
 refine eV rfl (xA rfl) rfl ?_
 refine eN ?_
 refine tN ?_
 refine eS ?_
 refine eS ?_
 refine eR rfl ?_
 refine eV rfl (xN rfl (hst.get 2 rfl) (n := 4) (vs := [_, _, _, _]) (by kernel_rfl) (Nat.le_of_ble_eq_true rfl) rfl) rfl ?_
 refine oV rfl (xC rfl rfl rfl (by kernel_rfl)) (fun _ => rfl) (w_Check hG h  hst) (fun σ hst => ?_)
 refine eV rfl (xB rfl rfl rfl) rfl ?_
 refine eN ?_
 refine tN ?_
 refine e2_ rfl (fun h8 => ?_) (fun h8 => ?_)
 ·refine eS ?_
  refine eR rfl ?_
  refine eV rfl (xb_ (places := [(0, 1), (1, 1), (2, 1), (3, 1), (4, 1)]) (zero := [.int .i64 0, .int .i64 0, .int .i64 0, .int .i64 0, .int .i64 0]) (cs := [_, _, _, _, _]) (by kernel_rfl) (by kernel_rfl) (by kernel_rfl) rfl (by kernel_rfl)) rfl ?_
  refine o_set0 hst rfl (xS rfl rfl rfl (hst.get 0 rfl) (m := 5) (by kernel_rfl) rfl (Nat.le_of_ble_eq_true rfl) (lC rfl (lC rfl (lC rfl (lC rfl (lC rfl l0_))))) (cells' := [_, _, _, _, _]) rfl) rfl (fun σ hst => ?_)
  refine eV rfl (xA rfl) rfl ?_
  refine eN ?_
  refine tN ?_
  refine eT ?_
  refine tR (?_)
  exact rc_ rfl rfl (hst.get 0 rfl) (m := 5) (by kernel_rfl) rfl rfl ⟨by rw [show eventG g ⟨th, ix⟩ = none from by unfold eventG; rw [notB_t h8]; rfl]; rfl, hst.pop.pop.pop⟩
 ·refine eI ?_
  refine tN ?_
  refine eS ?_
  refine eR rfl ?_
  refine eV rfl (xN rfl (hst.get 2 rfl) (n := 4) (vs := [_, _, _, _]) (by kernel_rfl) (Nat.le_of_ble_eq_true rfl) rfl) rfl ?_
  refine eV rfl (xN rfl (hst.get 1 rfl) (n := 2) (vs := [_, _]) (by kernel_rfl) (Nat.le_of_ble_eq_true rfl) rfl) rfl ?_
  refine oV rfl (xC rfl rfl rfl (by kernel_rfl)) (fun _ => rfl) (w_event hG h _ _ hst) (fun σ hst => ?_)
  refine eV rfl (xU rfl rfl) rfl ?_
  refine eV rfl (xU rfl rfl) rfl ?_
  refine o_set0 hst rfl (xS rfl rfl rfl (hst.get 0 rfl) (m := 5) (by kernel_rfl) rfl (Nat.le_of_ble_eq_true rfl) (lC rfl (lC rfl (lC rfl (lC rfl (lC rfl l0_))))) (cells' := [_, _, _, _, _]) rfl) rfl (fun σ hst => ?_)
  refine eV rfl (xA rfl) rfl ?_
  refine eN ?_
  refine tN ?_
  refine eT ?_
  exact rc_ rfl rfl (hst.get 0 rfl) (m := 5) (by kernel_rfl) rfl rfl ⟨by rw [show eventG g ⟨th, ix⟩ = evAt g ⟨th, ix⟩ from by unfold eventG; rw [notB_f h8]; rfl]; rfl, hst.pop.pop.pop⟩
theorem w_Number {G : Cx} (hG : Plain G) {K : KP} {g : XG} {a b c d : AV} (h : HasG K g a b c d) (th ix : Int) {σ : AHeap} {L : Own} (hst : St σ K L) : EvCall Try.prog G 24 [.agg [a, b, c, d], .agg [.int .i64 th, .int .i64 ix]] σ fun v σ' => v = .int .i64 (numG g ⟨th, ix⟩) ∧ St σ' K L := by
 have h' := h; obtain ⟨hi, ht, hf, ho⟩ := h'
 refine eY hG Try.func24 rfl (t := (PT.leaf.put (some (.agg [a, b, c, d])) 0).put (some (.agg [.int .i64 th, .int .i64 ix])) 1) (by rfl) ?_
 refine eS ?_
 refine eR rfl ?_
 refine oP hst rfl (xo_ rfl rfl) (fun _ => rfl) (fun σ b1 hst => ?_)
 refine oP hst rfl (xo_ rfl rfl) (fun _ => rfl) (fun σ b2 hst => ?_)
 refine eV rfl (xA rfl) rfl ?_
 refine eN ?_
 refine tN ?_
 refine eS ?_
 refine eS ?_
 refine eR rfl ?_
 refine eV rfl (xN rfl (hst.get 1 rfl) (n := 4) (vs := [_, _, _, _]) (by kernel_rfl) (Nat.le_of_ble_eq_true rfl) rfl) rfl ?_
 refine oV rfl (xC rfl rfl rfl (by kernel_rfl)) (fun _ => rfl) (w_Check hG h  hst) (fun σ hst => ?_)
 refine eV rfl (xB rfl rfl rfl) rfl ?_
 refine eN ?_
 refine tN ?_
 refine e2_ rfl (fun h12 => ?_) (fun h12 => ?_)
 ·refine eS ?_
  refine eR rfl ?_
  refine eV rfl (xA rfl) rfl ?_
  refine eN ?_
  refine tN ?_
  refine eT ?_
  refine tR (?_)
  exact r1_ rfl rfl ⟨congrArg (AV.int .i64) (by symm; unfold numG; rw [notB_t h12]; rfl), hst.pop.pop⟩
 ·refine eI ?_
  refine tN ?_
  refine eS ?_
  refine eS ?_
  refine eR rfl ?_
  refine eV rfl (xN rfl (hst.get 1 rfl) (n := 4) (vs := [_, _, _, _]) (by kernel_rfl) (Nat.le_of_ble_eq_true rfl) rfl) rfl ?_
  refine eV rfl (xN rfl (hst.get 0 rfl) (n := 2) (vs := [_, _]) (by kernel_rfl) (Nat.le_of_ble_eq_true rfl) rfl) rfl ?_
  refine oV rfl (xC rfl rfl rfl (by kernel_rfl)) (fun _ => rfl) (w_event hG h _ _ hst) (fun σ hst => ?_)
  refine eV rfl (xM rfl) rfl ?_
  refine eV rfl (xU rfl rfl) rfl ?_
  refine eV rfl (xU rfl rfl) rfl ?_
  refine oP hst rfl (xe (cs := [.int .i64 0, .int .i64 0, .int .i64 0, .int .i64 0, .int .i64 0]) (by kernel_rfl) (by kernel_rfl)) (fun _ => rfl) (fun σ b3 hst => ?_)
  refine o_set0 hst rfl (xS rfl rfl rfl (hst.get 0 rfl) (m := 5) (by kernel_rfl) rfl (Nat.le_of_ble_eq_true rfl) (lC rfl (lC rfl (lC rfl (lC rfl (lC rfl l0_))))) (cells' := [_, _, _, _, _]) rfl) rfl (fun σ hst => ?_)
  refine eV rfl (xA rfl) rfl ?_
  refine eN ?_
  refine tN ?_
  refine eS ?_
  refine eR rfl ?_
  refine eV rfl (xM rfl) rfl ?_
  refine eV rfl (xn rfl) rfl ?_
  refine eN ?_
  refine tN ?_
  refine e2_ rfl (fun h20 => ?_) (fun h20 => ?_)
  ·refine eS ?_
   refine eR rfl ?_
   refine eV rfl (xA rfl) rfl ?_
   refine eN ?_
   refine tN ?_
   refine eT ?_
   refine tR (?_)
   exact r1_ rfl rfl ⟨congrArg (AV.int .i64) (by symm; unfold numG; rw [notB_f h12, not_t h20]; rfl), hst.pop.pop.pop⟩
  ·obtain ⟨tn, ixn, rfl, rfl, hle, hz, hpos⟩ := evAt_nat (not_f h20)
   refine eI ?_
   refine tN ?_
   refine eS ?_
   refine eS ?_
   refine eR rfl ?_
   refine eV rfl (xF rfl (k := 0) (by kernel_rfl)) rfl ?_
   refine eV rfl (x1_ rfl (hst.get 1 rfl) (by kernel_rfl) rfl) rfl ?_
   refine eV rfl (xB rfl rfl rfl) rfl ?_
   refine eN ?_
   refine tN ?_
   refine e2_ rfl (fun h23 => ?_) (fun h23 => ?_)
   ·obtain rfl : tn = 0 := by rw [eqI_eq] at h23; simpa using h23
    refine eS ?_
    refine eR rfl ?_
    refine eV rfl (xF rfl (k := 1) (by kernel_rfl)) rfl ?_
    refine eV rfl (x1_ rfl (hst.get 1 rfl) (by kernel_rfl) rfl) rfl ?_
    refine eV rfl (xA rfl) rfl ?_
    refine eN ?_
    refine tN ?_
    refine eT ?_
    refine tR (?_)
    exact r1_ rfl rfl ⟨congrArg (AV.int .i64) (by symm; unfold numG; rw [notB_f h12, not_f h20]; rfl), hst.pop.pop.pop⟩
   ·obtain ⟨tm, rfl⟩ := succ_of h23
    obtain ⟨lm, hlm, hixn⟩ := hpos tm rfl
    have hix14 : ixn ≤ 14 := by have hb := check_bounds (eq0 (notB_f h12)); have := hb.2.2.1 _ (List.mem_of_getElem? hlm); omega
    refine eI ?_
    refine tN ?_
    refine eS ?_
    refine eR rfl ?_
    refine eV rfl (xF rfl (k := 0) (by kernel_rfl)) rfl ?_
    refine eV rfl (x1_ rfl (hst.get 2 rfl) (by kernel_rfl) rfl) rfl ?_
    refine eV rfl (x_len' hi rfl rfl rfl (e := 2) (by kernel_rfl) rfl) rfl ?_
    refine eV rfl (xF rfl (k := 1) (by kernel_rfl)) rfl ?_
    refine eV rfl (x1_ rfl (hst.get 1 rfl) (by kernel_rfl) rfl) rfl ?_
    refine eV rfl (xB rfl rfl rfl) rfl ?_
    refine eV rfl (xA rfl) rfl ?_
    refine eN ?_
    refine tN ?_
    refine eS ?_
    refine eS ?_
    refine eR rfl ?_
    refine eV rfl (xF rfl (k := 1) (by kernel_rfl)) rfl ?_
    refine eV rfl (x1_ rfl (hst.get 2 rfl) (by kernel_rfl) rfl) rfl ?_
    refine eV rfl (xF rfl (k := 0) (by kernel_rfl)) rfl ?_
    refine eV rfl (x1_ rfl (hst.get 1 rfl) (by kernel_rfl) rfl) rfl ?_
    refine eV rfl (xB rfl rfl rfl) rfl ?_
    refine o_sliceTo (e := 61) (m := 1) (k := tm) ht (by omega) rfl rfl (by kernel_rfl) (by kernel_rfl) rfl (congrArg (fun z => some (AV.int .i64 z)) (wr_pred (by have := ht.len_le; omega))) (fun _ => rfl) (fun w37 hw37 => ?_)
    refine eV rfl (x_len' hw37 rfl rfl rfl (e := 61) (by kernel_rfl) rfl) rfl ?_
    refine eV rfl (xM rfl) rfl ?_
    refine eN ?_
    refine tN ?_
    refine eB ?_
    obtain ⟨LL1, hst, hLL1⟩ := hst.named
    refine eW [7, 9, 39, 40, 41, 42, 43, 44, 45, 46, 47] (fun j t σ => ∃ (i : Nat), j + i = (g.threads.take tm).length ∧ t.get 7 = some (.int .i64 (.ofNat (g.init.length + ixn + sumLen ((g.threads.take tm).take i)))) ∧ t.get 39 = some (.int .i64 (.ofNat i)) ∧ St σ K LL1) ((g.threads.take tm).length) ⟨0, rfl, congrArg (fun z => some (AV.int .i64 z)) (wr_addN (by have hb := check_bounds (eq0 (notB_f h12)); omega)), rfl, hst⟩ ?_
    clear hst; intro j10 t σ hoff hI; obtain ⟨i, hj10, hv7, hv39, hst⟩ := hI
    subst hLL1
    obtain ⟨o7, o9, o39, o40, o41, o42, o43, o44, hoff⟩ := hoff.ex8 rfl rfl
    obtain ⟨o45, hoff⟩ := hoff.ex1 rfl
    obtain ⟨o46, hoff⟩ := hoff.ex1 rfl
    obtain ⟨o47, hoff⟩ := hoff.ex1 rfl
    obtain rfl := hoff.nil; clear hoff
    replace hv7 : o7 = some _ := hv7; subst hv7
    replace hv39 : o39 = some _ := hv39; subst hv39
    refine eS ?_
    refine eR rfl ?_
    refine eV rfl (xB rfl rfl rfl) rfl ?_
    refine eN ?_
    refine tN ?_
    refine eS ?_
    refine e2_ rfl (fun h40 => ?_) (fun h40 => ?_)
    ·refine eI ?_
     refine tN ?_
     refine eS ?_
     refine eB ?_
     refine eS ?_
     refine eR rfl ?_
     obtain ⟨x41, hx41, hi41⟩ := at_lt h40
     refine oI (e := 61) (m := 1) hw37 hx41 rfl rfl (by kernel_rfl) (by kernel_rfl) rfl rfl (fun _ => rfl) (fun p41 vs41 hp41 hl41 hr41 => ?_)
     have hr41' := hr41; obtain ⟨v41, rfl, hk41⟩ := hr41'
     refine eV rfl (xp hst hp41 rfl (by kernel_rfl) rfl) rfl ?_
     refine eV rfl (xA rfl) rfl ?_
     refine eN ?_
     refine tN ?_
     refine eR rfl ?_
     refine eV rfl (xM rfl) rfl ?_
     refine eV rfl (xM rfl) rfl ?_
     refine eV rfl (x_len' hk41 rfl rfl rfl (e := 45) (by kernel_rfl) rfl) rfl ?_
     refine eV rfl (xB rfl rfl rfl) rfl ?_
     refine eV rfl (xA rfl) rfl ?_
     refine eN ?_
     refine bN ?_
     refine tN ?_
     refine eR rfl ?_
     refine eV rfl (xB rfl rfl rfl) rfl ?_
     refine eV rfl (xM rfl) rfl ?_
     refine eN ?_
     refine lN ⟨j10 - 1, by omega, (by (iterate 22 refine OffW.put rfl ?_); exact OffW.refl _ _), i + 1, by omega, congrArg (fun z => some (AV.int .i64 z)) ((wr_addN (by have hb := check_bounds (eq0 (notB_f h12)); have hc : ∀ l ∈ g.threads.take tm, l.length ≤ 14 := fun l hl => hb.2.2.1 l (List.mem_of_mem_take hl); have := sumLen_take hc i; have h5 : (g.threads.take tm).length ≤ 4 := (by rw [List.length_take]; omega); have := hc _ (List.mem_of_getElem? hx41); omega)).trans (by rw [sumLen_step hx41, Nat.add_assoc])), congrArg (fun z => some (AV.int .i64 z)) (wr_succ (by have := hw37.len_le; omega)), hst⟩
    ·refine eX ?_
     refine tX ?_
     refine lX ?_
     refine bX ?_
     refine tN ?_
     refine eS ?_
     refine eR rfl ?_
     refine eV rfl (xM rfl) rfl ?_
     refine eV rfl (xA rfl) rfl ?_
     refine eN ?_
     refine tN ?_
     refine eT ?_
     exact r1_ rfl rfl ⟨congrArg (AV.int .i64) (by symm; unfold numG; rw [notB_f h12, not_f h20]; show Int.ofNat (g.init.length + ixn + sumLen (g.threads.take tm)) = _; rw [List.take_of_length_le (lt_no h40)]), hst.pop.pop.pop⟩
theorem w_At {G : Cx} (hG : Plain G) {K : KP} {g : XG} {a b c d : AV} (h : HasG K g a b c d) {n : Int} (hn : n ≤ 9223372036854775807) {σ : AHeap} {L : Own} (hst : St σ K L) : EvCall Try.prog G 23 [.agg [a, b, c, d], .int .i64 n] σ fun v σ' => v = .tuple [.agg (ints (idD (atG g n)).ints), .bool (atG g n).isSome] ∧ St σ' K L := by
 have h' := h; obtain ⟨hi, ht, hf, ho⟩ := h'
 refine eY hG Try.func23 rfl (t := (PT.leaf.put (some (.agg [a, b, c, d])) 0).put (some (.int .i64 n)) 1) (by rfl) ?_
 refine eS ?_
 refine eR rfl ?_
 refine oP hst rfl (xo_ rfl rfl) (fun _ => rfl) (fun σ b1 hst => ?_)
 refine oP hst rfl (xe (cs := [.int .i64 0, .int .i64 0]) (by kernel_rfl) (by kernel_rfl)) (fun _ => rfl) (fun σ b2 hst => ?_)
 refine eV rfl (xA rfl) rfl ?_
 refine eN ?_
 refine tN ?_
 refine eS ?_
 refine eS ?_
 refine eR rfl ?_
 refine eV rfl (xN rfl (hst.get 1 rfl) (n := 4) (vs := [_, _, _, _]) (by kernel_rfl) (Nat.le_of_ble_eq_true rfl) rfl) rfl ?_
 refine oV rfl (xC rfl rfl rfl (by kernel_rfl)) (fun _ => rfl) (w_Check hG h  hst) (fun σ hst => ?_)
 refine eV rfl (xB rfl rfl rfl) rfl ?_
 refine oS rfl (xM rfl) (fun _ => rfl) (fun h11 => ?_) (fun h11 => ?_)
 ·refine eU rfl rfl ?_
  refine eU rfl rfl ?_
  refine eV rfl (xP rfl rfl) rfl ?_
  refine eN ?_
  refine tN ?_
  refine eA rfl ?_
  refine eS ?_
  refine eR rfl ?_
  refine eV rfl (xb_ (places := [(0, 1), (1, 1)]) (zero := [.int .i64 0, .int .i64 0]) (cs := [_, _]) (by kernel_rfl) (by kernel_rfl) (by kernel_rfl) rfl (by kernel_rfl)) rfl ?_
  refine o_set0 hst rfl (xS rfl rfl rfl (hst.get 0 rfl) (m := 2) (by kernel_rfl) rfl (Nat.le_of_ble_eq_true rfl) (lC rfl (lC rfl l0_)) (cells' := [_, _]) rfl) rfl (fun σ hst => ?_)
  refine eV rfl (xA rfl) rfl ?_
  refine eN ?_
  refine tN ?_
  refine eT ?_
  refine tR (?_)
  exact rc_ rfl rfl (hst.get 0 rfl) (m := 2) (by kernel_rfl) rfl rfl ⟨by rw [show atG g n = none from by unfold atG; rw [notB_t h11]; rfl]; rfl, hst.pop.pop⟩
 ·refine eV rfl (xM rfl) rfl ?_
  refine eV rfl (xB rfl rfl rfl) rfl ?_
  refine eV rfl (xP rfl rfl) rfl ?_
  refine eN ?_
  refine tN ?_
  refine e2_ rfl (fun h14 => ?_) (fun h14 => ?_)
  ·refine eS ?_
   refine eR rfl ?_
   refine eV rfl (xb_ (places := [(0, 1), (1, 1)]) (zero := [.int .i64 0, .int .i64 0]) (cs := [_, _]) (by kernel_rfl) (by kernel_rfl) (by kernel_rfl) rfl (by kernel_rfl)) rfl ?_
   refine o_set0 hst rfl (xS rfl rfl rfl (hst.get 0 rfl) (m := 2) (by kernel_rfl) rfl (Nat.le_of_ble_eq_true rfl) (lC rfl (lC rfl l0_)) (cells' := [_, _]) rfl) rfl (fun σ hst => ?_)
   refine eV rfl (xA rfl) rfl ?_
   refine eN ?_
   refine tN ?_
   refine eT ?_
   refine tR (?_)
   exact rc_ rfl rfl (hst.get 0 rfl) (m := 2) (by kernel_rfl) rfl rfl ⟨by rw [show atG g n = none from by unfold atG; rw [notB_f h11, h14]; rfl]; rfl, hst.pop.pop⟩
  ·obtain ⟨nn, rfl⟩ := nat_of h14
   have hnn : nn ≤ 9223372036854775807 := Int.ofNat_le.1 hn
   refine eI ?_
   refine tN ?_
   refine eS ?_
   refine eS ?_
   refine eR rfl ?_
   refine eV rfl (xM rfl) rfl ?_
   refine eV rfl (xF rfl (k := 0) (by kernel_rfl)) rfl ?_
   refine eV rfl (x1_ rfl (hst.get 1 rfl) (by kernel_rfl) rfl) rfl ?_
   refine eV rfl (x_len' hi rfl rfl rfl (e := 2) (by kernel_rfl) rfl) rfl ?_
   refine eV rfl (xB rfl rfl rfl) rfl ?_
   refine eN ?_
   refine tN ?_
   refine e2_ rfl (fun h20 => ?_) (fun h20 => ?_)
   ·refine eS ?_
    refine eR rfl ?_
    refine eV rfl (xM rfl) rfl ?_
    refine eV rfl (xb_ (places := [(0, 1), (1, 1)]) (zero := [.int .i64 0, .int .i64 0]) (cs := [_, _]) (by kernel_rfl) (by kernel_rfl) (by kernel_rfl) rfl (by kernel_rfl)) rfl ?_
    refine o_set0 hst rfl (xS rfl rfl rfl (hst.get 0 rfl) (m := 2) (by kernel_rfl) rfl (Nat.le_of_ble_eq_true rfl) (lC rfl (lC rfl l0_)) (cells' := [_, _]) rfl) rfl (fun σ hst => ?_)
    refine eV rfl (xA rfl) rfl ?_
    refine eN ?_
    refine tN ?_
    refine eT ?_
    refine tR (?_)
    exact rc_ rfl rfl (hst.get 0 rfl) (m := 2) (by kernel_rfl) rfl rfl ⟨by rw [show atG g (Int.ofNat nn) = some ⟨0, .ofNat nn⟩ from by unfold atG; rw [notB_f h11, h14]; show atN g nn = _; unfold atN; rw [if_pos (lt_yes h20)]]; rfl, hst.pop.pop⟩
   ·refine eI ?_
    refine tN ?_
    refine eS ?_
    refine eR rfl ?_
    refine eV rfl (xM rfl) rfl ?_
    refine eV rfl (xF rfl (k := 0) (by kernel_rfl)) rfl ?_
    refine eV rfl (x1_ rfl (hst.get 1 rfl) (by kernel_rfl) rfl) rfl ?_
    refine eV rfl (x_len' hi rfl rfl rfl (e := 2) (by kernel_rfl) rfl) rfl ?_
    refine eV rfl (xB rfl rfl rfl) rfl ?_
    refine eV rfl (xA rfl) rfl ?_
    refine eN ?_
    refine tN ?_
    refine eS ?_
    refine eS ?_
    refine eR rfl ?_
    refine eV rfl (xF rfl (k := 1) (by kernel_rfl)) rfl ?_
    refine eV rfl (x1_ rfl (hst.get 1 rfl) (by kernel_rfl) rfl) rfl ?_
    refine eV rfl (x_len' ht rfl rfl rfl (e := 61) (by kernel_rfl) rfl) rfl ?_
    refine eV rfl (xM rfl) rfl ?_
    refine eN ?_
    refine tN ?_
    refine eB ?_
    obtain ⟨LL1, hst, hLL1⟩ := hst.named
    refine eW [1, 5, 6, 7, 31, 32, 33, 34, 35, 36, 37, 38, 39, 40, 41, 42, 43, 44, 45, 46, 47, 48] (fun j t σ => ∃ (i nm : Nat), j + i = g.threads.length ∧ nm ≤ nn ∧ goT g.threads 0 (nn - g.init.length) = goT (g.threads.drop i) i nm ∧ t.get 1 = some (.int .i64 (.ofNat nm)) ∧ t.get 31 = some (.int .i64 (.ofNat i)) ∧ St σ K LL1) (g.threads.length) ⟨0, nn - g.init.length, rfl, Nat.sub_le _ _, rfl, congrArg (fun z => some (AV.int .i64 z)) (wr_subN (lt_no h20) hnn), rfl, hst⟩ ?_
    clear hst; intro j7 t σ hoff hI; obtain ⟨i, nm, hj7, hnm, he7, hv1, hv31, hst⟩ := hI
    subst hLL1
    obtain ⟨o1, o5, o6, o7, o31, o32, o33, o34, hoff⟩ := hoff.ex8 rfl rfl
    obtain ⟨o35, o36, o37, o38, o39, o40, o41, o42, hoff⟩ := hoff.ex8 rfl rfl
    obtain ⟨o43, o44, o45, o46, hoff⟩ := hoff.ex4 rfl
    obtain ⟨o47, hoff⟩ := hoff.ex1 rfl
    obtain ⟨o48, hoff⟩ := hoff.ex1 rfl
    obtain rfl := hoff.nil; clear hoff
    replace hv1 : o1 = some _ := hv1; subst hv1
    replace hv31 : o31 = some _ := hv31; subst hv31
    refine eS ?_
    refine eR rfl ?_
    refine eV rfl (xB rfl rfl rfl) rfl ?_
    refine eN ?_
    refine tN ?_
    refine eS ?_
    refine e2_ rfl (fun h32 => ?_) (fun h32 => ?_)
    ·refine eI ?_
     refine tN ?_
     refine eS ?_
     refine eB ?_
     refine eS ?_
     refine eR rfl ?_
     refine eV rfl (xM rfl) rfl ?_
     obtain ⟨x34, hx34, hi34⟩ := at_lt h32
     refine oI (e := 61) (m := 1) ht hx34 rfl rfl (by kernel_rfl) (by kernel_rfl) rfl rfl (fun _ => rfl) (fun p34 vs34 hp34 hl34 hr34 => ?_)
     have hr34' := hr34; obtain ⟨v34, rfl, hk34⟩ := hr34'
     refine eV rfl (xp hst hp34 rfl (by kernel_rfl) rfl) rfl ?_
     refine eV rfl (xA rfl) rfl ?_
     refine eV rfl (xA rfl) rfl ?_
     refine eN ?_
     refine tN ?_
     refine eS ?_
     refine eS ?_
     refine eR rfl ?_
     refine eV rfl (xM rfl) rfl ?_
     refine eV rfl (xM rfl) rfl ?_
     refine eV rfl (x_len' hk34 rfl rfl rfl (e := 45) (by kernel_rfl) rfl) rfl ?_
     refine eV rfl (xB rfl rfl rfl) rfl ?_
     refine eN ?_
     refine tN ?_
     refine e2_ rfl (fun h39 => ?_) (fun h39 => ?_)
     ·refine eS ?_
      refine eR rfl ?_
      refine eV rfl (xM rfl) rfl ?_
      refine eV rfl (xB rfl rfl rfl) rfl ?_
      refine eV rfl (xM rfl) rfl ?_
      refine eV rfl (xb_ (places := [(0, 1), (1, 1)]) (zero := [.int .i64 0, .int .i64 0]) (cs := [_, _]) (by kernel_rfl) (by kernel_rfl) (by kernel_rfl) rfl (by kernel_rfl)) rfl ?_
      refine o_set0 hst rfl (xS rfl rfl rfl (hst.get 0 rfl) (m := 2) (by kernel_rfl) rfl (Nat.le_of_ble_eq_true rfl) (lC rfl (lC rfl l0_)) (cells' := [_, _]) rfl) rfl (fun σ hst => ?_)
      refine eV rfl (xA rfl) rfl ?_
      refine eN ?_
      refine tN ?_
      refine eT ?_
      refine tR (bR (tR (lR (bR (tR (?_))))))
      exact rc_ rfl rfl (hst.get 0 rfl) (m := 2) (by kernel_rfl) rfl rfl ⟨by rw [show atG g (Int.ofNat nn) = some ⟨.ofNat (i + 1), .ofNat nm⟩ from by unfold atG; rw [notB_f h11, h14]; show atN g nn = _; unfold atN; rw [if_neg (by have := lt_no h20; omega), he7, goT_yes hx34 (lt_yes h39)]]; show AV.tuple [.agg [.int .i64 (wr .i64 (Int.add (Int.ofNat i) (Int.ofNat 1))), _], _] = _; rw [wr_succ (by have := ht.len_le; omega)]; rfl, hst.pop.pop⟩
     ·refine eI ?_
      refine tN ?_
      refine eR rfl ?_
      refine eV rfl (xM rfl) rfl ?_
      refine eV rfl (xM rfl) rfl ?_
      refine eV rfl (x_len' hk34 rfl rfl rfl (e := 45) (by kernel_rfl) rfl) rfl ?_
      refine eV rfl (xB rfl rfl rfl) rfl ?_
      refine eV rfl (xA rfl) rfl ?_
      refine eN ?_
      refine bN ?_
      refine tN ?_
      refine eR rfl ?_
      refine eV rfl (xB rfl rfl rfl) rfl ?_
      refine eV rfl (xM rfl) rfl ?_
      refine eN ?_
      refine lN ⟨j7 - 1, by omega, (by (iterate 39 refine OffW.put rfl ?_); exact OffW.refl _ _), i + 1, nm - x34.length, by omega, by omega, he7.trans (goT_no hx34 (lt_no h39)), congrArg (fun z => some (AV.int .i64 z)) (wr_subN (lt_no h39) (by omega)), congrArg (fun z => some (AV.int .i64 z)) (wr_succ (by have := ht.len_le; omega)), hst⟩
    ·refine eX ?_
     refine tX ?_
     refine lX ?_
     refine bX ?_
     refine tN ?_
     refine eS ?_
     refine eR rfl ?_
     refine eV rfl (xb_ (places := [(0, 1), (1, 1)]) (zero := [.int .i64 0, .int .i64 0]) (cs := [_, _]) (by kernel_rfl) (by kernel_rfl) (by kernel_rfl) rfl (by kernel_rfl)) rfl ?_
     refine o_set0 hst rfl (xS rfl rfl rfl (hst.get 0 rfl) (m := 2) (by kernel_rfl) rfl (Nat.le_of_ble_eq_true rfl) (lC rfl (lC rfl l0_)) (cells' := [_, _]) rfl) rfl (fun σ hst => ?_)
     refine eV rfl (xA rfl) rfl ?_
     refine eN ?_
     refine tN ?_
     refine eT ?_
     exact rc_ rfl rfl (hst.get 0 rfl) (m := 2) (by kernel_rfl) rfl rfl ⟨by rw [show atG g (Int.ofNat nn) = none from by unfold atG; rw [notB_f h11, h14]; show atN g nn = _; unfold atN; rw [if_neg (by have := lt_no h20; omega), he7, drop_end (lt_no h32)]; rfl]; rfl, hst.pop.pop⟩
end Go.Ev

namespace Go.Ev
variable [Env]
open Go.Proofs
set_option maxRecDepth 4000
set_option maxHeartbeats 8000000
theorem RL.mono {α : Type} {K K' : KP} (hk : KP.le K K') {m : Nat} {R : α → List AV → Prop} {l : List α} {vs : List AV} (h : RL K m R l vs) : RL K' m R l vs := let ⟨v, h1, h2⟩ := h; ⟨v, h1, h2.mono hk fun _ _ h => h⟩
theorem HasG.mono {K K' : KP} (hk : KP.le K K') {g : XG} {a b c d : AV} (h : HasG K g a b c d) : HasG K' g a b c d :=
 ⟨h.init.mono hk fun _ _ h => h, h.threads.mono hk fun _ _ h => h.mono hk, h.from_.mono hk fun _ _ h => h.mono hk, h.order.mono hk fun _ _ h => h.mono hk⟩

theorem w_isNaN_int {G : Cx} (hG : Plain G) {K : KP} (x : Int) {σ : AHeap} {L : Own} (hst : St σ K L) : EvCall Try.prog G 108 [.int .i64 x] σ fun v σ' => v = .bool false ∧ St σ' K L := by
 refine eY hG Try.func108 rfl (t := PT.leaf.put (some (.int .i64 x)) 0) (by rfl) ?_
 refine eS ?_
 refine eR rfl ?_
 refine eV rfl (xA rfl) rfl ?_
 refine eN ?_
 refine tN ?_
 refine eS ?_
 refine eR rfl ?_
 refine eV rfl (xM rfl) rfl ?_
 refine eV rfl (xM rfl) rfl ?_
 refine eV rfl (xB rfl rfl rfl) rfl ?_
 refine eV rfl (xA rfl) rfl ?_
 refine eN ?_
 refine tN ?_
 refine eT ?_
 exact r1_ rfl rfl ⟨congrArg AV.bool (nan_i x), hst⟩
theorem w_cmp_int {G : Cx} (hG : Plain G) {K : KP} (x y : Int) {σ : AHeap} {L : Own} (hst : St σ K L) : EvCall Try.prog G 88 [.int .i64 x, .int .i64 y] σ fun v σ' => v = .int .i64 (cmpZ x y) ∧ St σ' K L := by
 refine eY hG Try.func88 rfl (t := (PT.leaf.put (some (.int .i64 x)) 0).put (some (.int .i64 y)) 1) (by rfl) ?_
 refine eS ?_
 refine eR rfl ?_
 refine eV rfl (xA rfl) rfl ?_
 refine eN ?_
 refine tN ?_
 refine eS ?_
 refine eR rfl ?_
 refine eV rfl (xM rfl) rfl ?_
 refine oV rfl (xC rfl rfl rfl (by kernel_rfl)) (fun _ => rfl) (w_isNaN_int hG _ hst) (fun σ hst => ?_)
 refine eV rfl (xA rfl) rfl ?_
 refine eN ?_
 refine tN ?_
 refine eS ?_
 refine eR rfl ?_
 refine eV rfl (xM rfl) rfl ?_
 refine oV rfl (xC rfl rfl rfl (by kernel_rfl)) (fun _ => rfl) (w_isNaN_int hG _ hst) (fun σ hst => ?_)
 refine eV rfl (xA rfl) rfl ?_
 refine eN ?_
 refine tN ?_
 refine eS ?_
 refine eS ?_
 refine eR rfl ?_
 refine eV rfl (xM rfl) rfl ?_
 refine eN ?_
 refine tN ?_
 refine eF rfl ?_
 refine eI ?_
 refine tN ?_
 refine eS ?_
 refine eS ?_
 refine eR rfl ?_
 refine eV rfl (xM rfl) rfl ?_
 refine eN ?_
 refine tN ?_
 refine eF rfl ?_
 refine eI ?_
 refine tN ?_
 refine eS ?_
 refine eS ?_
 refine eR rfl ?_
 refine eV rfl (xM rfl) rfl ?_
 refine eV rfl (xM rfl) rfl ?_
 refine eV rfl (xB rfl rfl rfl) rfl ?_
 refine eN ?_
 refine tN ?_
 refine e2_ rfl (fun h16 => ?_) (fun h16 => ?_)
 ·refine eS ?_
  refine eR rfl ?_
  refine eV rfl (xA rfl) rfl ?_
  refine eN ?_
  refine tN ?_
  refine eT ?_
  refine tR (?_)
  exact r1_ rfl rfl ⟨congrArg (AV.int .i64) (by unfold cmpZ; rw [h16]; rfl), hst⟩
 ·refine eI ?_
  refine tN ?_
  refine eS ?_
  refine eS ?_
  refine eR rfl ?_
  refine eV rfl (xM rfl) rfl ?_
  refine eV rfl (xM rfl) rfl ?_
  refine eV rfl (xB rfl rfl rfl) rfl ?_
  refine eN ?_
  refine tN ?_
  refine e2_ rfl (fun h19 => ?_) (fun h19 => ?_)
  ·refine eS ?_
   refine eR rfl ?_
   refine eV rfl (xA rfl) rfl ?_
   refine eN ?_
   refine tN ?_
   refine eT ?_
   refine tR (?_)
   exact r1_ rfl rfl ⟨congrArg (AV.int .i64) (by unfold cmpZ; rw [h16, h19]; rfl), hst⟩
  ·refine eI ?_
   refine tN ?_
   refine eS ?_
   refine eR rfl ?_
   refine eV rfl (xA rfl) rfl ?_
   refine eN ?_
   refine tN ?_
   refine eT ?_
   exact r1_ rfl rfl ⟨congrArg (AV.int .i64) (by unfold cmpZ; rw [h16, h19]; rfl), hst⟩
theorem w_of1_int {G : Cx} (hG : Plain G) {K : KP} {x y : Int} {p q : AV} (hp1 : PtsTo K p [.int .i64 x]) (hp2 : PtsTo K q [.int .i64 y]) {σ : AHeap} {L : Own} (hst : St σ K L) : EvCall Try.prog G 87 [p, q] σ fun v σ' => v = .int .i64 (cmpZ x y) ∧ St σ' K L := by
 refine eY hG Try.func87 rfl (t := (PT.leaf.put (some (p)) 0).put (some (q)) 1) (by rfl) ?_
 refine eS ?_
 refine eR rfl ?_
 refine eV rfl (xA rfl) rfl ?_
 refine eN ?_
 refine tN ?_
 refine eS ?_
 refine eR rfl ?_
 refine eV rfl (xp hst hp1 rfl (by kernel_rfl) rfl) rfl ?_
 refine eV rfl (xp hst hp2 rfl (by kernel_rfl) rfl) rfl ?_
 refine oV rfl (xC rfl rfl rfl (by kernel_rfl)) (fun _ => rfl) (w_cmp_int hG _ _ hst) (fun σ hst => ?_)
 refine eV rfl (xA rfl) rfl ?_
 refine eN ?_
 refine tN ?_
 refine eT ?_
 exact r1_ rfl rfl ⟨rfl, hst⟩
theorem rf_87 {G : Cx} (hG : Plain G) {K : KP} {x y : Int} {b1 b2 e1 e2 : Nat} (h1 : K b1 (.row [.int .i64 x] e1 false)) (h2 : K b2 (.row [.int .i64 y] e2 false)) : RFun Try.prog G K (cmpZ x y) [.func 87 [] [.ptr b1 0, .ptr b2 0]] := ⟨87, _, rfl, by kernel_rfl, fun σ L hst => w_of1_int hG (pts_row h1) (pts_row h2) hst⟩
theorem w_of_int {G : Cx} (hG : Plain G) {K : KP} (x y : Int) {σ : AHeap} {L : Own} (hst : St σ K L) : EvCall Try.prog G 53 [.int .i64 x, .int .i64 y] σ fun v σ' => ∃ b1 b2, v = .func 87 [] [.ptr b1 0, .ptr b2 0] ∧ St σ' K ((b2, .row [.int .i64 y] 3 false) :: (b1, .row [.int .i64 x] 3 false) :: L) := by
 refine eY hG Try.func53 rfl (t := (PT.leaf.put (some (.int .i64 x)) 0).put (some (.int .i64 y)) 1) (by rfl) ?_
 refine eS ?_
 refine eR rfl ?_
 refine oP hst rfl (xo_ rfl rfl) (fun _ => rfl) (fun σ b1 hst => ?_)
 refine oP hst rfl (xo_ rfl rfl) (fun _ => rfl) (fun σ b2 hst => ?_)
 refine eV rfl (xA rfl) rfl ?_
 refine eN ?_
 refine tN ?_
 refine eS ?_
 refine eR rfl ?_
 refine eV rfl (xU rfl rfl) rfl ?_
 refine eV rfl (xA rfl) rfl ?_
 refine eN ?_
 refine tN ?_
 refine eT ?_
 exact r1_ rfl rfl ⟨_, _, rfl, hst⟩
theorem w_isNaN_int64 {G : Cx} (hG : Plain G) {K : KP} (x : Int) {σ : AHeap} {L : Own} (hst : St σ K L) : EvCall Try.prog G 110 [.int .i64 x] σ fun v σ' => v = .bool false ∧ St σ' K L := by
 refine eY hG Try.func110 rfl (t := PT.leaf.put (some (.int .i64 x)) 0) (by rfl) ?_
 refine eS ?_
 refine eR rfl ?_
 refine eV rfl (xA rfl) rfl ?_
 refine eN ?_
 refine tN ?_
 refine eS ?_
 refine eR rfl ?_
 refine eV rfl (xM rfl) rfl ?_
 refine eV rfl (xM rfl) rfl ?_
 refine eV rfl (xB rfl rfl rfl) rfl ?_
 refine eV rfl (xA rfl) rfl ?_
 refine eN ?_
 refine tN ?_
 refine eT ?_
 exact r1_ rfl rfl ⟨congrArg AV.bool (nan_i x), hst⟩
theorem w_cmp_int64 {G : Cx} (hG : Plain G) {K : KP} (x y : Int) {σ : AHeap} {L : Own} (hst : St σ K L) : EvCall Try.prog G 94 [.int .i64 x, .int .i64 y] σ fun v σ' => v = .int .i64 (cmpZ x y) ∧ St σ' K L := by
 refine eY hG Try.func94 rfl (t := (PT.leaf.put (some (.int .i64 x)) 0).put (some (.int .i64 y)) 1) (by rfl) ?_
 refine eS ?_
 refine eR rfl ?_
 refine eV rfl (xA rfl) rfl ?_
 refine eN ?_
 refine tN ?_
 refine eS ?_
 refine eR rfl ?_
 refine eV rfl (xM rfl) rfl ?_
 refine oV rfl (xC rfl rfl rfl (by kernel_rfl)) (fun _ => rfl) (w_isNaN_int64 hG _ hst) (fun σ hst => ?_)
 refine eV rfl (xA rfl) rfl ?_
 refine eN ?_
 refine tN ?_
 refine eS ?_
 refine eR rfl ?_
 refine eV rfl (xM rfl) rfl ?_
 refine oV rfl (xC rfl rfl rfl (by kernel_rfl)) (fun _ => rfl) (w_isNaN_int64 hG _ hst) (fun σ hst => ?_)
 refine eV rfl (xA rfl) rfl ?_
 refine eN ?_
 refine tN ?_
 refine eS ?_
 refine eS ?_
 refine eR rfl ?_
 refine eV rfl (xM rfl) rfl ?_
 refine eN ?_
 refine tN ?_
 refine eF rfl ?_
 refine eI ?_
 refine tN ?_
 refine eS ?_
 refine eS ?_
 refine eR rfl ?_
 refine eV rfl (xM rfl) rfl ?_
 refine eN ?_
 refine tN ?_
 refine eF rfl ?_
 refine eI ?_
 refine tN ?_
 refine eS ?_
 refine eS ?_
 refine eR rfl ?_
 refine eV rfl (xM rfl) rfl ?_
 refine eV rfl (xM rfl) rfl ?_
 refine eV rfl (xB rfl rfl rfl) rfl ?_
 refine eN ?_
 refine tN ?_
 refine e2_ rfl (fun h16 => ?_) (fun h16 => ?_)
 ·refine eS ?_
  refine eR rfl ?_
  refine eV rfl (xA rfl) rfl ?_
  refine eN ?_
  refine tN ?_
  refine eT ?_
  refine tR (?_)
  exact r1_ rfl rfl ⟨congrArg (AV.int .i64) (by unfold cmpZ; rw [h16]; rfl), hst⟩
 ·refine eI ?_
  refine tN ?_
  refine eS ?_
  refine eS ?_
  refine eR rfl ?_
  refine eV rfl (xM rfl) rfl ?_
  refine eV rfl (xM rfl) rfl ?_
  refine eV rfl (xB rfl rfl rfl) rfl ?_
  refine eN ?_
  refine tN ?_
  refine e2_ rfl (fun h19 => ?_) (fun h19 => ?_)
  ·refine eS ?_
   refine eR rfl ?_
   refine eV rfl (xA rfl) rfl ?_
   refine eN ?_
   refine tN ?_
   refine eT ?_
   refine tR (?_)
   exact r1_ rfl rfl ⟨congrArg (AV.int .i64) (by unfold cmpZ; rw [h16, h19]; rfl), hst⟩
  ·refine eI ?_
   refine tN ?_
   refine eS ?_
   refine eR rfl ?_
   refine eV rfl (xA rfl) rfl ?_
   refine eN ?_
   refine tN ?_
   refine eT ?_
   exact r1_ rfl rfl ⟨congrArg (AV.int .i64) (by unfold cmpZ; rw [h16, h19]; rfl), hst⟩
theorem w_of1_int64 {G : Cx} (hG : Plain G) {K : KP} {x y : Int} {p q : AV} (hp1 : PtsTo K p [.int .i64 x]) (hp2 : PtsTo K q [.int .i64 y]) {σ : AHeap} {L : Own} (hst : St σ K L) : EvCall Try.prog G 113 [p, q] σ fun v σ' => v = .int .i64 (cmpZ x y) ∧ St σ' K L := by
 refine eY hG Try.func113 rfl (t := (PT.leaf.put (some (p)) 0).put (some (q)) 1) (by rfl) ?_
 refine eS ?_
 refine eR rfl ?_
 refine eV rfl (xA rfl) rfl ?_
 refine eN ?_
 refine tN ?_
 refine eS ?_
 refine eR rfl ?_
 refine eV rfl (xp hst hp1 rfl (by kernel_rfl) rfl) rfl ?_
 refine eV rfl (xp hst hp2 rfl (by kernel_rfl) rfl) rfl ?_
 refine oV rfl (xC rfl rfl rfl (by kernel_rfl)) (fun _ => rfl) (w_cmp_int64 hG _ _ hst) (fun σ hst => ?_)
 refine eV rfl (xA rfl) rfl ?_
 refine eN ?_
 refine tN ?_
 refine eT ?_
 exact r1_ rfl rfl ⟨rfl, hst⟩
theorem rf_113 {G : Cx} (hG : Plain G) {K : KP} {x y : Int} {b1 b2 e1 e2 : Nat} (h1 : K b1 (.row [.int .i64 x] e1 false)) (h2 : K b2 (.row [.int .i64 y] e2 false)) : RFun Try.prog G K (cmpZ x y) [.func 113 [] [.ptr b1 0, .ptr b2 0]] := ⟨113, _, rfl, by kernel_rfl, fun σ L hst => w_of1_int64 hG (pts_row h1) (pts_row h2) hst⟩
theorem w_of_int64 {G : Cx} (hG : Plain G) {K : KP} (x y : Int) {σ : AHeap} {L : Own} (hst : St σ K L) : EvCall Try.prog G 109 [.int .i64 x, .int .i64 y] σ fun v σ' => ∃ b1 b2, v = .func 113 [] [.ptr b1 0, .ptr b2 0] ∧ St σ' K ((b2, .row [.int .i64 y] 2 false) :: (b1, .row [.int .i64 x] 2 false) :: L) := by
 refine eY hG Try.func109 rfl (t := (PT.leaf.put (some (.int .i64 x)) 0).put (some (.int .i64 y)) 1) (by rfl) ?_
 refine eS ?_
 refine eR rfl ?_
 refine oP hst rfl (xo_ rfl rfl) (fun _ => rfl) (fun σ b1 hst => ?_)
 refine oP hst rfl (xo_ rfl rfl) (fun _ => rfl) (fun σ b2 hst => ?_)
 refine eV rfl (xA rfl) rfl ?_
 refine eN ?_
 refine tN ?_
 refine eS ?_
 refine eR rfl ?_
 refine eV rfl (xU rfl rfl) rfl ?_
 refine eV rfl (xA rfl) rfl ?_
 refine eN ?_
 refine tN ?_
 refine eT ?_
 exact r1_ rfl rfl ⟨_, _, rfl, hst⟩
theorem w_decided {G : Cx} (hG : Plain G) {K : KP} {l : List Int} {v : AV} {σ : AHeap} {L : Own} (hst : St σ K L) (h : HasS K 1 (RFun Try.prog G K) l v) : EvCall Try.prog G 52 [v] σ fun v σ' => v = .int .i64 (fnz l) ∧ St σ' K L := by
 refine eY hG Try.func52 rfl (t := PT.leaf.put (some (v)) 0) (by rfl) ?_
 refine eS ?_
 refine eR rfl ?_
 refine eV rfl (xA rfl) rfl ?_
 refine eN ?_
 refine tN ?_
 refine eS ?_
 refine eS ?_
 refine eR rfl ?_
 refine eV rfl (xM rfl) rfl ?_
 refine eV rfl (x_len' h rfl rfl rfl (e := 87) (by kernel_rfl) rfl) rfl ?_
 refine eV rfl (xM rfl) rfl ?_
 refine eN ?_
 refine tN ?_
 refine eB ?_
 obtain ⟨LL1, hst, hLL1⟩ := hst.named
 refine eW [2, 4, 5, 8, 9, 10, 11, 12, 13, 14, 15, 16, 17] (fun j t σ => ∃ (i : Nat), j + i = l.length ∧ fnz l = fnz (l.drop i) ∧ t.get 8 = some (.int .i64 (.ofNat i)) ∧ St σ K LL1) (l.length) ⟨0, rfl, rfl, rfl, hst⟩ ?_
 clear hst; intro j2 t σ hoff hI; obtain ⟨i, hj2, he2, hv8, hst⟩ := hI
 subst hLL1
 obtain ⟨o2, o4, o5, o8, o9, o10, o11, o12, hoff⟩ := hoff.ex8 rfl rfl
 obtain ⟨o13, o14, o15, o16, hoff⟩ := hoff.ex4 rfl
 obtain ⟨o17, hoff⟩ := hoff.ex1 rfl
 obtain rfl := hoff.nil; clear hoff
 replace hv8 : o8 = some _ := hv8; subst hv8
 refine eS ?_
 refine eR rfl ?_
 refine eV rfl (xB rfl rfl rfl) rfl ?_
 refine eN ?_
 refine tN ?_
 refine eS ?_
 refine e2_ rfl (fun h9 => ?_) (fun h9 => ?_)
 ·refine eI ?_
  refine tN ?_
  refine eS ?_
  refine eB ?_
  refine eS ?_
  refine eR rfl ?_
  obtain ⟨x10, hx10, hi10⟩ := at_lt h9
  refine oI (e := 87) (m := 1) h hx10 rfl rfl (by kernel_rfl) (by kernel_rfl) rfl rfl (fun _ => rfl) (fun p10 vs10 hp10 hl10 hr10 => ?_)
  obtain ⟨f10, ca10, rfl, hgo10, hcall10⟩ := hr10
  refine eV rfl (xp hst hp10 rfl (by kernel_rfl) rfl) rfl ?_
  refine eV rfl (xA rfl) rfl ?_
  refine eN ?_
  refine tN ?_
  refine eS ?_
  refine eR rfl ?_
  refine eV rfl (xM rfl) rfl ?_
  refine oV rfl (xC rfl rfl rfl hgo10) (fun _ => rfl) (hcall10 _ _ hst) (fun σ hst => ?_)
  refine eV rfl (xA rfl) rfl ?_
  refine eN ?_
  refine tN ?_
  refine eS ?_
  refine eR rfl ?_
  refine eV rfl (xM rfl) rfl ?_
  refine eV rfl (xB rfl rfl rfl) rfl ?_
  refine eN ?_
  refine tN ?_
  refine e2_ rfl (fun h15 => ?_) (fun h15 => ?_)
  ·refine eS ?_
   refine eR rfl ?_
   refine eV rfl (xM rfl) rfl ?_
   refine eV rfl (xA rfl) rfl ?_
   refine eN ?_
   refine tN ?_
   refine eT ?_
   refine bR (tR (lR (bR (tR (?_)))))
   exact r1_ rfl rfl ⟨congrArg (AV.int .i64) (by symm; rw [he2, drop_at hx10]; show (bif eqI x10 0 then _ else _) = _; rw [notB_t h15]; rfl), hst⟩
  ·refine eI ?_
   refine bN ?_
   refine tN ?_
   refine eR rfl ?_
   refine eV rfl (xB rfl rfl rfl) rfl ?_
   refine eV rfl (xM rfl) rfl ?_
   refine eN ?_
   refine lN ⟨j2 - 1, by omega, (by (iterate 24 refine OffW.put rfl ?_); exact OffW.refl _ _), i + 1, by omega, by rw [he2, drop_at hx10]; show (bif eqI x10 0 then _ else _) = _; rw [notB_f h15]; rfl, congrArg (fun z => some (AV.int .i64 z)) (wr_succ (by have := h.len_le; omega)), hst⟩
 ·refine eX ?_
  refine tX ?_
  refine lX ?_
  refine bX ?_
  refine tN ?_
  refine eS ?_
  refine eR rfl ?_
  refine eV rfl (xA rfl) rfl ?_
  refine eN ?_
  refine tN ?_
  refine eT ?_
  exact r1_ rfl rfl ⟨congrArg (AV.int .i64) (by symm; rw [he2, drop_end (lt_no h9)]; rfl), hst⟩
theorem w_compareEvent {G : Cx} (hG : Plain G) {K : KP} (x y : XEv) {σ : AHeap} {L : Own} (hst : St σ K L) : EvCall Try.prog G 90 [.agg [.int .i64 x.kind, .int .i64 x.loc, .int .i64 x.order, .int .i64 x.read, .int .i64 x.write], .agg [.int .i64 y.kind, .int .i64 y.loc, .int .i64 y.order, .int .i64 y.read, .int .i64 y.write]] σ fun v σ' => v = .int .i64 (cmpEv x y) ∧ St σ' K L := by
 refine eY hG Try.func90 rfl (t := (PT.leaf.put (some (.agg [.int .i64 x.kind, .int .i64 x.loc, .int .i64 x.order, .int .i64 x.read, .int .i64 x.write])) 0).put (some (.agg [.int .i64 y.kind, .int .i64 y.loc, .int .i64 y.order, .int .i64 y.read, .int .i64 y.write])) 1) (by rfl) ?_
 refine eS ?_
 refine eR rfl ?_
 refine oP hst rfl (xo_ rfl rfl) (fun _ => rfl) (fun σ b1 hst => ?_)
 refine oP hst rfl (xo_ rfl rfl) (fun _ => rfl) (fun σ b2 hst => ?_)
 refine eV rfl (xA rfl) rfl ?_
 refine eN ?_
 refine tN ?_
 refine eS ?_
 refine eP (l := [(0, []), (1, []), (2, []), (3, []), (5, []), (6, []), (7, []), (8, []), (10, []), (11, []), (12, []), (13, []), (15, []), (16, []), (17, []), (18, []), (20, []), (21, []), (22, []), (23, []), (4, [6, 8, 11, 13, 16, 18, 21, 23]), (9, [11, 13, 16, 18, 21, 23]), (14, [16, 18, 21, 23]), (19, [21, 23]), (24, []), (25, []), (26, []), (27, [])]) (by kernel_rfl) (by kernel_rfl) ?_
 refine pV rfl rfl (xF rfl (k := 0) (by kernel_rfl)) rfl ?_
 refine pV rfl rfl (x1_ rfl (hst.get 1 rfl) (by kernel_rfl) rfl) rfl ?_
 refine pV rfl rfl (xF rfl (k := 0) (by kernel_rfl)) rfl ?_
 refine pV rfl rfl (x1_ rfl (hst.get 0 rfl) (by kernel_rfl) rfl) rfl ?_
 refine pV rfl rfl (xF rfl (k := 1) (by kernel_rfl)) rfl ?_
 refine pV rfl rfl (x1_ rfl (hst.get 1 rfl) (by kernel_rfl) rfl) rfl ?_
 refine pV rfl rfl (xF rfl (k := 1) (by kernel_rfl)) rfl ?_
 refine pV rfl rfl (x1_ rfl (hst.get 0 rfl) (by kernel_rfl) rfl) rfl ?_
 refine pV rfl rfl (xF rfl (k := 2) (by kernel_rfl)) rfl ?_
 refine pV rfl rfl (x1_ rfl (hst.get 1 rfl) (by kernel_rfl) rfl) rfl ?_
 refine pV rfl rfl (xF rfl (k := 2) (by kernel_rfl)) rfl ?_
 refine pV rfl rfl (x1_ rfl (hst.get 0 rfl) (by kernel_rfl) rfl) rfl ?_
 refine pV rfl rfl (xF rfl (k := 3) (by kernel_rfl)) rfl ?_
 refine pV rfl rfl (x1_ rfl (hst.get 1 rfl) (by kernel_rfl) rfl) rfl ?_
 refine pV rfl rfl (xF rfl (k := 3) (by kernel_rfl)) rfl ?_
 refine pV rfl rfl (x1_ rfl (hst.get 0 rfl) (by kernel_rfl) rfl) rfl ?_
 refine pV rfl rfl (xF rfl (k := 4) (by kernel_rfl)) rfl ?_
 refine pV rfl rfl (x1_ rfl (hst.get 1 rfl) (by kernel_rfl) rfl) rfl ?_
 refine pV rfl rfl (xF rfl (k := 4) (by kernel_rfl)) rfl ?_
 refine pV rfl rfl (x1_ rfl (hst.get 0 rfl) (by kernel_rfl) rfl) rfl ?_
 refine pc rfl rfl (xC rfl rfl rfl (by kernel_rfl)) (fun _ => rfl) (w_of_int hG _ _ hst) ?_
 rintro _ σ ⟨b3, b4, rfl, hst⟩
 refine ⟨(sC (sR rfl rfl rfl rfl rfl (x1_ rfl (hst.get 3 rfl) (by kernel_rfl) rfl) (beqA_int _ _)) (sC (sR rfl rfl rfl rfl rfl (x1_ rfl (hst.get 2 rfl) (by kernel_rfl) rfl) (beqA_int _ _)) (sC (sR rfl rfl rfl rfl rfl (x1_ rfl (hst.get 3 rfl) (by kernel_rfl) rfl) (beqA_int _ _)) (sC (sR rfl rfl rfl rfl rfl (x1_ rfl (hst.get 2 rfl) (by kernel_rfl) rfl) (beqA_int _ _)) (sC (sR rfl rfl rfl rfl rfl (x1_ rfl (hst.get 3 rfl) (by kernel_rfl) rfl) (beqA_int _ _)) (sC (sR rfl rfl rfl rfl rfl (x1_ rfl (hst.get 2 rfl) (by kernel_rfl) rfl) (beqA_int _ _)) (sC (sR rfl rfl rfl rfl rfl (x1_ rfl (hst.get 3 rfl) (by kernel_rfl) rfl) (beqA_int _ _)) (sC (sR rfl rfl rfl rfl rfl (x1_ rfl (hst.get 2 rfl) (by kernel_rfl) rfl) (beqA_int _ _)) s0)))))))), ?_⟩
 refine pc rfl rfl (xC rfl rfl rfl (by kernel_rfl)) (fun _ => rfl) (w_of_int hG _ _ hst) ?_
 rintro _ σ ⟨b5, b6, rfl, hst⟩
 refine ⟨(sC (sR rfl rfl rfl rfl rfl (x1_ rfl (hst.get 5 rfl) (by kernel_rfl) rfl) (beqA_int _ _)) (sC (sR rfl rfl rfl rfl rfl (x1_ rfl (hst.get 4 rfl) (by kernel_rfl) rfl) (beqA_int _ _)) (sC (sR rfl rfl rfl rfl rfl (x1_ rfl (hst.get 5 rfl) (by kernel_rfl) rfl) (beqA_int _ _)) (sC (sR rfl rfl rfl rfl rfl (x1_ rfl (hst.get 4 rfl) (by kernel_rfl) rfl) (beqA_int _ _)) (sC (sR rfl rfl rfl rfl rfl (x1_ rfl (hst.get 5 rfl) (by kernel_rfl) rfl) (beqA_int _ _)) (sC (sR rfl rfl rfl rfl rfl (x1_ rfl (hst.get 4 rfl) (by kernel_rfl) rfl) (beqA_int _ _)) s0)))))), ?_⟩
 refine pc rfl rfl (xC rfl rfl rfl (by kernel_rfl)) (fun _ => rfl) (w_of_int hG _ _ hst) ?_
 rintro _ σ ⟨b7, b8, rfl, hst⟩
 refine ⟨(sC (sR rfl rfl rfl rfl rfl (x1_ rfl (hst.get 7 rfl) (by kernel_rfl) rfl) (beqA_int _ _)) (sC (sR rfl rfl rfl rfl rfl (x1_ rfl (hst.get 6 rfl) (by kernel_rfl) rfl) (beqA_int _ _)) (sC (sR rfl rfl rfl rfl rfl (x1_ rfl (hst.get 7 rfl) (by kernel_rfl) rfl) (beqA_int _ _)) (sC (sR rfl rfl rfl rfl rfl (x1_ rfl (hst.get 6 rfl) (by kernel_rfl) rfl) (beqA_int _ _)) s0)))), ?_⟩
 refine pc rfl rfl (xC rfl rfl rfl (by kernel_rfl)) (fun _ => rfl) (w_of_int64 hG _ _ hst) ?_
 rintro _ σ ⟨b9, b10, rfl, hst⟩
 refine ⟨(sC (sR rfl rfl rfl rfl rfl (x1_ rfl (hst.get 9 rfl) (by kernel_rfl) rfl) (beqA_int _ _)) (sC (sR rfl rfl rfl rfl rfl (x1_ rfl (hst.get 8 rfl) (by kernel_rfl) rfl) (beqA_int _ _)) s0)), ?_⟩
 refine pc rfl rfl (xC rfl rfl rfl (by kernel_rfl)) (fun _ => rfl) (w_of_int64 hG _ _ hst) ?_
 rintro _ σ ⟨b11, b12, rfl, hst⟩
 refine ⟨s0, ?_⟩
 refine p_mk hst rfl rfl (x_buildS (e := 87) (m := 1) (z := [.nilFunc]) (cs := [.func 87 [] [.ptr b3 0, .ptr b4 0], .func 87 [] [.ptr b5 0, .ptr b6 0], .func 87 [] [.ptr b7 0, .ptr b8 0], .func 113 [] [.ptr b9 0, .ptr b10 0], .func 113 [] [.ptr b11 0, .ptr b12 0]]) (by kernel_rfl) (by kernel_rfl) (by kernel_rfl) (by kernel_rfl) (by rfl)) (fun _ => rfl) (fun σ b13 hst => ?_)
 have hq := hst.keeps (M := [_, _, _, _, _, _, _, _, _, _, _, _, _])
 refine pv_ rfl rfl (xC rfl rfl rfl (by kernel_rfl)) (fun _ => rfl) (call_keeps (w_decided hG hq (RFuns.slice (RFuns.cons (rf_87 hG (KP.adds_get 10 rfl) (KP.adds_get 9 rfl)) (RFuns.cons (rf_87 hG (KP.adds_get 8 rfl) (KP.adds_get 7 rfl)) (RFuns.cons (rf_87 hG (KP.adds_get 6 rfl) (KP.adds_get 5 rfl)) (RFuns.cons (rf_113 hG (KP.adds_get 4 rfl) (KP.adds_get 3 rfl)) (RFuns.cons (rf_113 hG (KP.adds_get 2 rfl) (KP.adds_get 1 rfl)) RFuns.nil))))) (KP.adds_get 0 rfl) rfl (Nat.le_refl _) (by decide)))) (fun σ hst => ?_)
 clear hq
 refine ⟨s0, ?_⟩
 refine pV rfl rfl (xA rfl) rfl ?_
 refine pN ?_
 refine tN ?_
 refine eT ?_
 exact r1_ rfl rfl ⟨rfl, hst⟩
theorem w_compareId {G : Cx} (hG : Plain G) {K : KP} (x y : XId) {σ : AHeap} {L : Own} (hst : St σ K L) : EvCall Try.prog G 93 [.agg [.int .i64 x.thread, .int .i64 x.index], .agg [.int .i64 y.thread, .int .i64 y.index]] σ fun v σ' => v = .int .i64 (cmpId x y) ∧ St σ' K L := by
 refine eY hG Try.func93 rfl (t := (PT.leaf.put (some (.agg [.int .i64 x.thread, .int .i64 x.index])) 0).put (some (.agg [.int .i64 y.thread, .int .i64 y.index])) 1) (by rfl) ?_
 refine eS ?_
 refine eR rfl ?_
 refine oP hst rfl (xo_ rfl rfl) (fun _ => rfl) (fun σ b1 hst => ?_)
 refine oP hst rfl (xo_ rfl rfl) (fun _ => rfl) (fun σ b2 hst => ?_)
 refine eV rfl (xA rfl) rfl ?_
 refine eN ?_
 refine tN ?_
 refine eS ?_
 refine eP (l := [(0, []), (1, []), (2, []), (3, []), (5, []), (6, []), (7, []), (8, []), (4, [6, 8]), (9, []), (10, []), (11, []), (12, [])]) (by kernel_rfl) (by kernel_rfl) ?_
 refine pV rfl rfl (xF rfl (k := 0) (by kernel_rfl)) rfl ?_
 refine pV rfl rfl (x1_ rfl (hst.get 1 rfl) (by kernel_rfl) rfl) rfl ?_
 refine pV rfl rfl (xF rfl (k := 0) (by kernel_rfl)) rfl ?_
 refine pV rfl rfl (x1_ rfl (hst.get 0 rfl) (by kernel_rfl) rfl) rfl ?_
 refine pV rfl rfl (xF rfl (k := 1) (by kernel_rfl)) rfl ?_
 refine pV rfl rfl (x1_ rfl (hst.get 1 rfl) (by kernel_rfl) rfl) rfl ?_
 refine pV rfl rfl (xF rfl (k := 1) (by kernel_rfl)) rfl ?_
 refine pV rfl rfl (x1_ rfl (hst.get 0 rfl) (by kernel_rfl) rfl) rfl ?_
 refine pc rfl rfl (xC rfl rfl rfl (by kernel_rfl)) (fun _ => rfl) (w_of_int hG _ _ hst) ?_
 rintro _ σ ⟨b3, b4, rfl, hst⟩
 refine ⟨(sC (sR rfl rfl rfl rfl rfl (x1_ rfl (hst.get 3 rfl) (by kernel_rfl) rfl) (beqA_int _ _)) (sC (sR rfl rfl rfl rfl rfl (x1_ rfl (hst.get 2 rfl) (by kernel_rfl) rfl) (beqA_int _ _)) s0)), ?_⟩
 refine pc rfl rfl (xC rfl rfl rfl (by kernel_rfl)) (fun _ => rfl) (w_of_int hG _ _ hst) ?_
 rintro _ σ ⟨b5, b6, rfl, hst⟩
 refine ⟨s0, ?_⟩
 refine p_mk hst rfl rfl (x_buildS (e := 87) (m := 1) (z := [.nilFunc]) (cs := [.func 87 [] [.ptr b3 0, .ptr b4 0], .func 87 [] [.ptr b5 0, .ptr b6 0]]) (by kernel_rfl) (by kernel_rfl) (by kernel_rfl) (by kernel_rfl) (by rfl)) (fun _ => rfl) (fun σ b7 hst => ?_)
 have hq := hst.keeps (M := [_, _, _, _, _, _, _])
 refine pv_ rfl rfl (xC rfl rfl rfl (by kernel_rfl)) (fun _ => rfl) (call_keeps (w_decided hG hq (RFuns.slice (RFuns.cons (rf_87 hG (KP.adds_get 4 rfl) (KP.adds_get 3 rfl)) (RFuns.cons (rf_87 hG (KP.adds_get 2 rfl) (KP.adds_get 1 rfl)) RFuns.nil)) (KP.adds_get 0 rfl) rfl (Nat.le_refl _) (by decide)))) (fun σ hst => ?_)
 clear hq
 refine ⟨s0, ?_⟩
 refine pV rfl rfl (xA rfl) rfl ?_
 refine pN ?_
 refine tN ?_
 refine eT ?_
 exact r1_ rfl rfl ⟨rfl, hst⟩
end Go.Ev

namespace Go.Ev
variable [Env]
open Go.Proofs
set_option maxRecDepth 4000
set_option maxHeartbeats 8000000

theorem w_CFe {G : Cx} (hG : Plain G) {K : KP} {g : Nat} {c : List XEv → List XEv → Int} (hgo : isGo Try.prog g = true) {l1 l2 : List (List XEv)} {v1 v2 : AV} {σ : AHeap} {L : Own} (hst : St σ K L) (h1 : HasS K 1 (RL K 5 REv) l1 v1) (h2 : HasS K 1 (RL K 5 REv) l2 v2)
  (hcall : ∀ x y u w σ L, St σ K L → HasS K 5 REv x u → HasS K 5 REv y w → EvCall Try.prog G g [u, w] σ fun v σ' => v = .int .i64 (c x y) ∧ St σ' K L) :
  EvCall Try.prog G 55 [v1, v2, .func g [] []] σ fun v σ' => v = .int .i64 (cmpL c l1 l2) ∧ St σ' K L := by
 refine eY hG Try.func55 rfl (t := ((PT.leaf.put (some (v1)) 0).put (some (v2)) 1).put (some (.func g [] [])) 2) (by rfl) ?_
 refine eS ?_
 refine eR rfl ?_
 refine eV rfl (xA rfl) rfl ?_
 refine eN ?_
 refine tN ?_
 refine eS ?_
 refine eS ?_
 refine eR rfl ?_
 refine eV rfl (xM rfl) rfl ?_
 refine eV rfl (x_len' h1 rfl rfl rfl (e := 61) (by kernel_rfl) rfl) rfl ?_
 refine eV rfl (xM rfl) rfl ?_
 refine eN ?_
 refine tN ?_
 refine eB ?_
 obtain ⟨LL1, hst, hLL1⟩ := hst.named
 refine eW [6, 7, 8, 9, 10, 13, 14, 15, 16, 17, 18, 19, 20, 21, 22, 23, 24, 25, 26, 27, 28, 29, 30, 31, 32, 33] (fun j t σ => ∃ (i : Nat), j + i = l1.length ∧ cmpL c l1 l2 = cmpL c (l1.drop i) (l2.drop i) ∧ t.get 13 = some (.int .i64 (.ofNat i)) ∧ St σ K LL1) (l1.length) ⟨0, rfl, rfl, rfl, hst⟩ ?_
 clear hst; intro j2 t σ hoff hI; obtain ⟨i, hj2, he2, hv13, hst⟩ := hI
 subst hLL1
 obtain ⟨o6, o7, o8, o9, o10, o13, o14, o15, hoff⟩ := hoff.ex8 rfl rfl
 obtain ⟨o16, o17, o18, o19, o20, o21, o22, o23, hoff⟩ := hoff.ex8 rfl rfl
 obtain ⟨o24, o25, o26, o27, o28, o29, o30, o31, hoff⟩ := hoff.ex8 rfl rfl
 obtain ⟨o32, hoff⟩ := hoff.ex1 rfl
 obtain ⟨o33, hoff⟩ := hoff.ex1 rfl
 obtain rfl := hoff.nil; clear hoff
 replace hv13 : o13 = some _ := hv13; subst hv13
 refine eS ?_
 refine eR rfl ?_
 refine eV rfl (xB rfl rfl rfl) rfl ?_
 refine eN ?_
 refine tN ?_
 refine eS ?_
 refine e2_ rfl (fun h14 => ?_) (fun h14 => ?_)
 ·refine eI ?_
  refine tN ?_
  refine eS ?_
  refine eB ?_
  refine eS ?_
  refine eR rfl ?_
  refine eV rfl (xM rfl) rfl ?_
  obtain ⟨x16, hx16, hi16⟩ := at_lt h14
  refine oI (e := 61) (m := 1) h1 hx16 rfl rfl (by kernel_rfl) (by kernel_rfl) rfl rfl (fun _ => rfl) (fun p16 vs16 hp16 hl16 hr16 => ?_)
  have hr16' := hr16; obtain ⟨v16, rfl, hk16⟩ := hr16'
  refine eV rfl (xp hst hp16 rfl (by kernel_rfl) rfl) rfl ?_
  refine eV rfl (xA rfl) rfl ?_
  refine eV rfl (xA rfl) rfl ?_
  refine eN ?_
  refine tN ?_
  refine eS ?_
  refine eS ?_
  refine eR rfl ?_
  refine eV rfl (xM rfl) rfl ?_
  refine eV rfl (xM rfl) rfl ?_
  refine eV rfl (x_len' h2 rfl rfl rfl (e := 61) (by kernel_rfl) rfl) rfl ?_
  refine eV rfl (xB rfl rfl rfl) rfl ?_
  refine eN ?_
  refine tN ?_
  refine e2_ rfl (fun h21 => ?_) (fun h21 => ?_)
  ·refine eS ?_
   refine eR rfl ?_
   refine eV rfl (xA rfl) rfl ?_
   refine eN ?_
   refine tN ?_
   refine eT ?_
   refine tR (bR (tR (lR (bR (tR (?_))))))
   exact r1_ rfl rfl ⟨congrArg (AV.int .i64) (by symm; rw [he2]; exact cmpL_more hx16 (ge_of_ge h21)), hst⟩
  ·refine eI ?_
   refine tN ?_
   refine eS ?_
   refine eR rfl ?_
   refine eV rfl (xM rfl) rfl ?_
   refine eV rfl (xM rfl) rfl ?_
   obtain ⟨x24, hx24⟩ := at_of (lt_of_ge h21)
   refine oI (e := 61) (m := 1) h2 hx24 rfl rfl (by kernel_rfl) (by kernel_rfl) rfl rfl (fun _ => rfl) (fun p24 vs24 hp24 hl24 hr24 => ?_)
   have hr24' := hr24; obtain ⟨v24, rfl, hk24⟩ := hr24'
   refine eV rfl (xp hst hp24 rfl (by kernel_rfl) rfl) rfl ?_
   refine eV rfl (xA rfl) rfl ?_
   refine eN ?_
   refine tN ?_
   refine eS ?_
   refine eR rfl ?_
   refine eV rfl (xM rfl) rfl ?_
   refine eV rfl (xM rfl) rfl ?_
   refine eV rfl (xM rfl) rfl ?_
   refine oV rfl (xC rfl rfl rfl hgo) (fun _ => rfl) (hcall _ _ _ _ _ _ hst hk16 hk24) (fun σ hst => ?_)
   refine eV rfl (xA rfl) rfl ?_
   refine eN ?_
   refine tN ?_
   refine eS ?_
   refine eR rfl ?_
   refine eV rfl (xM rfl) rfl ?_
   refine eV rfl (xB rfl rfl rfl) rfl ?_
   refine eN ?_
   refine tN ?_
   refine e2_ rfl (fun h31 => ?_) (fun h31 => ?_)
   ·refine eS ?_
    refine eR rfl ?_
    refine eV rfl (xM rfl) rfl ?_
    refine eV rfl (xA rfl) rfl ?_
    refine eN ?_
    refine tN ?_
    refine eT ?_
    refine bR (tR (lR (bR (tR (?_)))))
    exact r1_ rfl rfl ⟨congrArg (AV.int .i64) (by symm; rw [he2]; exact cmpL_stop hx16 hx24 (notB_t h31)), hst⟩
   ·refine eI ?_
    refine bN ?_
    refine tN ?_
    refine eR rfl ?_
    refine eV rfl (xB rfl rfl rfl) rfl ?_
    refine eV rfl (xM rfl) rfl ?_
    refine eN ?_
    refine lN ⟨j2 - 1, by omega, (by (iterate 50 refine OffW.put rfl ?_); exact OffW.refl _ _), i + 1, by omega, he2.trans (cmpL_step hx16 hx24 (notB_f h31)), congrArg (fun z => some (AV.int .i64 z)) (wr_succ (by have := h1.len_le; omega)), hst⟩
 ·refine eX ?_
  refine tX ?_
  refine lX ?_
  refine bX ?_
  refine tN ?_
  refine eS ?_
  refine eS ?_
  refine eR rfl ?_
  refine eV rfl (xM rfl) rfl ?_
  refine eV rfl (x_len' h1 rfl rfl rfl (e := 61) (by kernel_rfl) rfl) rfl ?_
  refine eV rfl (xM rfl) rfl ?_
  refine eV rfl (x_len' h2 rfl rfl rfl (e := 61) (by kernel_rfl) rfl) rfl ?_
  refine eV rfl (xB rfl rfl rfl) rfl ?_
  refine eN ?_
  refine tN ?_
  refine e2_ rfl (fun h38 => ?_) (fun h38 => ?_)
  ·refine eS ?_
   refine eR rfl ?_
   refine eV rfl (xA rfl) rfl ?_
   refine eN ?_
   refine tN ?_
   refine eT ?_
   refine tR (?_)
   exact r1_ rfl rfl ⟨congrArg (AV.int .i64) (by symm; rw [he2]; exact cmpL_less (lt_no h14) (by omega) (lt_yes h38)), hst⟩
  ·refine eI ?_
   refine tN ?_
   refine eS ?_
   refine eR rfl ?_
   refine eV rfl (xA rfl) rfl ?_
   refine eN ?_
   refine tN ?_
   refine eT ?_
   exact r1_ rfl rfl ⟨congrArg (AV.int .i64) (by symm; rw [he2]; exact cmpL_end (lt_no h14) (lt_no h38)), hst⟩
theorem w_CFi {G : Cx} (hG : Plain G) {K : KP} {g : Nat} {c : List XId → List XId → Int} (hgo : isGo Try.prog g = true) {l1 l2 : List (List XId)} {v1 v2 : AV} {σ : AHeap} {L : Own} (hst : St σ K L) (h1 : HasS K 1 (RL K 2 RId) l1 v1) (h2 : HasS K 1 (RL K 2 RId) l2 v2)
  (hcall : ∀ x y u w σ L, St σ K L → HasS K 2 RId x u → HasS K 2 RId y w → EvCall Try.prog G g [u, w] σ fun v σ' => v = .int .i64 (c x y) ∧ St σ' K L) :
  EvCall Try.prog G 60 [v1, v2, .func g [] []] σ fun v σ' => v = .int .i64 (cmpL c l1 l2) ∧ St σ' K L := by
 refine eY hG Try.func60 rfl (t := ((PT.leaf.put (some (v1)) 0).put (some (v2)) 1).put (some (.func g [] [])) 2) (by rfl) ?_
 refine eS ?_
 refine eR rfl ?_
 refine eV rfl (xA rfl) rfl ?_
 refine eN ?_
 refine tN ?_
 refine eS ?_
 refine eS ?_
 refine eR rfl ?_
 refine eV rfl (xM rfl) rfl ?_
 refine eV rfl (x_len' h1 rfl rfl rfl (e := 62) (by kernel_rfl) rfl) rfl ?_
 refine eV rfl (xM rfl) rfl ?_
 refine eN ?_
 refine tN ?_
 refine eB ?_
 obtain ⟨LL1, hst, hLL1⟩ := hst.named
 refine eW [6, 7, 8, 9, 10, 13, 14, 15, 16, 17, 18, 19, 20, 21, 22, 23, 24, 25, 26, 27, 28, 29, 30, 31, 32, 33] (fun j t σ => ∃ (i : Nat), j + i = l1.length ∧ cmpL c l1 l2 = cmpL c (l1.drop i) (l2.drop i) ∧ t.get 13 = some (.int .i64 (.ofNat i)) ∧ St σ K LL1) (l1.length) ⟨0, rfl, rfl, rfl, hst⟩ ?_
 clear hst; intro j2 t σ hoff hI; obtain ⟨i, hj2, he2, hv13, hst⟩ := hI
 subst hLL1
 obtain ⟨o6, o7, o8, o9, o10, o13, o14, o15, hoff⟩ := hoff.ex8 rfl rfl
 obtain ⟨o16, o17, o18, o19, o20, o21, o22, o23, hoff⟩ := hoff.ex8 rfl rfl
 obtain ⟨o24, o25, o26, o27, o28, o29, o30, o31, hoff⟩ := hoff.ex8 rfl rfl
 obtain ⟨o32, hoff⟩ := hoff.ex1 rfl
 obtain ⟨o33, hoff⟩ := hoff.ex1 rfl
 obtain rfl := hoff.nil; clear hoff
 replace hv13 : o13 = some _ := hv13; subst hv13
 refine eS ?_
 refine eR rfl ?_
 refine eV rfl (xB rfl rfl rfl) rfl ?_
 refine eN ?_
 refine tN ?_
 refine eS ?_
 refine e2_ rfl (fun h14 => ?_) (fun h14 => ?_)
 ·refine eI ?_
  refine tN ?_
  refine eS ?_
  refine eB ?_
  refine eS ?_
  refine eR rfl ?_
  refine eV rfl (xM rfl) rfl ?_
  obtain ⟨x16, hx16, hi16⟩ := at_lt h14
  refine oI (e := 62) (m := 1) h1 hx16 rfl rfl (by kernel_rfl) (by kernel_rfl) rfl rfl (fun _ => rfl) (fun p16 vs16 hp16 hl16 hr16 => ?_)
  have hr16' := hr16; obtain ⟨v16, rfl, hk16⟩ := hr16'
  refine eV rfl (xp hst hp16 rfl (by kernel_rfl) rfl) rfl ?_
  refine eV rfl (xA rfl) rfl ?_
  refine eV rfl (xA rfl) rfl ?_
  refine eN ?_
  refine tN ?_
  refine eS ?_
  refine eS ?_
  refine eR rfl ?_
  refine eV rfl (xM rfl) rfl ?_
  refine eV rfl (xM rfl) rfl ?_
  refine eV rfl (x_len' h2 rfl rfl rfl (e := 62) (by kernel_rfl) rfl) rfl ?_
  refine eV rfl (xB rfl rfl rfl) rfl ?_
  refine eN ?_
  refine tN ?_
  refine e2_ rfl (fun h21 => ?_) (fun h21 => ?_)
  ·refine eS ?_
   refine eR rfl ?_
   refine eV rfl (xA rfl) rfl ?_
   refine eN ?_
   refine tN ?_
   refine eT ?_
   refine tR (bR (tR (lR (bR (tR (?_))))))
   exact r1_ rfl rfl ⟨congrArg (AV.int .i64) (by symm; rw [he2]; exact cmpL_more hx16 (ge_of_ge h21)), hst⟩
  ·refine eI ?_
   refine tN ?_
   refine eS ?_
   refine eR rfl ?_
   refine eV rfl (xM rfl) rfl ?_
   refine eV rfl (xM rfl) rfl ?_
   obtain ⟨x24, hx24⟩ := at_of (lt_of_ge h21)
   refine oI (e := 62) (m := 1) h2 hx24 rfl rfl (by kernel_rfl) (by kernel_rfl) rfl rfl (fun _ => rfl) (fun p24 vs24 hp24 hl24 hr24 => ?_)
   have hr24' := hr24; obtain ⟨v24, rfl, hk24⟩ := hr24'
   refine eV rfl (xp hst hp24 rfl (by kernel_rfl) rfl) rfl ?_
   refine eV rfl (xA rfl) rfl ?_
   refine eN ?_
   refine tN ?_
   refine eS ?_
   refine eR rfl ?_
   refine eV rfl (xM rfl) rfl ?_
   refine eV rfl (xM rfl) rfl ?_
   refine eV rfl (xM rfl) rfl ?_
   refine oV rfl (xC rfl rfl rfl hgo) (fun _ => rfl) (hcall _ _ _ _ _ _ hst hk16 hk24) (fun σ hst => ?_)
   refine eV rfl (xA rfl) rfl ?_
   refine eN ?_
   refine tN ?_
   refine eS ?_
   refine eR rfl ?_
   refine eV rfl (xM rfl) rfl ?_
   refine eV rfl (xB rfl rfl rfl) rfl ?_
   refine eN ?_
   refine tN ?_
   refine e2_ rfl (fun h31 => ?_) (fun h31 => ?_)
   ·refine eS ?_
    refine eR rfl ?_
    refine eV rfl (xM rfl) rfl ?_
    refine eV rfl (xA rfl) rfl ?_
    refine eN ?_
    refine tN ?_
    refine eT ?_
    refine bR (tR (lR (bR (tR (?_)))))
    exact r1_ rfl rfl ⟨congrArg (AV.int .i64) (by symm; rw [he2]; exact cmpL_stop hx16 hx24 (notB_t h31)), hst⟩
   ·refine eI ?_
    refine bN ?_
    refine tN ?_
    refine eR rfl ?_
    refine eV rfl (xB rfl rfl rfl) rfl ?_
    refine eV rfl (xM rfl) rfl ?_
    refine eN ?_
    refine lN ⟨j2 - 1, by omega, (by (iterate 50 refine OffW.put rfl ?_); exact OffW.refl _ _), i + 1, by omega, he2.trans (cmpL_step hx16 hx24 (notB_f h31)), congrArg (fun z => some (AV.int .i64 z)) (wr_succ (by have := h1.len_le; omega)), hst⟩
 ·refine eX ?_
  refine tX ?_
  refine lX ?_
  refine bX ?_
  refine tN ?_
  refine eS ?_
  refine eS ?_
  refine eR rfl ?_
  refine eV rfl (xM rfl) rfl ?_
  refine eV rfl (x_len' h1 rfl rfl rfl (e := 62) (by kernel_rfl) rfl) rfl ?_
  refine eV rfl (xM rfl) rfl ?_
  refine eV rfl (x_len' h2 rfl rfl rfl (e := 62) (by kernel_rfl) rfl) rfl ?_
  refine eV rfl (xB rfl rfl rfl) rfl ?_
  refine eN ?_
  refine tN ?_
  refine e2_ rfl (fun h38 => ?_) (fun h38 => ?_)
  ·refine eS ?_
   refine eR rfl ?_
   refine eV rfl (xA rfl) rfl ?_
   refine eN ?_
   refine tN ?_
   refine eT ?_
   refine tR (?_)
   exact r1_ rfl rfl ⟨congrArg (AV.int .i64) (by symm; rw [he2]; exact cmpL_less (lt_no h14) (by omega) (lt_yes h38)), hst⟩
  ·refine eI ?_
   refine tN ?_
   refine eS ?_
   refine eR rfl ?_
   refine eV rfl (xA rfl) rfl ?_
   refine eN ?_
   refine tN ?_
   refine eT ?_
   exact r1_ rfl rfl ⟨congrArg (AV.int .i64) (by symm; rw [he2]; exact cmpL_end (lt_no h14) (lt_no h38)), hst⟩
theorem w_CFE {G : Cx} (hG : Plain G) {K : KP} {g : Nat} {c : XEv → XEv → Int} (hgo : isGo Try.prog g = true) {l1 l2 : List (XEv)} {v1 v2 : AV} {σ : AHeap} {L : Own} (hst : St σ K L) (h1 : HasS K 5 (REv) l1 v1) (h2 : HasS K 5 (REv) l2 v2)
  (hcall : ∀ x y σ L, St σ K L → EvCall Try.prog G g [.agg (ints x.ints), .agg (ints y.ints)] σ fun v σ' => v = .int .i64 (c x y) ∧ St σ' K L) :
  EvCall Try.prog G 89 [v1, v2, .func g [] []] σ fun v σ' => v = .int .i64 (cmpL c l1 l2) ∧ St σ' K L := by
 refine eY hG Try.func89 rfl (t := ((PT.leaf.put (some (v1)) 0).put (some (v2)) 1).put (some (.func g [] [])) 2) (by rfl) ?_
 refine eS ?_
 refine eR rfl ?_
 refine eV rfl (xA rfl) rfl ?_
 refine eN ?_
 refine tN ?_
 refine eS ?_
 refine eS ?_
 refine eR rfl ?_
 refine eV rfl (xM rfl) rfl ?_
 refine eV rfl (x_len' h1 rfl rfl rfl (e := 45) (by kernel_rfl) rfl) rfl ?_
 refine eV rfl (xM rfl) rfl ?_
 refine eN ?_
 refine tN ?_
 refine eB ?_
 obtain ⟨LL1, hst, hLL1⟩ := hst.named
 refine eW [6, 7, 8, 9, 10, 13, 14, 15, 16, 17, 18, 19, 20, 21, 22, 23, 24, 25, 26, 27, 28, 29, 30, 31, 32, 33] (fun j t σ => ∃ (i : Nat), j + i = l1.length ∧ cmpL c l1 l2 = cmpL c (l1.drop i) (l2.drop i) ∧ t.get 13 = some (.int .i64 (.ofNat i)) ∧ St σ K LL1) (l1.length) ⟨0, rfl, rfl, rfl, hst⟩ ?_
 clear hst; intro j2 t σ hoff hI; obtain ⟨i, hj2, he2, hv13, hst⟩ := hI
 subst hLL1
 obtain ⟨o6, o7, o8, o9, o10, o13, o14, o15, hoff⟩ := hoff.ex8 rfl rfl
 obtain ⟨o16, o17, o18, o19, o20, o21, o22, o23, hoff⟩ := hoff.ex8 rfl rfl
 obtain ⟨o24, o25, o26, o27, o28, o29, o30, o31, hoff⟩ := hoff.ex8 rfl rfl
 obtain ⟨o32, hoff⟩ := hoff.ex1 rfl
 obtain ⟨o33, hoff⟩ := hoff.ex1 rfl
 obtain rfl := hoff.nil; clear hoff
 replace hv13 : o13 = some _ := hv13; subst hv13
 refine eS ?_
 refine eR rfl ?_
 refine eV rfl (xB rfl rfl rfl) rfl ?_
 refine eN ?_
 refine tN ?_
 refine eS ?_
 refine e2_ rfl (fun h14 => ?_) (fun h14 => ?_)
 ·refine eI ?_
  refine tN ?_
  refine eS ?_
  refine eB ?_
  refine eS ?_
  refine eR rfl ?_
  refine eV rfl (xM rfl) rfl ?_
  obtain ⟨x16, hx16, hi16⟩ := at_lt h14
  refine oI (e := 45) (m := 5) h1 hx16 rfl rfl (by kernel_rfl) (by kernel_rfl) rfl rfl (fun _ => rfl) (fun p16 vs16 hp16 hl16 hr16 => ?_)
  obtain rfl := hr16
  refine eV rfl (xw hst hp16 rfl (by kernel_rfl) rfl) rfl ?_
  refine oP hst rfl (xe (cs := [.int .i64 0, .int .i64 0, .int .i64 0, .int .i64 0, .int .i64 0]) (by kernel_rfl) (by kernel_rfl)) (fun _ => rfl) (fun σ b1 hst => ?_)
  refine eV rfl (xA rfl) rfl ?_
  refine o_set0 hst rfl (xS rfl rfl rfl (hst.get 0 rfl) (m := 5) (by kernel_rfl) rfl (Nat.le_of_ble_eq_true rfl) (lC rfl (lC rfl (lC rfl (lC rfl (lC rfl l0_))))) (cells' := [_, _, _, _, _]) rfl) rfl (fun σ hst => ?_)
  refine eN ?_
  refine tN ?_
  refine eS ?_
  refine eS ?_
  refine eR rfl ?_
  refine eV rfl (xM rfl) rfl ?_
  refine eV rfl (xM rfl) rfl ?_
  refine eV rfl (x_len' h2 rfl rfl rfl (e := 45) (by kernel_rfl) rfl) rfl ?_
  refine eV rfl (xB rfl rfl rfl) rfl ?_
  refine eN ?_
  refine tN ?_
  refine e2_ rfl (fun h21 => ?_) (fun h21 => ?_)
  ·refine eS ?_
   refine eR rfl ?_
   refine eV rfl (xA rfl) rfl ?_
   refine eN ?_
   refine tN ?_
   refine eT ?_
   refine tR (bR (tR (lR (bR (tR (?_))))))
   exact r1_ rfl rfl ⟨congrArg (AV.int .i64) (by symm; rw [he2]; exact cmpL_more hx16 (ge_of_ge h21)), hst.pop⟩
  ·refine eI ?_
   refine tN ?_
   refine eS ?_
   refine eR rfl ?_
   refine eV rfl (xM rfl) rfl ?_
   refine eV rfl (xM rfl) rfl ?_
   obtain ⟨x24, hx24⟩ := at_of (lt_of_ge h21)
   refine oI (e := 45) (m := 5) h2 hx24 rfl rfl (by kernel_rfl) (by kernel_rfl) rfl rfl (fun _ => rfl) (fun p24 vs24 hp24 hl24 hr24 => ?_)
   obtain rfl := hr24
   refine eV rfl (xw hst hp24 rfl (by kernel_rfl) rfl) rfl ?_
   refine oP hst rfl (xe (cs := [.int .i64 0, .int .i64 0, .int .i64 0, .int .i64 0, .int .i64 0]) (by kernel_rfl) (by kernel_rfl)) (fun _ => rfl) (fun σ b2 hst => ?_)
   refine o_set0 hst rfl (xS rfl rfl rfl (hst.get 0 rfl) (m := 5) (by kernel_rfl) rfl (Nat.le_of_ble_eq_true rfl) (lC rfl (lC rfl (lC rfl (lC rfl (lC rfl l0_))))) (cells' := [_, _, _, _, _]) rfl) rfl (fun σ hst => ?_)
   refine eN ?_
   refine tN ?_
   refine eS ?_
   refine eR rfl ?_
   refine eV rfl (xM rfl) rfl ?_
   refine eV rfl (xN rfl (hst.get 1 rfl) (n := 5) (vs := [_, _, _, _, _]) (by kernel_rfl) (Nat.le_of_ble_eq_true rfl) rfl) rfl ?_
   refine eV rfl (xN rfl (hst.get 0 rfl) (n := 5) (vs := [_, _, _, _, _]) (by kernel_rfl) (Nat.le_of_ble_eq_true rfl) rfl) rfl ?_
   refine oV rfl (xC rfl rfl rfl hgo) (fun _ => rfl) (hcall _ _ _ _ hst) (fun σ hst => ?_)
   refine eV rfl (xA rfl) rfl ?_
   refine eN ?_
   refine tN ?_
   refine eS ?_
   refine eR rfl ?_
   refine eV rfl (xM rfl) rfl ?_
   refine eV rfl (xB rfl rfl rfl) rfl ?_
   refine eN ?_
   refine tN ?_
   refine e2_ rfl (fun h31 => ?_) (fun h31 => ?_)
   ·refine eS ?_
    refine eR rfl ?_
    refine eV rfl (xM rfl) rfl ?_
    refine eV rfl (xA rfl) rfl ?_
    refine eN ?_
    refine tN ?_
    refine eT ?_
    refine bR (tR (lR (bR (tR (?_)))))
    exact r1_ rfl rfl ⟨congrArg (AV.int .i64) (by symm; rw [he2]; exact cmpL_stop hx16 hx24 (notB_t h31)), hst.pop.pop⟩
   ·refine eI ?_
    refine bN ?_
    refine tN ?_
    refine eR rfl ?_
    refine eV rfl (xB rfl rfl rfl) rfl ?_
    refine eV rfl (xM rfl) rfl ?_
    refine eN ?_
    have hst := hst.pop
    have hst := hst.pop
    refine lN ⟨j2 - 1, by omega, (by (iterate 50 refine OffW.put rfl ?_); exact OffW.refl _ _), i + 1, by omega, he2.trans (cmpL_step hx16 hx24 (notB_f h31)), congrArg (fun z => some (AV.int .i64 z)) (wr_succ (by have := h1.len_le; omega)), hst⟩
 ·refine eX ?_
  refine tX ?_
  refine lX ?_
  refine bX ?_
  refine tN ?_
  refine eS ?_
  refine eS ?_
  refine eR rfl ?_
  refine eV rfl (xM rfl) rfl ?_
  refine eV rfl (x_len' h1 rfl rfl rfl (e := 45) (by kernel_rfl) rfl) rfl ?_
  refine eV rfl (xM rfl) rfl ?_
  refine eV rfl (x_len' h2 rfl rfl rfl (e := 45) (by kernel_rfl) rfl) rfl ?_
  refine eV rfl (xB rfl rfl rfl) rfl ?_
  refine eN ?_
  refine tN ?_
  refine e2_ rfl (fun h38 => ?_) (fun h38 => ?_)
  ·refine eS ?_
   refine eR rfl ?_
   refine eV rfl (xA rfl) rfl ?_
   refine eN ?_
   refine tN ?_
   refine eT ?_
   refine tR (?_)
   exact r1_ rfl rfl ⟨congrArg (AV.int .i64) (by symm; rw [he2]; exact cmpL_less (lt_no h14) (by omega) (lt_yes h38)), hst⟩
  ·refine eI ?_
   refine tN ?_
   refine eS ?_
   refine eR rfl ?_
   refine eV rfl (xA rfl) rfl ?_
   refine eN ?_
   refine tN ?_
   refine eT ?_
   exact r1_ rfl rfl ⟨congrArg (AV.int .i64) (by symm; rw [he2]; exact cmpL_end (lt_no h14) (lt_no h38)), hst⟩
theorem w_CFI {G : Cx} (hG : Plain G) {K : KP} {g : Nat} {c : XId → XId → Int} (hgo : isGo Try.prog g = true) {l1 l2 : List (XId)} {v1 v2 : AV} {σ : AHeap} {L : Own} (hst : St σ K L) (h1 : HasS K 2 (RId) l1 v1) (h2 : HasS K 2 (RId) l2 v2)
  (hcall : ∀ x y σ L, St σ K L → EvCall Try.prog G g [.agg (ints x.ints), .agg (ints y.ints)] σ fun v σ' => v = .int .i64 (c x y) ∧ St σ' K L) :
  EvCall Try.prog G 92 [v1, v2, .func g [] []] σ fun v σ' => v = .int .i64 (cmpL c l1 l2) ∧ St σ' K L := by
 refine eY hG Try.func92 rfl (t := ((PT.leaf.put (some (v1)) 0).put (some (v2)) 1).put (some (.func g [] [])) 2) (by rfl) ?_
 refine eS ?_
 refine eR rfl ?_
 refine eV rfl (xA rfl) rfl ?_
 refine eN ?_
 refine tN ?_
 refine eS ?_
 refine eS ?_
 refine eR rfl ?_
 refine eV rfl (xM rfl) rfl ?_
 refine eV rfl (x_len' h1 rfl rfl rfl (e := 47) (by kernel_rfl) rfl) rfl ?_
 refine eV rfl (xM rfl) rfl ?_
 refine eN ?_
 refine tN ?_
 refine eB ?_
 obtain ⟨LL1, hst, hLL1⟩ := hst.named
 refine eW [6, 7, 8, 9, 10, 13, 14, 15, 16, 17, 18, 19, 20, 21, 22, 23, 24, 25, 26, 27, 28, 29, 30, 31, 32, 33] (fun j t σ => ∃ (i : Nat), j + i = l1.length ∧ cmpL c l1 l2 = cmpL c (l1.drop i) (l2.drop i) ∧ t.get 13 = some (.int .i64 (.ofNat i)) ∧ St σ K LL1) (l1.length) ⟨0, rfl, rfl, rfl, hst⟩ ?_
 clear hst; intro j2 t σ hoff hI; obtain ⟨i, hj2, he2, hv13, hst⟩ := hI
 subst hLL1
 obtain ⟨o6, o7, o8, o9, o10, o13, o14, o15, hoff⟩ := hoff.ex8 rfl rfl
 obtain ⟨o16, o17, o18, o19, o20, o21, o22, o23, hoff⟩ := hoff.ex8 rfl rfl
 obtain ⟨o24, o25, o26, o27, o28, o29, o30, o31, hoff⟩ := hoff.ex8 rfl rfl
 obtain ⟨o32, hoff⟩ := hoff.ex1 rfl
 obtain ⟨o33, hoff⟩ := hoff.ex1 rfl
 obtain rfl := hoff.nil; clear hoff
 replace hv13 : o13 = some _ := hv13; subst hv13
 refine eS ?_
 refine eR rfl ?_
 refine eV rfl (xB rfl rfl rfl) rfl ?_
 refine eN ?_
 refine tN ?_
 refine eS ?_
 refine e2_ rfl (fun h14 => ?_) (fun h14 => ?_)
 ·refine eI ?_
  refine tN ?_
  refine eS ?_
  refine eB ?_
  refine eS ?_
  refine eR rfl ?_
  refine eV rfl (xM rfl) rfl ?_
  obtain ⟨x16, hx16, hi16⟩ := at_lt h14
  refine oI (e := 47) (m := 2) h1 hx16 rfl rfl (by kernel_rfl) (by kernel_rfl) rfl rfl (fun _ => rfl) (fun p16 vs16 hp16 hl16 hr16 => ?_)
  obtain rfl := hr16
  refine eV rfl (xw hst hp16 rfl (by kernel_rfl) rfl) rfl ?_
  refine oP hst rfl (xe (cs := [.int .i64 0, .int .i64 0]) (by kernel_rfl) (by kernel_rfl)) (fun _ => rfl) (fun σ b1 hst => ?_)
  refine eV rfl (xA rfl) rfl ?_
  refine o_set0 hst rfl (xS rfl rfl rfl (hst.get 0 rfl) (m := 2) (by kernel_rfl) rfl (Nat.le_of_ble_eq_true rfl) (lC rfl (lC rfl l0_)) (cells' := [_, _]) rfl) rfl (fun σ hst => ?_)
  refine eN ?_
  refine tN ?_
  refine eS ?_
  refine eS ?_
  refine eR rfl ?_
  refine eV rfl (xM rfl) rfl ?_
  refine eV rfl (xM rfl) rfl ?_
  refine eV rfl (x_len' h2 rfl rfl rfl (e := 47) (by kernel_rfl) rfl) rfl ?_
  refine eV rfl (xB rfl rfl rfl) rfl ?_
  refine eN ?_
  refine tN ?_
  refine e2_ rfl (fun h21 => ?_) (fun h21 => ?_)
  ·refine eS ?_
   refine eR rfl ?_
   refine eV rfl (xA rfl) rfl ?_
   refine eN ?_
   refine tN ?_
   refine eT ?_
   refine tR (bR (tR (lR (bR (tR (?_))))))
   exact r1_ rfl rfl ⟨congrArg (AV.int .i64) (by symm; rw [he2]; exact cmpL_more hx16 (ge_of_ge h21)), hst.pop⟩
  ·refine eI ?_
   refine tN ?_
   refine eS ?_
   refine eR rfl ?_
   refine eV rfl (xM rfl) rfl ?_
   refine eV rfl (xM rfl) rfl ?_
   obtain ⟨x24, hx24⟩ := at_of (lt_of_ge h21)
   refine oI (e := 47) (m := 2) h2 hx24 rfl rfl (by kernel_rfl) (by kernel_rfl) rfl rfl (fun _ => rfl) (fun p24 vs24 hp24 hl24 hr24 => ?_)
   obtain rfl := hr24
   refine eV rfl (xw hst hp24 rfl (by kernel_rfl) rfl) rfl ?_
   refine oP hst rfl (xe (cs := [.int .i64 0, .int .i64 0]) (by kernel_rfl) (by kernel_rfl)) (fun _ => rfl) (fun σ b2 hst => ?_)
   refine o_set0 hst rfl (xS rfl rfl rfl (hst.get 0 rfl) (m := 2) (by kernel_rfl) rfl (Nat.le_of_ble_eq_true rfl) (lC rfl (lC rfl l0_)) (cells' := [_, _]) rfl) rfl (fun σ hst => ?_)
   refine eN ?_
   refine tN ?_
   refine eS ?_
   refine eR rfl ?_
   refine eV rfl (xM rfl) rfl ?_
   refine eV rfl (xN rfl (hst.get 1 rfl) (n := 2) (vs := [_, _]) (by kernel_rfl) (Nat.le_of_ble_eq_true rfl) rfl) rfl ?_
   refine eV rfl (xN rfl (hst.get 0 rfl) (n := 2) (vs := [_, _]) (by kernel_rfl) (Nat.le_of_ble_eq_true rfl) rfl) rfl ?_
   refine oV rfl (xC rfl rfl rfl hgo) (fun _ => rfl) (hcall _ _ _ _ hst) (fun σ hst => ?_)
   refine eV rfl (xA rfl) rfl ?_
   refine eN ?_
   refine tN ?_
   refine eS ?_
   refine eR rfl ?_
   refine eV rfl (xM rfl) rfl ?_
   refine eV rfl (xB rfl rfl rfl) rfl ?_
   refine eN ?_
   refine tN ?_
   refine e2_ rfl (fun h31 => ?_) (fun h31 => ?_)
   ·refine eS ?_
    refine eR rfl ?_
    refine eV rfl (xM rfl) rfl ?_
    refine eV rfl (xA rfl) rfl ?_
    refine eN ?_
    refine tN ?_
    refine eT ?_
    refine bR (tR (lR (bR (tR (?_)))))
    exact r1_ rfl rfl ⟨congrArg (AV.int .i64) (by symm; rw [he2]; exact cmpL_stop hx16 hx24 (notB_t h31)), hst.pop.pop⟩
   ·refine eI ?_
    refine bN ?_
    refine tN ?_
    refine eR rfl ?_
    refine eV rfl (xB rfl rfl rfl) rfl ?_
    refine eV rfl (xM rfl) rfl ?_
    refine eN ?_
    have hst := hst.pop
    have hst := hst.pop
    refine lN ⟨j2 - 1, by omega, (by (iterate 50 refine OffW.put rfl ?_); exact OffW.refl _ _), i + 1, by omega, he2.trans (cmpL_step hx16 hx24 (notB_f h31)), congrArg (fun z => some (AV.int .i64 z)) (wr_succ (by have := h1.len_le; omega)), hst⟩
 ·refine eX ?_
  refine tX ?_
  refine lX ?_
  refine bX ?_
  refine tN ?_
  refine eS ?_
  refine eS ?_
  refine eR rfl ?_
  refine eV rfl (xM rfl) rfl ?_
  refine eV rfl (x_len' h1 rfl rfl rfl (e := 47) (by kernel_rfl) rfl) rfl ?_
  refine eV rfl (xM rfl) rfl ?_
  refine eV rfl (x_len' h2 rfl rfl rfl (e := 47) (by kernel_rfl) rfl) rfl ?_
  refine eV rfl (xB rfl rfl rfl) rfl ?_
  refine eN ?_
  refine tN ?_
  refine e2_ rfl (fun h38 => ?_) (fun h38 => ?_)
  ·refine eS ?_
   refine eR rfl ?_
   refine eV rfl (xA rfl) rfl ?_
   refine eN ?_
   refine tN ?_
   refine eT ?_
   refine tR (?_)
   exact r1_ rfl rfl ⟨congrArg (AV.int .i64) (by symm; rw [he2]; exact cmpL_less (lt_no h14) (by omega) (lt_yes h38)), hst⟩
  ·refine eI ?_
   refine tN ?_
   refine eS ?_
   refine eR rfl ?_
   refine eV rfl (xA rfl) rfl ?_
   refine eN ?_
   refine tN ?_
   refine eT ?_
   exact r1_ rfl rfl ⟨congrArg (AV.int .i64) (by symm; rw [he2]; exact cmpL_end (lt_no h14) (lt_no h38)), hst⟩
theorem w_Cmp64 {G : Cx} (hG : Plain G) {K : KP} {l1 l2 : List (Int)} {v1 v2 : AV} {σ : AHeap} {L : Own} (hst : St σ K L) (h1 : HasS K 1 (RInt) l1 v1) (h2 : HasS K 1 (RInt) l2 v2) :
  EvCall Try.prog G 64 [v1, v2] σ fun v σ' => v = .int .i64 (cmpL cmpZ l1 l2) ∧ St σ' K L := by
 refine eY hG Try.func64 rfl (t := (PT.leaf.put (some (v1)) 0).put (some (v2)) 1) (by rfl) ?_
 refine eS ?_
 refine eR rfl ?_
 refine eV rfl (xA rfl) rfl ?_
 refine eN ?_
 refine tN ?_
 refine eS ?_
 refine eS ?_
 refine eR rfl ?_
 refine eV rfl (xM rfl) rfl ?_
 refine eV rfl (x_len' h1 rfl rfl rfl (e := 2) (by kernel_rfl) rfl) rfl ?_
 refine eV rfl (xM rfl) rfl ?_
 refine eN ?_
 refine tN ?_
 refine eB ?_
 obtain ⟨LL1, hst, hLL1⟩ := hst.named
 refine eW [4, 5, 6, 7, 8, 11, 12, 13, 14, 15, 16, 17, 18, 19, 20, 21, 22, 23, 24, 25, 26, 27, 28, 29, 30] (fun j t σ => ∃ (i : Nat), j + i = l1.length ∧ cmpL cmpZ l1 l2 = cmpL cmpZ (l1.drop i) (l2.drop i) ∧ t.get 11 = some (.int .i64 (.ofNat i)) ∧ St σ K LL1) (l1.length) ⟨0, rfl, rfl, rfl, hst⟩ ?_
 clear hst; intro j2 t σ hoff hI; obtain ⟨i, hj2, he2, hv11, hst⟩ := hI
 subst hLL1
 obtain ⟨o4, o5, o6, o7, o8, o11, o12, o13, hoff⟩ := hoff.ex8 rfl rfl
 obtain ⟨o14, o15, o16, o17, o18, o19, o20, o21, hoff⟩ := hoff.ex8 rfl rfl
 obtain ⟨o22, o23, o24, o25, o26, o27, o28, o29, hoff⟩ := hoff.ex8 rfl rfl
 obtain ⟨o30, hoff⟩ := hoff.ex1 rfl
 obtain rfl := hoff.nil; clear hoff
 replace hv11 : o11 = some _ := hv11; subst hv11
 refine eS ?_
 refine eR rfl ?_
 refine eV rfl (xB rfl rfl rfl) rfl ?_
 refine eN ?_
 refine tN ?_
 refine eS ?_
 refine e2_ rfl (fun h12 => ?_) (fun h12 => ?_)
 ·refine eI ?_
  refine tN ?_
  refine eS ?_
  refine eB ?_
  refine eS ?_
  refine eR rfl ?_
  refine eV rfl (xM rfl) rfl ?_
  obtain ⟨x14, hx14, hi14⟩ := at_lt h12
  refine oI (e := 2) (m := 1) h1 hx14 rfl rfl (by kernel_rfl) (by kernel_rfl) rfl rfl (fun _ => rfl) (fun p14 vs14 hp14 hl14 hr14 => ?_)
  obtain rfl := hr14
  refine eV rfl (xp hst hp14 rfl (by kernel_rfl) rfl) rfl ?_
  refine eV rfl (xA rfl) rfl ?_
  refine eV rfl (xA rfl) rfl ?_
  refine eN ?_
  refine tN ?_
  refine eS ?_
  refine eS ?_
  refine eR rfl ?_
  refine eV rfl (xM rfl) rfl ?_
  refine eV rfl (xM rfl) rfl ?_
  refine eV rfl (x_len' h2 rfl rfl rfl (e := 2) (by kernel_rfl) rfl) rfl ?_
  refine eV rfl (xB rfl rfl rfl) rfl ?_
  refine eN ?_
  refine tN ?_
  refine e2_ rfl (fun h19 => ?_) (fun h19 => ?_)
  ·refine eS ?_
   refine eR rfl ?_
   refine eV rfl (xA rfl) rfl ?_
   refine eN ?_
   refine tN ?_
   refine eT ?_
   refine tR (bR (tR (lR (bR (tR (?_))))))
   exact r1_ rfl rfl ⟨congrArg (AV.int .i64) (by symm; rw [he2]; exact cmpL_more hx14 (ge_of_ge h19)), hst⟩
  ·refine eI ?_
   refine tN ?_
   refine eS ?_
   refine eR rfl ?_
   refine eV rfl (xM rfl) rfl ?_
   refine eV rfl (xM rfl) rfl ?_
   obtain ⟨x22, hx22⟩ := at_of (lt_of_ge h19)
   refine oI (e := 2) (m := 1) h2 hx22 rfl rfl (by kernel_rfl) (by kernel_rfl) rfl rfl (fun _ => rfl) (fun p22 vs22 hp22 hl22 hr22 => ?_)
   obtain rfl := hr22
   refine eV rfl (xp hst hp22 rfl (by kernel_rfl) rfl) rfl ?_
   refine eV rfl (xA rfl) rfl ?_
   refine eN ?_
   refine tN ?_
   refine eS ?_
   refine eR rfl ?_
   refine eV rfl (xM rfl) rfl ?_
   refine eV rfl (xM rfl) rfl ?_
   refine oV rfl (xC rfl rfl rfl (by kernel_rfl)) (fun _ => rfl) (w_cmp_int64 hG _ _ hst) (fun σ hst => ?_)
   refine eV rfl (xA rfl) rfl ?_
   refine eN ?_
   refine tN ?_
   refine eS ?_
   refine eR rfl ?_
   refine eV rfl (xM rfl) rfl ?_
   refine eV rfl (xB rfl rfl rfl) rfl ?_
   refine eN ?_
   refine tN ?_
   refine e2_ rfl (fun h28 => ?_) (fun h28 => ?_)
   ·refine eS ?_
    refine eR rfl ?_
    refine eV rfl (xM rfl) rfl ?_
    refine eV rfl (xA rfl) rfl ?_
    refine eN ?_
    refine tN ?_
    refine eT ?_
    refine bR (tR (lR (bR (tR (?_)))))
    exact r1_ rfl rfl ⟨congrArg (AV.int .i64) (by symm; rw [he2]; exact cmpL_stop hx14 hx22 (notB_t h28)), hst⟩
   ·refine eI ?_
    refine bN ?_
    refine tN ?_
    refine eR rfl ?_
    refine eV rfl (xB rfl rfl rfl) rfl ?_
    refine eV rfl (xM rfl) rfl ?_
    refine eN ?_
    refine lN ⟨j2 - 1, by omega, (by (iterate 48 refine OffW.put rfl ?_); exact OffW.refl _ _), i + 1, by omega, he2.trans (cmpL_step hx14 hx22 (notB_f h28)), congrArg (fun z => some (AV.int .i64 z)) (wr_succ (by have := h1.len_le; omega)), hst⟩
 ·refine eX ?_
  refine tX ?_
  refine lX ?_
  refine bX ?_
  refine tN ?_
  refine eS ?_
  refine eS ?_
  refine eR rfl ?_
  refine eV rfl (xM rfl) rfl ?_
  refine eV rfl (x_len' h1 rfl rfl rfl (e := 2) (by kernel_rfl) rfl) rfl ?_
  refine eV rfl (xM rfl) rfl ?_
  refine eV rfl (x_len' h2 rfl rfl rfl (e := 2) (by kernel_rfl) rfl) rfl ?_
  refine eV rfl (xB rfl rfl rfl) rfl ?_
  refine eN ?_
  refine tN ?_
  refine e2_ rfl (fun h35 => ?_) (fun h35 => ?_)
  ·refine eS ?_
   refine eR rfl ?_
   refine eV rfl (xA rfl) rfl ?_
   refine eN ?_
   refine tN ?_
   refine eT ?_
   refine tR (?_)
   exact r1_ rfl rfl ⟨congrArg (AV.int .i64) (by symm; rw [he2]; exact cmpL_less (lt_no h12) (by omega) (lt_yes h35)), hst⟩
  ·refine eI ?_
   refine tN ?_
   refine eS ?_
   refine eR rfl ?_
   refine eV rfl (xA rfl) rfl ?_
   refine eN ?_
   refine tN ?_
   refine eT ?_
   exact r1_ rfl rfl ⟨congrArg (AV.int .i64) (by symm; rw [he2]; exact cmpL_end (lt_no h12) (lt_no h35)), hst⟩
theorem w_compareLen {G : Cx} (hG : Plain G) {K : KP} {l1 l2 : List XEv} {v1 v2 : AV} {σ : AHeap} {L : Own} (hst : St σ K L) (h1 : HasS K 5 REv l1 v1) (h2 : HasS K 5 REv l2 v2) : EvCall Try.prog G 56 [v1, v2] σ fun v σ' => v = .int .i64 (cmpLen l1 l2) ∧ St σ' K L := by
 refine eY hG Try.func56 rfl (t := (PT.leaf.put (some (v1)) 0).put (some (v2)) 1) (by rfl) ?_
 refine eS ?_
 refine eR rfl ?_
 refine eV rfl (xA rfl) rfl ?_
 refine eN ?_
 refine tN ?_
 refine eS ?_
 refine eR rfl ?_
 refine eV rfl (xM rfl) rfl ?_
 refine eV rfl (x_len' h1 rfl rfl rfl (e := 45) (by kernel_rfl) rfl) rfl ?_
 refine eV rfl (xM rfl) rfl ?_
 refine eV rfl (x_len' h2 rfl rfl rfl (e := 45) (by kernel_rfl) rfl) rfl ?_
 refine oV rfl (xC rfl rfl rfl (by kernel_rfl)) (fun _ => rfl) (w_cmp_int hG _ _ hst) (fun σ hst => ?_)
 refine eV rfl (xA rfl) rfl ?_
 refine eN ?_
 refine tN ?_
 refine eT ?_
 exact r1_ rfl rfl ⟨rfl, hst⟩
theorem w_compareEvents {G : Cx} (hG : Plain G) {K : KP} {l1 l2 : List XEv} {v1 v2 : AV} {σ : AHeap} {L : Own} (hst : St σ K L) (h1 : HasS K 5 REv l1 v1) (h2 : HasS K 5 REv l2 v2) : EvCall Try.prog G 58 [v1, v2] σ fun v σ' => v = .int .i64 (cmpL cmpEv l1 l2) ∧ St σ' K L := by
 refine eY hG Try.func58 rfl (t := (PT.leaf.put (some (v1)) 0).put (some (v2)) 1) (by rfl) ?_
 refine eS ?_
 refine eR rfl ?_
 refine eV rfl (xA rfl) rfl ?_
 refine eN ?_
 refine tN ?_
 refine eS ?_
 refine eR rfl ?_
 refine eV rfl (xM rfl) rfl ?_
 refine eV rfl (xM rfl) rfl ?_
 refine oV rfl (xC rfl rfl rfl (by kernel_rfl)) (fun _ => rfl) (w_CFE hG (g := 90) (c := cmpEv) (by kernel_rfl) hst h1 h2 (fun _ _ _ _ hst => w_compareEvent hG _ _ hst)) (fun σ hst => ?_)
 refine eV rfl (xA rfl) rfl ?_
 refine eN ?_
 refine tN ?_
 refine eT ?_
 exact r1_ rfl rfl ⟨rfl, hst⟩
theorem w_91 {G : Cx} (hG : Plain G) {K : KP} {l1 l2 : List XId} {v1 v2 p q : AV} (h1 : HasS K 2 RId l1 v1) (h2 : HasS K 2 RId l2 v2) (hp1 : PtsTo K p [v1]) (hp2 : PtsTo K q [v2]) {σ : AHeap} {L : Own} (hst : St σ K L) : EvCall Try.prog G 91 [p, q] σ fun v σ' => v = .int .i64 (cmpL cmpId l1 l2) ∧ St σ' K L := by
 refine eY hG Try.func91 rfl (t := (PT.leaf.put (some (p)) 0).put (some (q)) 1) (by rfl) ?_
 refine eS ?_
 refine eR rfl ?_
 refine eV rfl (xA rfl) rfl ?_
 refine eN ?_
 refine tN ?_
 refine eS ?_
 refine eR rfl ?_
 refine eV rfl (xp hst hp1 rfl (by kernel_rfl) rfl) rfl ?_
 refine eV rfl (xp hst hp2 rfl (by kernel_rfl) rfl) rfl ?_
 refine oV rfl (xC rfl rfl rfl (by kernel_rfl)) (fun _ => rfl) (w_CFI hG (g := 93) (c := cmpId) (by kernel_rfl) hst h1 h2 (fun _ _ _ _ hst => w_compareId hG _ _ hst)) (fun σ hst => ?_)
 refine eV rfl (xA rfl) rfl ?_
 refine eN ?_
 refine tN ?_
 refine eT ?_
 exact r1_ rfl rfl ⟨rfl, hst⟩
theorem rf_91 {G : Cx} (hG : Plain G) {K : KP} {b1 b2 e1 e2 : Nat} {v1 v2 : AV} (hb1 : K b1 (.row [v1] e1 false)) (hb2 : K b2 (.row [v2] e2 false)) {l1 l2 : List XId} (h1 : HasS K 2 RId l1 v1) (h2 : HasS K 2 RId l2 v2) : RFun Try.prog G K (cmpL cmpId l1 l2) [.func 91 [] [.ptr b1 0, .ptr b2 0]] := ⟨91, _, rfl, by kernel_rfl, fun σ L hst => w_91 hG h1 h2 (pts_row hb1) (pts_row hb2) hst⟩
theorem w_compareIds {G : Cx} (hG : Plain G) {K : KP} {l1 l2 : List XId} {v1 v2 : AV} {σ : AHeap} {L : Own} (hst : St σ K L) (h1 : HasS K 2 RId l1 v1) (h2 : HasS K 2 RId l2 v2) : EvCall Try.prog G 61 [v1, v2] σ fun v σ' => v = .int .i64 (cmpIds l1 l2) ∧ St σ' K L := by
 refine eY hG Try.func61 rfl (t := (PT.leaf.put (some (v1)) 0).put (some (v2)) 1) (by rfl) ?_
 refine eS ?_
 refine eR rfl ?_
 refine oP hst rfl (xo_ rfl h1.leaf.1) (fun _ => rfl) (fun σ b1 hst => ?_)
 refine oP hst rfl (xo_ rfl h2.leaf.1) (fun _ => rfl) (fun σ b2 hst => ?_)
 refine eV rfl (xA rfl) rfl ?_
 refine eN ?_
 refine tN ?_
 refine eS ?_
 refine eR rfl ?_
 refine eV rfl (x1_ rfl (hst.get 1 rfl) (by kernel_rfl) rfl) rfl ?_
 refine eV rfl (x_len' h1 rfl rfl rfl (e := 47) (by kernel_rfl) rfl) rfl ?_
 refine eV rfl (x1_ rfl (hst.get 0 rfl) (by kernel_rfl) rfl) rfl ?_
 refine eV rfl (x_len' h2 rfl rfl rfl (e := 47) (by kernel_rfl) rfl) rfl ?_
 refine oC rfl (xC rfl rfl rfl (by kernel_rfl)) (fun _ => rfl) (w_of_int hG _ _ hst) ?_
 rintro _ σ ⟨b3, b4, rfl, hst⟩
 refine eV rfl (xU rfl rfl) rfl ?_
 refine o_mk hst rfl (x_buildS (e := 87) (m := 1) (z := [.nilFunc]) (cs := [.func 87 [] [.ptr b3 0, .ptr b4 0], .func 91 [] [.ptr b1 0, .ptr b2 0]]) (by kernel_rfl) (by kernel_rfl) (by kernel_rfl) (by kernel_rfl) (by rfl)) (fun _ => rfl) (fun σ b5 hst => ?_)
 have hq := hst.keeps (M := [_, _, _, _, _])
 refine oV rfl (xC rfl rfl rfl (by kernel_rfl)) (fun _ => rfl) (call_keeps (w_decided hG hq (RFuns.slice (RFuns.cons (rf_87 hG (KP.adds_get 2 rfl) (KP.adds_get 1 rfl)) (RFuns.cons (rf_91 hG (KP.adds_get 4 rfl) (KP.adds_get 3 rfl) (h1.mono (KP.le_adds _ _) fun _ _ h => h) (h2.mono (KP.le_adds _ _) fun _ _ h => h)) RFuns.nil)) (KP.adds_get 0 rfl) rfl (Nat.le_refl _) (by decide)))) (fun σ hst => ?_)
 clear hq
 refine eV rfl (xA rfl) rfl ?_
 refine eN ?_
 refine tN ?_
 refine eT ?_
 exact r1_ rfl rfl ⟨rfl, hst⟩
end Go.Ev

namespace Go.Ev
variable [Env]
open Go.Proofs
set_option maxRecDepth 4000
set_option maxHeartbeats 8000000

theorem w_54 {G : Cx} (hG : Plain G) {K : KP} {g1 g2 : XG} {a1 b1 c1 d1 a2 b2 c2 d2 : AV} (h1 : HasG K g1 a1 b1 c1 d1) (h2 : HasG K g2 a2 b2 c2 d2) {p q : AV} (hp1 : PtsTo K p [a1, b1, c1, d1]) (hp2 : PtsTo K q [a2, b2, c2, d2]) {σ : AHeap} {L : Own} (hst : St σ K L) : EvCall Try.prog G 54 [p, q] σ fun v σ' => v = .int .i64 (cmpL cmpLen g1.threads g2.threads) ∧ St σ' K L := by
 have h1' := h1; obtain ⟨hi1, ht1, hf1, ho1⟩ := h1'
 have h2' := h2; obtain ⟨hi2, ht2, hf2, ho2⟩ := h2'
 refine eY hG Try.func54 rfl (t := (PT.leaf.put (some (p)) 0).put (some (q)) 1) (by rfl) ?_
 refine eS ?_
 refine eR rfl ?_
 refine eV rfl (xA rfl) rfl ?_
 refine eN ?_
 refine tN ?_
 refine eS ?_
 refine eR rfl ?_
 refine o_pfield hp1 rfl rfl rfl (k := 1) (by kernel_rfl) (Nat.le_of_ble_eq_true rfl) (fun _ => rfl) (fun p3 hp3 => ?_)
 refine eV rfl (xp hst hp3 rfl (by kernel_rfl) rfl) rfl ?_
 refine o_pfield hp2 rfl rfl rfl (k := 1) (by kernel_rfl) (Nat.le_of_ble_eq_true rfl) (fun _ => rfl) (fun p5 hp5 => ?_)
 refine eV rfl (xp hst hp5 rfl (by kernel_rfl) rfl) rfl ?_
 refine oV rfl (xC rfl rfl rfl (by kernel_rfl)) (fun _ => rfl) (w_CFe hG (g := 56) (c := cmpLen) (by kernel_rfl) hst ht1 ht2 (fun _ _ _ _ _ _ hst hx hy => w_compareLen hG hst hx hy)) (fun σ hst => ?_)
 refine eV rfl (xA rfl) rfl ?_
 refine eN ?_
 refine tN ?_
 refine eT ?_
 exact r1_ rfl rfl ⟨rfl, hst⟩
theorem rf_54 {G : Cx} (hG : Plain G) {K : KP} {x1 x2 e1 e2 : Nat} {g1 g2 : XG} {a1 b1 c1 d1 a2 b2 c2 d2 : AV} (hb1 : K x1 (.row [a1, b1, c1, d1] e1 false)) (hb2 : K x2 (.row [a2, b2, c2, d2] e2 false)) (h1 : HasG K g1 a1 b1 c1 d1) (h2 : HasG K g2 a2 b2 c2 d2) : RFun Try.prog G K (cmpL cmpLen g1.threads g2.threads) [.func 54 [] [.ptr x1 0, .ptr x2 0]] := ⟨54, _, rfl, by kernel_rfl, fun σ L hst => w_54 hG h1 h2 (pts_row hb1) (pts_row hb2) hst⟩
theorem w_57 {G : Cx} (hG : Plain G) {K : KP} {g1 g2 : XG} {a1 b1 c1 d1 a2 b2 c2 d2 : AV} (h1 : HasG K g1 a1 b1 c1 d1) (h2 : HasG K g2 a2 b2 c2 d2) {p q : AV} (hp1 : PtsTo K p [a1, b1, c1, d1]) (hp2 : PtsTo K q [a2, b2, c2, d2]) {σ : AHeap} {L : Own} (hst : St σ K L) : EvCall Try.prog G 57 [p, q] σ fun v σ' => v = .int .i64 (cmpL (cmpL cmpEv) g1.threads g2.threads) ∧ St σ' K L := by
 have h1' := h1; obtain ⟨hi1, ht1, hf1, ho1⟩ := h1'
 have h2' := h2; obtain ⟨hi2, ht2, hf2, ho2⟩ := h2'
 refine eY hG Try.func57 rfl (t := (PT.leaf.put (some (p)) 0).put (some (q)) 1) (by rfl) ?_
 refine eS ?_
 refine eR rfl ?_
 refine eV rfl (xA rfl) rfl ?_
 refine eN ?_
 refine tN ?_
 refine eS ?_
 refine eR rfl ?_
 refine o_pfield hp1 rfl rfl rfl (k := 1) (by kernel_rfl) (Nat.le_of_ble_eq_true rfl) (fun _ => rfl) (fun p3 hp3 => ?_)
 refine eV rfl (xp hst hp3 rfl (by kernel_rfl) rfl) rfl ?_
 refine o_pfield hp2 rfl rfl rfl (k := 1) (by kernel_rfl) (Nat.le_of_ble_eq_true rfl) (fun _ => rfl) (fun p5 hp5 => ?_)
 refine eV rfl (xp hst hp5 rfl (by kernel_rfl) rfl) rfl ?_
 refine oV rfl (xC rfl rfl rfl (by kernel_rfl)) (fun _ => rfl) (w_CFe hG (g := 58) (c := cmpL cmpEv) (by kernel_rfl) hst ht1 ht2 (fun _ _ _ _ _ _ hst hx hy => w_compareEvents hG hst hx hy)) (fun σ hst => ?_)
 refine eV rfl (xA rfl) rfl ?_
 refine eN ?_
 refine tN ?_
 refine eT ?_
 exact r1_ rfl rfl ⟨rfl, hst⟩
theorem rf_57 {G : Cx} (hG : Plain G) {K : KP} {x1 x2 e1 e2 : Nat} {g1 g2 : XG} {a1 b1 c1 d1 a2 b2 c2 d2 : AV} (hb1 : K x1 (.row [a1, b1, c1, d1] e1 false)) (hb2 : K x2 (.row [a2, b2, c2, d2] e2 false)) (h1 : HasG K g1 a1 b1 c1 d1) (h2 : HasG K g2 a2 b2 c2 d2) : RFun Try.prog G K (cmpL (cmpL cmpEv) g1.threads g2.threads) [.func 57 [] [.ptr x1 0, .ptr x2 0]] := ⟨57, _, rfl, by kernel_rfl, fun σ L hst => w_57 hG h1 h2 (pts_row hb1) (pts_row hb2) hst⟩
theorem w_59 {G : Cx} (hG : Plain G) {K : KP} {g1 g2 : XG} {a1 b1 c1 d1 a2 b2 c2 d2 : AV} (h1 : HasG K g1 a1 b1 c1 d1) (h2 : HasG K g2 a2 b2 c2 d2) {p q : AV} (hp1 : PtsTo K p [a1, b1, c1, d1]) (hp2 : PtsTo K q [a2, b2, c2, d2]) {σ : AHeap} {L : Own} (hst : St σ K L) : EvCall Try.prog G 59 [p, q] σ fun v σ' => v = .int .i64 (cmpL cmpIds g1.from_ g2.from_) ∧ St σ' K L := by
 have h1' := h1; obtain ⟨hi1, ht1, hf1, ho1⟩ := h1'
 have h2' := h2; obtain ⟨hi2, ht2, hf2, ho2⟩ := h2'
 refine eY hG Try.func59 rfl (t := (PT.leaf.put (some (p)) 0).put (some (q)) 1) (by rfl) ?_
 refine eS ?_
 refine eR rfl ?_
 refine eV rfl (xA rfl) rfl ?_
 refine eN ?_
 refine tN ?_
 refine eS ?_
 refine eR rfl ?_
 refine o_pfield hp1 rfl rfl rfl (k := 2) (by kernel_rfl) (Nat.le_of_ble_eq_true rfl) (fun _ => rfl) (fun p3 hp3 => ?_)
 refine eV rfl (xp hst hp3 rfl (by kernel_rfl) rfl) rfl ?_
 refine o_pfield hp2 rfl rfl rfl (k := 2) (by kernel_rfl) (Nat.le_of_ble_eq_true rfl) (fun _ => rfl) (fun p5 hp5 => ?_)
 refine eV rfl (xp hst hp5 rfl (by kernel_rfl) rfl) rfl ?_
 refine oV rfl (xC rfl rfl rfl (by kernel_rfl)) (fun _ => rfl) (w_CFi hG (g := 61) (c := cmpIds) (by kernel_rfl) hst hf1 hf2 (fun _ _ _ _ _ _ hst hx hy => w_compareIds hG hst hx hy)) (fun σ hst => ?_)
 refine eV rfl (xA rfl) rfl ?_
 refine eN ?_
 refine tN ?_
 refine eT ?_
 exact r1_ rfl rfl ⟨rfl, hst⟩
theorem rf_59 {G : Cx} (hG : Plain G) {K : KP} {x1 x2 e1 e2 : Nat} {g1 g2 : XG} {a1 b1 c1 d1 a2 b2 c2 d2 : AV} (hb1 : K x1 (.row [a1, b1, c1, d1] e1 false)) (hb2 : K x2 (.row [a2, b2, c2, d2] e2 false)) (h1 : HasG K g1 a1 b1 c1 d1) (h2 : HasG K g2 a2 b2 c2 d2) : RFun Try.prog G K (cmpL cmpIds g1.from_ g2.from_) [.func 59 [] [.ptr x1 0, .ptr x2 0]] := ⟨59, _, rfl, by kernel_rfl, fun σ L hst => w_59 hG h1 h2 (pts_row hb1) (pts_row hb2) hst⟩
theorem w_62 {G : Cx} (hG : Plain G) {K : KP} {g1 g2 : XG} {a1 b1 c1 d1 a2 b2 c2 d2 : AV} (h1 : HasG K g1 a1 b1 c1 d1) (h2 : HasG K g2 a2 b2 c2 d2) {p q : AV} (hp1 : PtsTo K p [a1, b1, c1, d1]) (hp2 : PtsTo K q [a2, b2, c2, d2]) {σ : AHeap} {L : Own} (hst : St σ K L) : EvCall Try.prog G 62 [p, q] σ fun v σ' => v = .int .i64 (cmpL cmpIds g1.order g2.order) ∧ St σ' K L := by
 have h1' := h1; obtain ⟨hi1, ht1, hf1, ho1⟩ := h1'
 have h2' := h2; obtain ⟨hi2, ht2, hf2, ho2⟩ := h2'
 refine eY hG Try.func62 rfl (t := (PT.leaf.put (some (p)) 0).put (some (q)) 1) (by rfl) ?_
 refine eS ?_
 refine eR rfl ?_
 refine eV rfl (xA rfl) rfl ?_
 refine eN ?_
 refine tN ?_
 refine eS ?_
 refine eR rfl ?_
 refine o_pfield hp1 rfl rfl rfl (k := 3) (by kernel_rfl) (Nat.le_of_ble_eq_true rfl) (fun _ => rfl) (fun p3 hp3 => ?_)
 refine eV rfl (xp hst hp3 rfl (by kernel_rfl) rfl) rfl ?_
 refine o_pfield hp2 rfl rfl rfl (k := 3) (by kernel_rfl) (Nat.le_of_ble_eq_true rfl) (fun _ => rfl) (fun p5 hp5 => ?_)
 refine eV rfl (xp hst hp5 rfl (by kernel_rfl) rfl) rfl ?_
 refine oV rfl (xC rfl rfl rfl (by kernel_rfl)) (fun _ => rfl) (w_CFi hG (g := 61) (c := cmpIds) (by kernel_rfl) hst ho1 ho2 (fun _ _ _ _ _ _ hst hx hy => w_compareIds hG hst hx hy)) (fun σ hst => ?_)
 refine eV rfl (xA rfl) rfl ?_
 refine eN ?_
 refine tN ?_
 refine eT ?_
 exact r1_ rfl rfl ⟨rfl, hst⟩
theorem rf_62 {G : Cx} (hG : Plain G) {K : KP} {x1 x2 e1 e2 : Nat} {g1 g2 : XG} {a1 b1 c1 d1 a2 b2 c2 d2 : AV} (hb1 : K x1 (.row [a1, b1, c1, d1] e1 false)) (hb2 : K x2 (.row [a2, b2, c2, d2] e2 false)) (h1 : HasG K g1 a1 b1 c1 d1) (h2 : HasG K g2 a2 b2 c2 d2) : RFun Try.prog G K (cmpL cmpIds g1.order g2.order) [.func 62 [] [.ptr x1 0, .ptr x2 0]] := ⟨62, _, rfl, by kernel_rfl, fun σ L hst => w_62 hG h1 h2 (pts_row hb1) (pts_row hb2) hst⟩
theorem w_63 {G : Cx} (hG : Plain G) {K : KP} {g1 g2 : XG} {a1 b1 c1 d1 a2 b2 c2 d2 : AV} (h1 : HasG K g1 a1 b1 c1 d1) (h2 : HasG K g2 a2 b2 c2 d2) {p q : AV} (hp1 : PtsTo K p [a1, b1, c1, d1]) (hp2 : PtsTo K q [a2, b2, c2, d2]) {σ : AHeap} {L : Own} (hst : St σ K L) : EvCall Try.prog G 63 [p, q] σ fun v σ' => v = .int .i64 (cmpL cmpZ g1.init g2.init) ∧ St σ' K L := by
 have h1' := h1; obtain ⟨hi1, ht1, hf1, ho1⟩ := h1'
 have h2' := h2; obtain ⟨hi2, ht2, hf2, ho2⟩ := h2'
 refine eY hG Try.func63 rfl (t := (PT.leaf.put (some (p)) 0).put (some (q)) 1) (by rfl) ?_
 refine eS ?_
 refine eR rfl ?_
 refine eV rfl (xA rfl) rfl ?_
 refine eN ?_
 refine tN ?_
 refine eS ?_
 refine eR rfl ?_
 refine o_pfield hp1 rfl rfl rfl (k := 0) (by kernel_rfl) (Nat.le_of_ble_eq_true rfl) (fun _ => rfl) (fun p3 hp3 => ?_)
 refine eV rfl (xp hst hp3 rfl (by kernel_rfl) rfl) rfl ?_
 refine o_pfield hp2 rfl rfl rfl (k := 0) (by kernel_rfl) (Nat.le_of_ble_eq_true rfl) (fun _ => rfl) (fun p5 hp5 => ?_)
 refine eV rfl (xp hst hp5 rfl (by kernel_rfl) rfl) rfl ?_
 refine oV rfl (xC rfl rfl rfl (by kernel_rfl)) (fun _ => rfl) (w_Cmp64 hG hst hi1 hi2 ) (fun σ hst => ?_)
 refine eV rfl (xA rfl) rfl ?_
 refine eN ?_
 refine tN ?_
 refine eT ?_
 exact r1_ rfl rfl ⟨rfl, hst⟩
theorem rf_63 {G : Cx} (hG : Plain G) {K : KP} {x1 x2 e1 e2 : Nat} {g1 g2 : XG} {a1 b1 c1 d1 a2 b2 c2 d2 : AV} (hb1 : K x1 (.row [a1, b1, c1, d1] e1 false)) (hb2 : K x2 (.row [a2, b2, c2, d2] e2 false)) (h1 : HasG K g1 a1 b1 c1 d1) (h2 : HasG K g2 a2 b2 c2 d2) : RFun Try.prog G K (cmpL cmpZ g1.init g2.init) [.func 63 [] [.ptr x1 0, .ptr x2 0]] := ⟨63, _, rfl, by kernel_rfl, fun σ L hst => w_63 hG h1 h2 (pts_row hb1) (pts_row hb2) hst⟩
theorem w_Compare {G : Cx} (hG : Plain G) {K : KP} {g1 g2 : XG} {a1 b1 c1 d1 a2 b2 c2 d2 : AV} (h1 : HasG K g1 a1 b1 c1 d1) (h2 : HasG K g2 a2 b2 c2 d2) {σ : AHeap} {L : Own} (hst : St σ K L) : EvCall Try.prog G 21 [.agg [a1, b1, c1, d1], .agg [a2, b2, c2, d2]] σ fun v σ' => v = .int .i64 (cmpG g1 g2) ∧ St σ' K L := by
 have h1' := h1; obtain ⟨hi1, ht1, hf1, ho1⟩ := h1'
 have h2' := h2; obtain ⟨hi2, ht2, hf2, ho2⟩ := h2'
 refine eY hG Try.func21 rfl (t := (PT.leaf.put (some (.agg [a1, b1, c1, d1])) 0).put (some (.agg [a2, b2, c2, d2])) 1) (by rfl) ?_
 refine eS ?_
 refine eR rfl ?_
 refine oP hst rfl (xo_ rfl rfl) (fun _ => rfl) (fun σ b1 hst => ?_)
 refine oP hst rfl (xo_ rfl rfl) (fun _ => rfl) (fun σ b2 hst => ?_)
 refine eV rfl (xA rfl) rfl ?_
 refine eN ?_
 refine tN ?_
 refine eS ?_
 refine eP (l := [(0, []), (1, []), (2, []), (3, []), (4, []), (5, []), (7, []), (8, []), (9, []), (10, []), (11, []), (12, []), (13, []), (14, []), (16, []), (17, []), (18, []), (19, []), (20, []), (21, []), (22, []), (24, []), (25, []), (26, []), (27, []), (28, []), (29, []), (30, []), (32, []), (6, [10, 13, 18, 21, 26, 29]), (15, [18, 21, 26, 29]), (23, [26, 29]), (31, []), (33, []), (34, []), (35, [])]) (by kernel_rfl) (by kernel_rfl) ?_
 refine pV rfl rfl (xF rfl (k := 1) (by kernel_rfl)) rfl ?_
 refine pV rfl rfl (x1_ rfl (hst.get 1 rfl) (by kernel_rfl) rfl) rfl ?_
 refine pV rfl rfl (x_len' ht1 rfl rfl rfl (e := 61) (by kernel_rfl) rfl) rfl ?_
 refine pV rfl rfl (xF rfl (k := 1) (by kernel_rfl)) rfl ?_
 refine pV rfl rfl (x1_ rfl (hst.get 0 rfl) (by kernel_rfl) rfl) rfl ?_
 refine pV rfl rfl (x_len' ht2 rfl rfl rfl (e := 61) (by kernel_rfl) rfl) rfl ?_
 refine pV rfl rfl (xU rfl rfl) rfl ?_
 refine pV rfl rfl (xU rfl rfl) rfl ?_
 refine pV rfl rfl (xF rfl (k := 2) (by kernel_rfl)) rfl ?_
 refine pV rfl rfl (x1_ rfl (hst.get 1 rfl) (by kernel_rfl) rfl) rfl ?_
 refine pV rfl rfl (x_len' hf1 rfl rfl rfl (e := 62) (by kernel_rfl) rfl) rfl ?_
 refine pV rfl rfl (xF rfl (k := 2) (by kernel_rfl)) rfl ?_
 refine pV rfl rfl (x1_ rfl (hst.get 0 rfl) (by kernel_rfl) rfl) rfl ?_
 refine pV rfl rfl (x_len' hf2 rfl rfl rfl (e := 62) (by kernel_rfl) rfl) rfl ?_
 refine pV rfl rfl (xU rfl rfl) rfl ?_
 refine pV rfl rfl (xF rfl (k := 3) (by kernel_rfl)) rfl ?_
 refine pV rfl rfl (x1_ rfl (hst.get 1 rfl) (by kernel_rfl) rfl) rfl ?_
 refine pV rfl rfl (x_len' ho1 rfl rfl rfl (e := 62) (by kernel_rfl) rfl) rfl ?_
 refine pV rfl rfl (xF rfl (k := 3) (by kernel_rfl)) rfl ?_
 refine pV rfl rfl (x1_ rfl (hst.get 0 rfl) (by kernel_rfl) rfl) rfl ?_
 refine pV rfl rfl (x_len' ho2 rfl rfl rfl (e := 62) (by kernel_rfl) rfl) rfl ?_
 refine pV rfl rfl (xU rfl rfl) rfl ?_
 refine pV rfl rfl (xF rfl (k := 0) (by kernel_rfl)) rfl ?_
 refine pV rfl rfl (x1_ rfl (hst.get 1 rfl) (by kernel_rfl) rfl) rfl ?_
 refine pV rfl rfl (x_len' hi1 rfl rfl rfl (e := 2) (by kernel_rfl) rfl) rfl ?_
 refine pV rfl rfl (xF rfl (k := 0) (by kernel_rfl)) rfl ?_
 refine pV rfl rfl (x1_ rfl (hst.get 0 rfl) (by kernel_rfl) rfl) rfl ?_
 refine pV rfl rfl (x_len' hi2 rfl rfl rfl (e := 2) (by kernel_rfl) rfl) rfl ?_
 refine pV rfl rfl (xU rfl rfl) rfl ?_
 refine pc rfl rfl (xC rfl rfl rfl (by kernel_rfl)) (fun _ => rfl) (w_of_int hG _ _ hst) ?_
 rintro _ σ ⟨b3, b4, rfl, hst⟩
 refine ⟨(sC (sR rfl rfl rfl rfl rfl (x1_ rfl (hst.get 3 rfl) (by kernel_rfl) rfl) hf1.beqA) (sC (sR rfl rfl rfl rfl rfl (x1_ rfl (hst.get 2 rfl) (by kernel_rfl) rfl) hf2.beqA) (sC (sR rfl rfl rfl rfl rfl (x1_ rfl (hst.get 3 rfl) (by kernel_rfl) rfl) ho1.beqA) (sC (sR rfl rfl rfl rfl rfl (x1_ rfl (hst.get 2 rfl) (by kernel_rfl) rfl) ho2.beqA) (sC (sR rfl rfl rfl rfl rfl (x1_ rfl (hst.get 3 rfl) (by kernel_rfl) rfl) hi1.beqA) (sC (sR rfl rfl rfl rfl rfl (x1_ rfl (hst.get 2 rfl) (by kernel_rfl) rfl) hi2.beqA) s0)))))), ?_⟩
 refine pc rfl rfl (xC rfl rfl rfl (by kernel_rfl)) (fun _ => rfl) (w_of_int hG _ _ hst) ?_
 rintro _ σ ⟨b5, b6, rfl, hst⟩
 refine ⟨(sC (sR rfl rfl rfl rfl rfl (x1_ rfl (hst.get 5 rfl) (by kernel_rfl) rfl) ho1.beqA) (sC (sR rfl rfl rfl rfl rfl (x1_ rfl (hst.get 4 rfl) (by kernel_rfl) rfl) ho2.beqA) (sC (sR rfl rfl rfl rfl rfl (x1_ rfl (hst.get 5 rfl) (by kernel_rfl) rfl) hi1.beqA) (sC (sR rfl rfl rfl rfl rfl (x1_ rfl (hst.get 4 rfl) (by kernel_rfl) rfl) hi2.beqA) s0)))), ?_⟩
 refine pc rfl rfl (xC rfl rfl rfl (by kernel_rfl)) (fun _ => rfl) (w_of_int hG _ _ hst) ?_
 rintro _ σ ⟨b7, b8, rfl, hst⟩
 refine ⟨(sC (sR rfl rfl rfl rfl rfl (x1_ rfl (hst.get 7 rfl) (by kernel_rfl) rfl) hi1.beqA) (sC (sR rfl rfl rfl rfl rfl (x1_ rfl (hst.get 6 rfl) (by kernel_rfl) rfl) hi2.beqA) s0)), ?_⟩
 refine pc rfl rfl (xC rfl rfl rfl (by kernel_rfl)) (fun _ => rfl) (w_of_int hG _ _ hst) ?_
 rintro _ σ ⟨b9, b10, rfl, hst⟩
 refine ⟨s0, ?_⟩
 refine p_mk hst rfl rfl (x_buildS (e := 87) (m := 1) (z := [.nilFunc]) (cs := [.func 87 [] [.ptr b3 0, .ptr b4 0], .func 54 [] [.ptr b1 0, .ptr b2 0], .func 57 [] [.ptr b1 0, .ptr b2 0], .func 87 [] [.ptr b5 0, .ptr b6 0], .func 59 [] [.ptr b1 0, .ptr b2 0], .func 87 [] [.ptr b7 0, .ptr b8 0], .func 62 [] [.ptr b1 0, .ptr b2 0], .func 87 [] [.ptr b9 0, .ptr b10 0], .func 63 [] [.ptr b1 0, .ptr b2 0]]) (by kernel_rfl) (by kernel_rfl) (by kernel_rfl) (by kernel_rfl) (by rfl)) (fun _ => rfl) (fun σ b11 hst => ?_)
 have hq := hst.keeps (M := [_, _, _, _, _, _, _, _, _, _, _])
 refine pv_ rfl rfl (xC rfl rfl rfl (by kernel_rfl)) (fun _ => rfl) (call_keeps (w_decided hG hq (RFuns.slice (RFuns.cons (rf_87 hG (KP.adds_get 8 rfl) (KP.adds_get 7 rfl)) (RFuns.cons (rf_54 hG (KP.adds_get 10 rfl) (KP.adds_get 9 rfl) (h1.mono (KP.le_adds _ _)) (h2.mono (KP.le_adds _ _))) (RFuns.cons (rf_57 hG (KP.adds_get 10 rfl) (KP.adds_get 9 rfl) (h1.mono (KP.le_adds _ _)) (h2.mono (KP.le_adds _ _))) (RFuns.cons (rf_87 hG (KP.adds_get 6 rfl) (KP.adds_get 5 rfl)) (RFuns.cons (rf_59 hG (KP.adds_get 10 rfl) (KP.adds_get 9 rfl) (h1.mono (KP.le_adds _ _)) (h2.mono (KP.le_adds _ _))) (RFuns.cons (rf_87 hG (KP.adds_get 4 rfl) (KP.adds_get 3 rfl)) (RFuns.cons (rf_62 hG (KP.adds_get 10 rfl) (KP.adds_get 9 rfl) (h1.mono (KP.le_adds _ _)) (h2.mono (KP.le_adds _ _))) (RFuns.cons (rf_87 hG (KP.adds_get 2 rfl) (KP.adds_get 1 rfl)) (RFuns.cons (rf_63 hG (KP.adds_get 10 rfl) (KP.adds_get 9 rfl) (h1.mono (KP.le_adds _ _)) (h2.mono (KP.le_adds _ _))) RFuns.nil))))))))) (KP.adds_get 0 rfl) rfl (Nat.le_refl _) (by decide)))) (fun σ hst => ?_)
 clear hq
 refine ⟨s0, ?_⟩
 refine pV rfl rfl (xA rfl) rfl ?_
 refine pN ?_
 refine tN ?_
 refine eT ?_
 exact r1_ rfl rfl ⟨rfl, hst⟩
theorem w_Same {G : Cx} (hG : Plain G) {K : KP} {g1 g2 : XG} {a1 b1 c1 d1 a2 b2 c2 d2 : AV} (h1 : HasG K g1 a1 b1 c1 d1) (h2 : HasG K g2 a2 b2 c2 d2) {σ : AHeap} {L : Own} (hst : St σ K L) : EvCall Try.prog G 20 [.agg [a1, b1, c1, d1], .agg [a2, b2, c2, d2]] σ fun v σ' => v = .bool (eqI (cmpG g1 g2) 0) ∧ St σ' K L := by
 have h1' := h1; obtain ⟨hi1, ht1, hf1, ho1⟩ := h1'
 have h2' := h2; obtain ⟨hi2, ht2, hf2, ho2⟩ := h2'
 refine eY hG Try.func20 rfl (t := (PT.leaf.put (some (.agg [a1, b1, c1, d1])) 0).put (some (.agg [a2, b2, c2, d2])) 1) (by rfl) ?_
 refine eS ?_
 refine eR rfl ?_
 refine oP hst rfl (xo_ rfl rfl) (fun _ => rfl) (fun σ b1 hst => ?_)
 refine oP hst rfl (xo_ rfl rfl) (fun _ => rfl) (fun σ b2 hst => ?_)
 refine eV rfl (xA rfl) rfl ?_
 refine eN ?_
 refine tN ?_
 refine eS ?_
 refine eR rfl ?_
 refine eV rfl (xN rfl (hst.get 1 rfl) (n := 4) (vs := [_, _, _, _]) (by kernel_rfl) (Nat.le_of_ble_eq_true rfl) rfl) rfl ?_
 refine eV rfl (xN rfl (hst.get 0 rfl) (n := 4) (vs := [_, _, _, _]) (by kernel_rfl) (Nat.le_of_ble_eq_true rfl) rfl) rfl ?_
 refine oV rfl (xC rfl rfl rfl (by kernel_rfl)) (fun _ => rfl) (w_Compare hG h1 h2 hst) (fun σ hst => ?_)
 refine eV rfl (xB rfl rfl rfl) rfl ?_
 refine eV rfl (xA rfl) rfl ?_
 refine eN ?_
 refine tN ?_
 refine eT ?_
 exact r1_ rfl rfl ⟨rfl, hst.pop.pop⟩
end Go.Ev

namespace Go.Ev
variable [Env]
open Go.Proofs
set_option maxRecDepth 4000
set_option maxHeartbeats 8000000

theorem w_Clone64 {G : Cx} (hG : Plain G) {K : KP} {l : List Int} {v : AV} (h : HasS K 1 RInt l v) (hn : l.length ≤ 1048576) {σ : AHeap} {L : Own} (hst : St σ K L) : EvCall Try.prog G 82 [v] σ fun u σ' => ∃ M, OwnS 1 2 RInt l u M ∧ St σ' K (M ++ L) := by
 have h0 := h; rcases h0 with ⟨rfl, rfl⟩ | ⟨b, off, c, cells, e, ro, rfl, _⟩
 ·refine eY hG Try.func82 rfl (t := PT.leaf.put (some (.nilSlice)) 0) (by rfl) ?_
  refine eS ?_
  refine eR rfl ?_
  refine eV rfl (xA rfl) rfl ?_
  refine eN ?_
  refine tN ?_
  refine eS ?_
  refine eS ?_
  refine eR rfl ?_
  refine eV rfl (xM rfl) rfl ?_
  refine eV rfl (xB rfl rfl rfl) rfl ?_
  refine eN ?_
  refine tN ?_
  refine eA rfl ?_
  refine eS ?_
  refine eR rfl ?_
  refine eV rfl (xA rfl) rfl ?_
  refine eN ?_
  refine tN ?_
  refine eT ?_
  refine tR (?_)
  exact r1_ rfl rfl ⟨[], .inl ⟨rfl, rfl, rfl⟩, hst⟩
 ·refine eY hG Try.func82 rfl (t := PT.leaf.put (some (.slice b off l.length c)) 0) (by rfl) ?_
  refine eS ?_
  refine eR rfl ?_
  refine eV rfl (xA rfl) rfl ?_
  refine eN ?_
  refine tN ?_
  refine eS ?_
  refine eS ?_
  refine eR rfl ?_
  refine eV rfl (xM rfl) rfl ?_
  refine eV rfl (xB rfl rfl rfl) rfl ?_
  refine eN ?_
  refine tN ?_
  refine eF rfl ?_
  refine eI ?_
  refine tN ?_
  refine eS ?_
  refine eR rfl ?_
  refine o_mk hst rfl (x_buildS (e := 2) (m := 1) (z := [.int .i64 0]) (cs := []) (by kernel_rfl) (by kernel_rfl) (by kernel_rfl) (by kernel_rfl) (by rfl)) (fun _ => rfl) (fun σ b1 hst => ?_)
  refine eV rfl (xM rfl) rfl ?_
  refine o_append (R := RInt) (m := 1) (e := 2) hst h RInt.leaf hn (by simp) (by decide) (.inl rfl) rfl rfl rfl rfl rfl (by kernel_rfl) (by kernel_rfl) (by kernel_rfl) rfl rfl (fun _ => rfl) (fun σ b2 c2 news e2 hst hl2 hr2 hc2 => ?_)
  refine eV rfl (xA rfl) rfl ?_
  refine eN ?_
  refine tN ?_
  refine eT ?_
  exact r1_ rfl rfl ⟨[(b2, .row ([] ++ news) e2 false)], .inr ⟨b2, c2, news, e2, by rw [Nat.zero_add], rfl, hl2, hr2, by simpa using hc2, hn⟩, hst⟩
theorem w_CloneE {G : Cx} (hG : Plain G) {K : KP} {l : List XEv} {v : AV} (h : HasS K 5 REv l v) (hn : l.length ≤ 1048576) {σ : AHeap} {L : Own} (hst : St σ K L) : EvCall Try.prog G 101 [v] σ fun u σ' => ∃ M, OwnS 5 45 REv l u M ∧ St σ' K (M ++ L) := by
 have h0 := h; rcases h0 with ⟨rfl, rfl⟩ | ⟨b, off, c, cells, e, ro, rfl, _⟩
 ·refine eY hG Try.func101 rfl (t := PT.leaf.put (some (.nilSlice)) 0) (by rfl) ?_
  refine eS ?_
  refine eR rfl ?_
  refine eV rfl (xA rfl) rfl ?_
  refine eN ?_
  refine tN ?_
  refine eS ?_
  refine eS ?_
  refine eR rfl ?_
  refine eV rfl (xM rfl) rfl ?_
  refine eV rfl (xB rfl rfl rfl) rfl ?_
  refine eN ?_
  refine tN ?_
  refine eA rfl ?_
  refine eS ?_
  refine eR rfl ?_
  refine eV rfl (xA rfl) rfl ?_
  refine eN ?_
  refine tN ?_
  refine eT ?_
  refine tR (?_)
  exact r1_ rfl rfl ⟨[], .inl ⟨rfl, rfl, rfl⟩, hst⟩
 ·refine eY hG Try.func101 rfl (t := PT.leaf.put (some (.slice b off l.length c)) 0) (by rfl) ?_
  refine eS ?_
  refine eR rfl ?_
  refine eV rfl (xA rfl) rfl ?_
  refine eN ?_
  refine tN ?_
  refine eS ?_
  refine eS ?_
  refine eR rfl ?_
  refine eV rfl (xM rfl) rfl ?_
  refine eV rfl (xB rfl rfl rfl) rfl ?_
  refine eN ?_
  refine tN ?_
  refine eF rfl ?_
  refine eI ?_
  refine tN ?_
  refine eS ?_
  refine eR rfl ?_
  refine o_mk hst rfl (x_buildS (e := 45) (m := 5) (z := [.int .i64 0, .int .i64 0, .int .i64 0, .int .i64 0, .int .i64 0]) (cs := []) (by kernel_rfl) (by kernel_rfl) (by kernel_rfl) (by kernel_rfl) (by rfl)) (fun _ => rfl) (fun σ b1 hst => ?_)
  refine eV rfl (xM rfl) rfl ?_
  refine o_append (R := REv) (m := 5) (e := 45) hst h REv.leaf hn (by simp) (by decide) (.inl rfl) rfl rfl rfl rfl rfl (by kernel_rfl) (by kernel_rfl) (by kernel_rfl) rfl rfl (fun _ => rfl) (fun σ b2 c2 news e2 hst hl2 hr2 hc2 => ?_)
  refine eV rfl (xA rfl) rfl ?_
  refine eN ?_
  refine tN ?_
  refine eT ?_
  exact r1_ rfl rfl ⟨[(b2, .row ([] ++ news) e2 false)], .inr ⟨b2, c2, news, e2, by rw [Nat.zero_add], rfl, hl2, hr2, by simpa using hc2, hn⟩, hst⟩
theorem w_CloneI {G : Cx} (hG : Plain G) {K : KP} {l : List XId} {v : AV} (h : HasS K 2 RId l v) (hn : l.length ≤ 1048576) {σ : AHeap} {L : Own} (hst : St σ K L) : EvCall Try.prog G 106 [v] σ fun u σ' => ∃ M, OwnS 2 47 RId l u M ∧ St σ' K (M ++ L) := by
 have h0 := h; rcases h0 with ⟨rfl, rfl⟩ | ⟨b, off, c, cells, e, ro, rfl, _⟩
 ·refine eY hG Try.func106 rfl (t := PT.leaf.put (some (.nilSlice)) 0) (by rfl) ?_
  refine eS ?_
  refine eR rfl ?_
  refine eV rfl (xA rfl) rfl ?_
  refine eN ?_
  refine tN ?_
  refine eS ?_
  refine eS ?_
  refine eR rfl ?_
  refine eV rfl (xM rfl) rfl ?_
  refine eV rfl (xB rfl rfl rfl) rfl ?_
  refine eN ?_
  refine tN ?_
  refine eA rfl ?_
  refine eS ?_
  refine eR rfl ?_
  refine eV rfl (xA rfl) rfl ?_
  refine eN ?_
  refine tN ?_
  refine eT ?_
  refine tR (?_)
  exact r1_ rfl rfl ⟨[], .inl ⟨rfl, rfl, rfl⟩, hst⟩
 ·refine eY hG Try.func106 rfl (t := PT.leaf.put (some (.slice b off l.length c)) 0) (by rfl) ?_
  refine eS ?_
  refine eR rfl ?_
  refine eV rfl (xA rfl) rfl ?_
  refine eN ?_
  refine tN ?_
  refine eS ?_
  refine eS ?_
  refine eR rfl ?_
  refine eV rfl (xM rfl) rfl ?_
  refine eV rfl (xB rfl rfl rfl) rfl ?_
  refine eN ?_
  refine tN ?_
  refine eF rfl ?_
  refine eI ?_
  refine tN ?_
  refine eS ?_
  refine eR rfl ?_
  refine o_mk hst rfl (x_buildS (e := 47) (m := 2) (z := [.int .i64 0, .int .i64 0]) (cs := []) (by kernel_rfl) (by kernel_rfl) (by kernel_rfl) (by kernel_rfl) (by rfl)) (fun _ => rfl) (fun σ b1 hst => ?_)
  refine eV rfl (xM rfl) rfl ?_
  refine o_append (R := RId) (m := 2) (e := 47) hst h RId.leaf hn (by simp) (by decide) (.inl rfl) rfl rfl rfl rfl rfl (by kernel_rfl) (by kernel_rfl) (by kernel_rfl) rfl rfl (fun _ => rfl) (fun σ b2 c2 news e2 hst hl2 hr2 hc2 => ?_)
  refine eV rfl (xA rfl) rfl ?_
  refine eN ?_
  refine tN ?_
  refine eT ?_
  exact r1_ rfl rfl ⟨[(b2, .row ([] ++ news) e2 false)], .inr ⟨b2, c2, news, e2, by rw [Nat.zero_add], rfl, hl2, hr2, by simpa using hc2, hn⟩, hst⟩
theorem w_copiedE {G : Cx} (hG : Plain G) {K : KP} {ls : List (List XEv)} {v : AV} (h : HasS K 1 (RL K 5 REv) ls v) (hn : ls.length ≤ 1000) (hn2 : ∀ l ∈ ls, l.length ≤ 1048576) {σ : AHeap} {L : Own} (hst : St σ K L) :
  EvCall Try.prog G 83 [v] σ fun u σ' => ∃ bo us M, u = .slice bo 0 ls.length (.known ls.length) ∧ OwnSs 5 45 REv ls us M ∧ St σ' K (M ++ (bo, .row us 61 false) :: L) := by
 refine eY hG Try.func83 rfl (t := PT.leaf.put (some (v)) 0) (by rfl) ?_
 refine eS ?_
 refine eR rfl ?_
 refine eV rfl (xA rfl) rfl ?_
 refine eN ?_
 refine tN ?_
 refine eS ?_
 refine eR rfl ?_
 refine eV rfl (xM rfl) rfl ?_
 refine eV rfl (x_len' h rfl rfl rfl (e := 61) (by kernel_rfl) rfl) rfl ?_
 refine o_mk hst rfl (x_makeS (n := ls.length) (e := 61) (w := 24) (z := [.nilSlice]) rfl (by kernel_rfl) (by kernel_rfl) (by kernel_rfl) rfl rfl (by omega) (by omega)) (fun _ => rfl) (fun σ bo hst => ?_)
 rw [timesN_rep] at hst
 refine eV rfl (xA rfl) rfl ?_
 refine eN ?_
 refine tN ?_
 refine eS ?_
 refine eS ?_
 refine eR rfl ?_
 refine eV rfl (xM rfl) rfl ?_
 refine eV rfl (x_len' h rfl rfl rfl (e := 61) (by kernel_rfl) rfl) rfl ?_
 refine eV rfl (xM rfl) rfl ?_
 refine eN ?_
 refine tN ?_
 refine eB ?_
 refine eW [4, 5, 11, 12, 13, 14, 15, 16, 17, 18, 19, 20, 21] (fun j t σ => ∃ (i : Nat) (us : List AV) (M : Own), j + i = ls.length ∧ OwnSs 5 45 REv (ls.take i) us M ∧ t.get 11 = some (.int .i64 (.ofNat i)) ∧ St σ K (M ++ (bo, .row (us ++ List.replicate (ls.length - i) AV.nilSlice) 61 false) :: L)) (ls.length) ⟨0, [], [], rfl, .nil, rfl, hst⟩ ?_
 clear hst; intro j3 t σ hoff hI; obtain ⟨i, us, M, hj3, hO, hv11, hst⟩ := hI
 obtain ⟨o4, o5, o11, o12, o13, o14, o15, o16, hoff⟩ := hoff.ex8 rfl rfl
 obtain ⟨o17, o18, o19, o20, hoff⟩ := hoff.ex4 rfl
 obtain ⟨o21, hoff⟩ := hoff.ex1 rfl
 obtain rfl := hoff.nil; clear hoff
 replace hv11 : o11 = some _ := hv11; subst hv11
 refine eS ?_
 refine eR rfl ?_
 refine eV rfl (xB rfl rfl rfl) rfl ?_
 refine eN ?_
 refine tN ?_
 refine eS ?_
 refine e2_ rfl (fun h12 => ?_) (fun h12 => ?_)
 ·refine eI ?_
  refine tN ?_
  refine eS ?_
  refine eB ?_
  refine eS ?_
  refine eR rfl ?_
  refine eV rfl (xM rfl) rfl ?_
  obtain ⟨x14, hx14, hi14⟩ := at_lt h12
  refine oI (e := 61) (m := 1) h hx14 rfl rfl (by kernel_rfl) (by kernel_rfl) rfl rfl (fun _ => rfl) (fun p14 vs14 hp14 hl14 hr14 => ?_)
  have hr14' := hr14; obtain ⟨v14, rfl, hk14⟩ := hr14'
  refine eV rfl (xp hst hp14 rfl (by kernel_rfl) rfl) rfl ?_
  refine eV rfl (xA rfl) rfl ?_
  refine eV rfl (xA rfl) rfl ?_
  refine eN ?_
  refine tN ?_
  refine eR rfl ?_
  refine eV rfl (xM rfl) rfl ?_
  refine eV rfl (xM rfl) rfl ?_
  refine eV rfl (xM rfl) rfl ?_
  refine oC rfl (xC rfl rfl rfl (by kernel_rfl)) (fun _ => rfl) (w_CloneE hG hk14 (hn2 _ (List.mem_of_getElem? hx14)) hst) ?_
  rintro u19 σ ⟨M19, hM19, hst⟩
  refine eV rfl (x_idx (e := 61) (m := 1) rfl (by kernel_rfl) rfl rfl hi14) rfl ?_
  rw [← List.append_assoc] at hst
  have hul : us.length = i := by rw [hO.length, List.length_take]; omega
  refine eK rfl (x_storeS rfl rfl hM19.leaf.1 hst.getMid (m := 1) (by kernel_rfl) rfl (by rw [List.length_append, List.length_replicate]; omega) (lC hM19.leaf.2 rfl)) rfl ?_
  rw [row_put hul hi14]
  replace hst := hst.setMid (.row (us ++ [u19] ++ List.replicate (ls.length - (i + 1)) AV.nilSlice) 61 false)
  refine eN ?_
  refine bN ?_
  refine tN ?_
  refine eR rfl ?_
  refine eV rfl (xB rfl rfl rfl) rfl ?_
  refine eV rfl (xM rfl) rfl ?_
  refine eN ?_
  refine lN ⟨j3 - 1, by omega, (by (iterate 26 refine OffW.put rfl ?_); exact OffW.refl _ _), i + 1, us ++ [u19], M19 ++ M, by omega, by rw [List.take_add_one, hx14]; exact .snoc hO hM19, congrArg (fun z => some (AV.int .i64 z)) (wr_succ (by have := h.len_le; omega)), hst⟩
 ·refine eX ?_
  refine tX ?_
  refine lX ?_
  refine bX ?_
  refine tN ?_
  refine eS ?_
  refine eR rfl ?_
  refine eV rfl (xM rfl) rfl ?_
  refine eV rfl (xA rfl) rfl ?_
  refine eN ?_
  refine tN ?_
  refine eT ?_
  exact r1_ rfl rfl ⟨bo, us, M, rfl, by rwa [List.take_of_length_le (lt_no h12)] at hO, by rwa [show ls.length - i = 0 from by have := lt_no h12; omega, List.replicate_zero, List.append_nil] at hst⟩
theorem w_copiedI {G : Cx} (hG : Plain G) {K : KP} {ls : List (List XId)} {v : AV} (h : HasS K 1 (RL K 2 RId) ls v) (hn : ls.length ≤ 1000) (hn2 : ∀ l ∈ ls, l.length ≤ 1048576) {σ : AHeap} {L : Own} (hst : St σ K L) :
  EvCall Try.prog G 84 [v] σ fun u σ' => ∃ bo us M, u = .slice bo 0 ls.length (.known ls.length) ∧ OwnSs 2 47 RId ls us M ∧ St σ' K (M ++ (bo, .row us 62 false) :: L) := by
 refine eY hG Try.func84 rfl (t := PT.leaf.put (some (v)) 0) (by rfl) ?_
 refine eS ?_
 refine eR rfl ?_
 refine eV rfl (xA rfl) rfl ?_
 refine eN ?_
 refine tN ?_
 refine eS ?_
 refine eR rfl ?_
 refine eV rfl (xM rfl) rfl ?_
 refine eV rfl (x_len' h rfl rfl rfl (e := 62) (by kernel_rfl) rfl) rfl ?_
 refine o_mk hst rfl (x_makeS (n := ls.length) (e := 62) (w := 24) (z := [.nilSlice]) rfl (by kernel_rfl) (by kernel_rfl) (by kernel_rfl) rfl rfl (by omega) (by omega)) (fun _ => rfl) (fun σ bo hst => ?_)
 rw [timesN_rep] at hst
 refine eV rfl (xA rfl) rfl ?_
 refine eN ?_
 refine tN ?_
 refine eS ?_
 refine eS ?_
 refine eR rfl ?_
 refine eV rfl (xM rfl) rfl ?_
 refine eV rfl (x_len' h rfl rfl rfl (e := 62) (by kernel_rfl) rfl) rfl ?_
 refine eV rfl (xM rfl) rfl ?_
 refine eN ?_
 refine tN ?_
 refine eB ?_
 refine eW [4, 5, 11, 12, 13, 14, 15, 16, 17, 18, 19, 20, 21] (fun j t σ => ∃ (i : Nat) (us : List AV) (M : Own), j + i = ls.length ∧ OwnSs 2 47 RId (ls.take i) us M ∧ t.get 11 = some (.int .i64 (.ofNat i)) ∧ St σ K (M ++ (bo, .row (us ++ List.replicate (ls.length - i) AV.nilSlice) 62 false) :: L)) (ls.length) ⟨0, [], [], rfl, .nil, rfl, hst⟩ ?_
 clear hst; intro j3 t σ hoff hI; obtain ⟨i, us, M, hj3, hO, hv11, hst⟩ := hI
 obtain ⟨o4, o5, o11, o12, o13, o14, o15, o16, hoff⟩ := hoff.ex8 rfl rfl
 obtain ⟨o17, o18, o19, o20, hoff⟩ := hoff.ex4 rfl
 obtain ⟨o21, hoff⟩ := hoff.ex1 rfl
 obtain rfl := hoff.nil; clear hoff
 replace hv11 : o11 = some _ := hv11; subst hv11
 refine eS ?_
 refine eR rfl ?_
 refine eV rfl (xB rfl rfl rfl) rfl ?_
 refine eN ?_
 refine tN ?_
 refine eS ?_
 refine e2_ rfl (fun h12 => ?_) (fun h12 => ?_)
 ·refine eI ?_
  refine tN ?_
  refine eS ?_
  refine eB ?_
  refine eS ?_
  refine eR rfl ?_
  refine eV rfl (xM rfl) rfl ?_
  obtain ⟨x14, hx14, hi14⟩ := at_lt h12
  refine oI (e := 62) (m := 1) h hx14 rfl rfl (by kernel_rfl) (by kernel_rfl) rfl rfl (fun _ => rfl) (fun p14 vs14 hp14 hl14 hr14 => ?_)
  have hr14' := hr14; obtain ⟨v14, rfl, hk14⟩ := hr14'
  refine eV rfl (xp hst hp14 rfl (by kernel_rfl) rfl) rfl ?_
  refine eV rfl (xA rfl) rfl ?_
  refine eV rfl (xA rfl) rfl ?_
  refine eN ?_
  refine tN ?_
  refine eR rfl ?_
  refine eV rfl (xM rfl) rfl ?_
  refine eV rfl (xM rfl) rfl ?_
  refine eV rfl (xM rfl) rfl ?_
  refine oC rfl (xC rfl rfl rfl (by kernel_rfl)) (fun _ => rfl) (w_CloneI hG hk14 (hn2 _ (List.mem_of_getElem? hx14)) hst) ?_
  rintro u19 σ ⟨M19, hM19, hst⟩
  refine eV rfl (x_idx (e := 62) (m := 1) rfl (by kernel_rfl) rfl rfl hi14) rfl ?_
  rw [← List.append_assoc] at hst
  have hul : us.length = i := by rw [hO.length, List.length_take]; omega
  refine eK rfl (x_storeS rfl rfl hM19.leaf.1 hst.getMid (m := 1) (by kernel_rfl) rfl (by rw [List.length_append, List.length_replicate]; omega) (lC hM19.leaf.2 rfl)) rfl ?_
  rw [row_put hul hi14]
  replace hst := hst.setMid (.row (us ++ [u19] ++ List.replicate (ls.length - (i + 1)) AV.nilSlice) 62 false)
  refine eN ?_
  refine bN ?_
  refine tN ?_
  refine eR rfl ?_
  refine eV rfl (xB rfl rfl rfl) rfl ?_
  refine eV rfl (xM rfl) rfl ?_
  refine eN ?_
  refine lN ⟨j3 - 1, by omega, (by (iterate 26 refine OffW.put rfl ?_); exact OffW.refl _ _), i + 1, us ++ [u19], M19 ++ M, by omega, by rw [List.take_add_one, hx14]; exact .snoc hO hM19, congrArg (fun z => some (AV.int .i64 z)) (wr_succ (by have := h.len_le; omega)), hst⟩
 ·refine eX ?_
  refine tX ?_
  refine lX ?_
  refine bX ?_
  refine tN ?_
  refine eS ?_
  refine eR rfl ?_
  refine eV rfl (xM rfl) rfl ?_
  refine eV rfl (xA rfl) rfl ?_
  refine eN ?_
  refine tN ?_
  refine eT ?_
  exact r1_ rfl rfl ⟨bo, us, M, rfl, by rwa [List.take_of_length_le (lt_no h12)] at hO, by rwa [show ls.length - i = 0 from by have := lt_no h12; omega, List.replicate_zero, List.append_nil] at hst⟩
end Go.Ev

namespace Go.Ev
variable [Env]
open Go.Proofs
set_option maxRecDepth 4000
set_option maxHeartbeats 8000000

/-- Small enough to be copied. -/
def FewG (g : XG) : Prop := g.init.length ≤ 1000 ∧ g.threads.length ≤ 1000 ∧ (∀ l ∈ g.threads, l.length ≤ 1048576) ∧ g.from_.length ≤ 1000 ∧ (∀ l ∈ g.from_, l.length ≤ 1048576) ∧ g.order.length ≤ 1000 ∧ (∀ l ∈ g.order, l.length ≤ 1048576)
/-- A graph copied into blocks of one's own. -/
structure OwnG (g : XG) (u1 : AV) (M1 : Own) (b2 : Nat) (us2 : List AV) (M2 : Own) (b3 : Nat) (us3 : List AV) (M3 : Own) (b4 : Nat) (us4 : List AV) (M4 : Own) : Prop where
 init : OwnS 1 2 RInt g.init u1 M1
 threads : OwnSs 5 45 REv g.threads us2 M2
 from_ : OwnSs 2 47 RId g.from_ us3 M3
 order : OwnSs 2 47 RId g.order us4 M4
abbrev ownG (M1 : Own) (b2 : Nat) (us2 : List AV) (M2 : Own) (b3 : Nat) (us3 : List AV) (M3 : Own) (b4 : Nat) (us4 : List AV) (M4 : Own) (L : Own) : Own :=
 M4 ++ (b4, .row us4 62 false) :: (M3 ++ (b3, .row us3 62 false) :: (M2 ++ (b2, .row us2 61 false) :: (M1 ++ L)))
abbrev valG (g : XG) (u1 : AV) (b2 b3 b4 : Nat) : List AV := [u1, .slice b2 0 g.threads.length (.known g.threads.length), .slice b3 0 g.from_.length (.known g.from_.length), .slice b4 0 g.order.length (.known g.order.length)]

theorem w_copied {G : Cx} (hG : Plain G) {K : KP} {g : XG} {a b c d : AV} (h : HasG K g a b c d) (hbd : FewG g) {σ : AHeap} {L : Own} (hst : St σ K L) :
  EvCall Try.prog G 48 [.agg [a, b, c, d]] σ fun v σ' => ∃ u1 M1 b2 us2 M2 b3 us3 M3 b4 us4 M4, v = .agg (valG g u1 b2 b3 b4) ∧ OwnG g u1 M1 b2 us2 M2 b3 us3 M3 b4 us4 M4 ∧ St σ' K (ownG M1 b2 us2 M2 b3 us3 M3 b4 us4 M4 L) := by
 have h' := h; obtain ⟨hi, ht, hf, ho⟩ := h'
 refine eY hG Try.func48 rfl (t := PT.leaf.put (some (.agg [a, b, c, d])) 0) (by rfl) ?_
 refine eS ?_
 refine eR rfl ?_
 refine oP hst rfl (xo_ rfl rfl) (fun _ => rfl) (fun σ b1 hst => ?_)
 refine oP hst rfl (xe (cs := [.nilSlice, .nilSlice, .nilSlice, .nilSlice]) (by kernel_rfl) (by kernel_rfl)) (fun _ => rfl) (fun σ b2 hst => ?_)
 refine eN ?_
 refine tN ?_
 refine eS ?_
 refine eP (l := [(0, []), (1, []), (3, []), (4, []), (6, []), (7, []), (9, []), (10, []), (2, [4, 7, 10]), (5, [7, 10]), (8, [10]), (11, []), (12, []), (13, [])]) (by kernel_rfl) (by kernel_rfl) ?_
 refine pV rfl rfl (xF rfl (k := 0) (by kernel_rfl)) rfl ?_
 refine pV rfl rfl (x1_ rfl (hst.get 1 rfl) (by kernel_rfl) rfl) rfl ?_
 refine pV rfl rfl (xF rfl (k := 1) (by kernel_rfl)) rfl ?_
 refine pV rfl rfl (x1_ rfl (hst.get 1 rfl) (by kernel_rfl) rfl) rfl ?_
 refine pV rfl rfl (xF rfl (k := 2) (by kernel_rfl)) rfl ?_
 refine pV rfl rfl (x1_ rfl (hst.get 1 rfl) (by kernel_rfl) rfl) rfl ?_
 refine pV rfl rfl (xF rfl (k := 3) (by kernel_rfl)) rfl ?_
 refine pV rfl rfl (x1_ rfl (hst.get 1 rfl) (by kernel_rfl) rfl) rfl ?_
 refine pc rfl rfl (xC rfl rfl rfl (by kernel_rfl)) (fun _ => rfl) (w_Clone64 hG hi (by have := hbd.1; omega) hst) ?_
 rintro u5 σ ⟨M5, hM5, hst⟩
 refine ⟨(sC (sR rfl rfl rfl rfl rfl (x1_ rfl (hst.pops.pop.get 0 rfl) (by kernel_rfl) rfl) ht.beqA) (sC (sR rfl rfl rfl rfl rfl (x1_ rfl (hst.pops.pop.get 0 rfl) (by kernel_rfl) rfl) hf.beqA) (sC (sR rfl rfl rfl rfl rfl (x1_ rfl (hst.pops.pop.get 0 rfl) (by kernel_rfl) rfl) ho.beqA) s0))), ?_⟩
 refine pc rfl rfl (xC rfl rfl rfl (by kernel_rfl)) (fun _ => rfl) (w_copiedE hG ht hbd.2.1 hbd.2.2.1 hst) ?_
 rintro _ σ ⟨b3, us8, M8, rfl, hO8, hst⟩
 refine ⟨(sC (sR rfl rfl rfl rfl rfl (x1_ rfl (hst.pops.pop.pops.pop.get 0 rfl) (by kernel_rfl) rfl) hf.beqA) (sC (sR rfl rfl rfl rfl rfl (x1_ rfl (hst.pops.pop.pops.pop.get 0 rfl) (by kernel_rfl) rfl) ho.beqA) s0)), ?_⟩
 refine pc rfl rfl (xC rfl rfl rfl (by kernel_rfl)) (fun _ => rfl) (w_copiedI hG hf hbd.2.2.2.1 hbd.2.2.2.2.1 hst) ?_
 rintro _ σ ⟨b4, us11, M11, rfl, hO11, hst⟩
 refine ⟨(sC (sR rfl rfl rfl rfl rfl (x1_ rfl (hst.pops.pop.pops.pop.pops.pop.get 0 rfl) (by kernel_rfl) rfl) ho.beqA) s0), ?_⟩
 refine pc rfl rfl (xC rfl rfl rfl (by kernel_rfl)) (fun _ => rfl) (w_copiedI hG ho hbd.2.2.2.2.2.1 hbd.2.2.2.2.2.2 hst) ?_
 rintro _ σ ⟨b5, us14, M14, rfl, hO14, hst⟩
 refine ⟨s0, ?_⟩
 refine pV rfl rfl (xb_ (places := [(0, 1), (1, 1), (2, 1), (3, 1)]) (zero := [.nilSlice, .nilSlice, .nilSlice, .nilSlice]) (cs := [_, _, _, _]) (by kernel_rfl) (by kernel_rfl) (by kernel_rfl) (fillA_cons rfl rfl hM5.leaf.1 rfl (fillA_cons rfl rfl rfl rfl (fillA_cons rfl rfl rfl rfl (fillA_cons rfl rfl rfl rfl fillA_nil)))) (by kernel_rfl)) rfl ?_
 refine p_setU hst (.seg (.there (.seg (.there (.seg (.there (.seg .here))))))) rfl rfl (xS rfl rfl rfl (hst.pops.pop.pops.pop.pops.pop.pops.get 0 rfl) (m := 4) (by kernel_rfl) rfl (Nat.le_of_ble_eq_true rfl) (lC hM5.leaf.2 (lC rfl (lC rfl (lC rfl l0_)))) (cells' := [_, _, _, _]) rfl) rfl (fun σ hst => ?_)
 refine ⟨s0, ?_⟩
 refine pN ?_
 refine tN ?_
 refine eT ?_
 exact end_cell1 rfl rfl (hst.pops.pop.pops.pop.pops.pop.pops.get 0 rfl) (m := 4) (by kernel_rfl) rfl ⟨_, _, _, _, _, _, _, _, _, _, _, rfl, ⟨hM5, hO8, hO11, hO14⟩, hst.sub (sub_seg (.cons_cons _ (sub_seg (.cons_cons _ (sub_seg (.cons_cons _ (sub_seg (.cons _ (.cons _ (.refl _))))))))))⟩
end Go.Ev

namespace Go.Ev
variable [Env]
open Go.Proofs
set_option maxRecDepth 4000
set_option maxHeartbeats 8000000

theorem w_Writes {G : Cx} (hG : Plain G) {K : KP} {g : XG} {a b c d : AV} (h : HasG K g a b c d) (hbo : ∀ l ∈ g.order, l.length ≤ 1000000) (loc : Int) {σ : AHeap} {L : Own} (hst : St σ K L) :
  EvCall Try.prog G 28 [.agg [a, b, c, d], .int .i64 loc] σ fun v σ' => ∃ M, OwnS 2 47 RId (writesG g loc) v M ∧ St σ' K (M ++ L) := by
 have h' := h; obtain ⟨hi, ht, hf, ho⟩ := h'
 refine eY hG Try.func28 rfl (t := (PT.leaf.put (some (.agg [a, b, c, d])) 0).put (some (.int .i64 loc)) 1) (by rfl) ?_
 refine eS ?_
 refine eR rfl ?_
 refine oP hst rfl (xo_ rfl rfl) (fun _ => rfl) (fun σ b1 hst => ?_)
 refine eV rfl (xA rfl) rfl ?_
 refine eN ?_
 refine tN ?_
 refine eS ?_
 refine eS ?_
 refine eR rfl ?_
 refine eV rfl (xN rfl (hst.get 0 rfl) (n := 4) (vs := [_, _, _, _]) (by kernel_rfl) (Nat.le_of_ble_eq_true rfl) rfl) rfl ?_
 refine oV rfl (xC rfl rfl rfl (by kernel_rfl)) (fun _ => rfl) (w_Check hG h  hst) (fun σ hst => ?_)
 refine eV rfl (xB rfl rfl rfl) rfl ?_
 refine oS rfl (xM rfl) (fun _ => rfl) (fun h8 => ?_) (fun h8 => ?_)
 ·refine eU rfl rfl ?_
  refine eU rfl rfl ?_
  refine eV rfl (xP rfl rfl) rfl ?_
  refine eV rfl (xM rfl) rfl ?_
  refine eU rfl rfl ?_
  refine eU rfl rfl ?_
  refine eU rfl rfl ?_
  refine eU rfl rfl ?_
  refine eU rfl rfl ?_
  refine eV rfl (xP rfl rfl) rfl ?_
  refine eN ?_
  refine tN ?_
  refine eA rfl ?_
  refine eS ?_
  refine eR rfl ?_
  refine eV rfl (xA rfl) rfl ?_
  refine eN ?_
  refine tN ?_
  refine eT ?_
  refine tR (?_)
  exact r1_ rfl rfl ⟨[], .inl ⟨writesG_none (notB_t h8), rfl, rfl⟩, hst.pop⟩
 ·refine eV rfl (xM rfl) rfl ?_
  refine eV rfl (xB rfl rfl rfl) rfl ?_
  refine eV rfl (xP rfl rfl) rfl ?_
  refine oS rfl (xM rfl) (fun _ => rfl) (fun h12 => ?_) (fun h12 => ?_)
  ·refine eU rfl rfl ?_
   refine eU rfl rfl ?_
   refine eU rfl rfl ?_
   refine eU rfl rfl ?_
   refine eU rfl rfl ?_
   refine eV rfl (xP rfl rfl) rfl ?_
   refine eN ?_
   refine tN ?_
   refine eA rfl ?_
   refine eS ?_
   refine eR rfl ?_
   refine eV rfl (xA rfl) rfl ?_
   refine eN ?_
   refine tN ?_
   refine eT ?_
   refine tR (?_)
   exact r1_ rfl rfl ⟨[], .inl ⟨writesG_neg h12, rfl, rfl⟩, hst.pop⟩
  ·refine eV rfl (xM rfl) rfl ?_
   refine eV rfl (xF rfl (k := 0) (by kernel_rfl)) rfl ?_
   refine eV rfl (x1_ rfl (hst.get 0 rfl) (by kernel_rfl) rfl) rfl ?_
   refine eV rfl (x_len' hi rfl rfl rfl (e := 2) (by kernel_rfl) rfl) rfl ?_
   refine eV rfl (xB rfl rfl rfl) rfl ?_
   refine eV rfl (xP rfl rfl) rfl ?_
   refine eN ?_
   refine tN ?_
   refine e2_ rfl (fun h18 => ?_) (fun h18 => ?_)
   ·obtain ⟨ln, rfl⟩ := nat_of h12
    refine eS ?_
    refine eR rfl ?_
    refine eV rfl (xA rfl) rfl ?_
    refine eN ?_
    refine tN ?_
    refine eT ?_
    refine tR (?_)
    exact r1_ rfl rfl ⟨[], .inl ⟨writesG_big (by rw [(check_bounds (eq0 (notB_f h8))).2.2.2.2.1]; exact ge_of_ge h18), rfl, rfl⟩, hst.pop⟩
   ·obtain ⟨ln, rfl⟩ := nat_of h12
    refine eI ?_
    refine tN ?_
    refine eS ?_
    refine eR rfl ?_
    refine eV rfl (xM rfl) rfl ?_
    refine eV rfl (xb_ (places := [(0, 1), (1, 1)]) (zero := [.int .i64 0, .int .i64 0]) (cs := [_, _]) (by kernel_rfl) (by kernel_rfl) (by kernel_rfl) rfl (by kernel_rfl)) rfl ?_
    refine o_mk hst rfl (x_buildS (e := 47) (m := 2) (z := [.int .i64 0, .int .i64 0]) (cs := [_, _]) (by kernel_rfl) (by kernel_rfl) (by kernel_rfl) (by kernel_rfl) (fillA_cons rfl rfl rfl rfl fillA_nil)) (fun _ => rfl) (fun σ b2 hst => ?_)
    refine eV rfl (xF rfl (k := 3) (by kernel_rfl)) rfl ?_
    refine eV rfl (x1_ rfl (hst.get 1 rfl) (by kernel_rfl) rfl) rfl ?_
    refine eV rfl (xM rfl) rfl ?_
    obtain ⟨x25, hx25⟩ := at_of (show ln < g.order.length from by rw [(check_bounds (eq0 (notB_f h8))).2.2.2.2.1]; exact lt_of_ge h18)
    refine oI (e := 62) (m := 1) ho hx25 rfl rfl (by kernel_rfl) (by kernel_rfl) rfl rfl (fun _ => rfl) (fun p25 vs25 hp25 hl25 hr25 => ?_)
    have hr25' := hr25; obtain ⟨v25, rfl, hk25⟩ := hr25'
    refine eV rfl (xp hst hp25 rfl (by kernel_rfl) rfl) rfl ?_
    refine o_append (R := RId) (m := 2) (e := 47) (len1 := 1) hst hk25 RId.leaf (by have := hbo _ (List.mem_of_getElem? hx25); omega) rfl (by decide) (.inl rfl) rfl rfl rfl rfl rfl (by kernel_rfl) (by kernel_rfl) (by kernel_rfl) rfl rfl (fun _ => rfl) (fun σ b9 c9 news e9 hst hl9 hr9 hc9 => ?_)
    refine eV rfl (xA rfl) rfl ?_
    refine eN ?_
    refine tN ?_
    refine eT ?_
    exact r1_ rfl rfl ⟨[(b9, AObj.row ([AV.int .i64 0, AV.int .i64 (.ofNat ln)] ++ news) e9 false)], by rw [writesG_at (notB_f h8) hx25]; exact ownS_app (l1 := [⟨0, .ofNat ln⟩]) (cells1 := [AV.int .i64 0, AV.int .i64 (.ofNat ln)]) rfl (fun i x hx => by cases i with | zero => (cases hx; rfl) | succ i => (simp at hx)) hl9 hr9 rfl hc9 (by show 1 + x25.length ≤ 1048576; have := hbo _ (List.mem_of_getElem? hx25); omega), hst.sub (.cons_cons _ (.cons _ (.refl _)))⟩
end Go.Ev

