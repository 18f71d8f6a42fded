/- Walks and runs: what functions of the program come to, on the evaluator. Without conditions. -/
import Derived.Test.YtgmdncbbcgiomaaEd
import Derived.Test.YtgmdncbbcgiomaaProg
import Derived.KernelRfl
set_option linter.unusedSectionVars false
set_option linter.unusedVariables false
set_option linter.unusedSimpArgs false
namespace Go.Ev
variable [Env]
open Go.Proofs
set_option maxRecDepth 4000
set_option maxHeartbeats 8000000

theorem w_heft {G : Cx} (hG : Plain G) {K : KP} : ∀ (k : Nat) (x : XE) (vs : List AV), HasE K k x vs → ∀ (left : Int) (σ : AHeap) (L : Own), St σ K L → EvCall Try.prog G 102 [.agg vs, .int .i64 left] σ fun v σ' => v = .int .i64 (heftK k x left) ∧ St σ' K L := by
  intro k
  induction k with
  | zero => intro x vs h; cases x; exact h.elim
  | succ k ih =>
  intro x vs h left σ L hst
  obtain ⟨op, num, name, kids⟩ := x
  obtain ⟨v, rfl, hk⟩ := h
  refine ev_body hG Try.func102 rfl (t := (PT.leaf.put (some (.agg _)) 0).put (some (.int .i64 left)) 1) (by rfl) ?_
  refine ev_seq ?_
  refine ev_region rfl ?_
  refine o_ptr hst rfl (x_box rfl rfl) (fun _ => rfl) (fun σ b1 hst => ?_)
  refine evOps_val rfl (x_assign rfl) rfl ?_
  refine evOps_nil ?_
  refine thenQ_normal ?_
  refine ev_seq ?_
  refine ev_region rfl ?_
  refine evOps_val rfl (x_move rfl) rfl ?_
  refine evOps_val rfl (x_bin rfl rfl rfl) rfl ?_
  refine evOps_val rfl (x_field rfl (k := 2) (by kernel_rfl)) rfl ?_
  refine evOps_val rfl (x_load1 rfl (hst.get 0 rfl) (by kernel_rfl) rfl) rfl ?_
  refine evOps_val rfl (x_lenStr rfl rfl rfl (by kernel_rfl) rfl) rfl ?_
  refine evOps_val rfl (x_bin rfl rfl rfl) rfl ?_
  refine evOps_val rfl (x_bin rfl rfl rfl) rfl ?_
  refine evOps_val rfl (x_assign rfl) rfl ?_
  refine evOps_nil ?_
  refine thenQ_normal ?_
  refine ev_seq ?_
  refine ev_seq ?_
  refine ev_region rfl ?_
  refine evOps_val rfl (x_assign rfl) rfl ?_
  refine evOps_nil ?_
  refine thenQ_normal ?_
  refine ev_block ?_
  obtain ⟨LL1, hst, hLL1⟩ := hst.named
  refine ev_loopW [1, 5, 13, 14, 15, 16, 17, 18, 19, 20, 21, 22, 23, 24, 25, 26, 27, 28, 29, 30] (fun j t σ => ∃ (i : Nat) (m : Int), j + i = kids.length ∧ heftL (heftK k) kids (heft0 name left) = heftL (heftK k) (kids.drop i) m ∧ t.get 1 = some (.int .i64 m) ∧ t.get 5 = some (.int .i64 (.ofNat i)) ∧ St σ K LL1) (kids.length) ⟨0, _, rfl, rfl, rfl, rfl, hst⟩ ?_
  clear hst; intro j3 t σ hoff hI; obtain ⟨i, m, hj, hh, hv1, hv5, hst⟩ := hI
  subst hLL1
  obtain ⟨o1, hoff⟩ := hoff.ex1 rfl; obtain ⟨o5, hoff⟩ := hoff.ex1 rfl; obtain ⟨o13, hoff⟩ := hoff.ex1 rfl; obtain ⟨o14, hoff⟩ := hoff.ex1 rfl; obtain ⟨o15, hoff⟩ := hoff.ex1 rfl; obtain ⟨o16, hoff⟩ := hoff.ex1 rfl; obtain ⟨o17, hoff⟩ := hoff.ex1 rfl; obtain ⟨o18, hoff⟩ := hoff.ex1 rfl; obtain ⟨o19, hoff⟩ := hoff.ex1 rfl; obtain ⟨o20, hoff⟩ := hoff.ex1 rfl; obtain ⟨o21, hoff⟩ := hoff.ex1 rfl; obtain ⟨o22, hoff⟩ := hoff.ex1 rfl; obtain ⟨o23, hoff⟩ := hoff.ex1 rfl; obtain ⟨o24, hoff⟩ := hoff.ex1 rfl; obtain ⟨o25, hoff⟩ := hoff.ex1 rfl; obtain ⟨o26, hoff⟩ := hoff.ex1 rfl; obtain ⟨o27, hoff⟩ := hoff.ex1 rfl; obtain ⟨o28, hoff⟩ := hoff.ex1 rfl; obtain ⟨o29, hoff⟩ := hoff.ex1 rfl; obtain ⟨o30, hoff⟩ := hoff.ex1 rfl
  obtain rfl := hoff.nil; clear hoff
  replace hv1 : o1 = some _ := hv1; subst hv1
  replace hv5 : o5 = some _ := hv5; subst hv5
  refine ev_seq ?_
  refine ev_seq ?_
  refine ev_region rfl ?_
  refine evOps_val rfl (x_move rfl) rfl ?_
  refine evOps_val rfl (x_field rfl (k := 3) (by kernel_rfl)) rfl ?_
  refine evOps_val rfl (x_load1 rfl (hst.get 0 rfl) (by kernel_rfl) rfl) rfl ?_
  refine evOps_val rfl (x_len' hk rfl rfl rfl (e := 105) (by kernel_rfl) rfl) rfl ?_
  refine evOps_val rfl (x_bin rfl rfl rfl) rfl ?_
  refine o_split rfl (x_move rfl) (fun _ => rfl) (fun h18 => ?_) (fun h18 => ?_)
  · skip
    refine evOps_val rfl (x_move rfl) rfl ?_
    refine evOps_val rfl (x_bin rfl rfl rfl) rfl ?_
    refine evOps_val rfl (x_pick rfl rfl) rfl ?_
    refine evOps_nil ?_
    refine thenQ_normal ?_
    refine ev_cond2 rfl (fun h21 => ?_) (fun h21 => ?_)
    · skip
      refine ev_skip ?_
      refine thenQ_normal ?_
      refine ev_seq ?_
      refine ev_block ?_
      refine ev_region rfl ?_
      refine evOps_val rfl (x_field rfl (k := 3) (by kernel_rfl)) rfl ?_
      refine evOps_val rfl (x_load1 rfl (hst.get 0 rfl) (by kernel_rfl) rfl) rfl ?_
      refine evOps_val rfl (x_move rfl) rfl ?_
      obtain ⟨x27, hx27, hi27⟩ := at_lt h18
      refine o_idx (e := 105) (m := 4) hk hx27 rfl rfl (by kernel_rfl) (by kernel_rfl) rfl rfl (fun _ => rfl) (fun p27 vs27 hp27 hl27 hr27 => ?_)
      obtain ⟨o27, n27, s27, v27, rfl, hk27⟩ := hr27.shape
      refine evOps_val rfl (x_ploadW hst hp27 rfl (by kernel_rfl) rfl) rfl ?_
      refine evOps_val rfl (x_move rfl) rfl ?_
      refine o_callV rfl (x_call rfl rfl rfl (by kernel_rfl)) (fun _ => rfl) (ih _ _ hr27 _ _ _ hst) (fun σ hst => ?_)
      refine evOps_val rfl (x_assign rfl) rfl ?_
      refine evOps_nil ?_
      refine blockQ_normal ?_
      refine thenQ_normal ?_
      refine ev_region rfl ?_
      refine evOps_val rfl (x_move rfl) rfl ?_
      refine evOps_val rfl (x_bin rfl rfl rfl) rfl ?_
      refine evOps_val rfl (x_assign rfl) rfl ?_
      refine evOps_nil ?_
      refine loopQ_normal ⟨j3 - 1, by omega, OffW.put rfl (OffW.put rfl (OffW.put rfl (OffW.put rfl (OffW.put rfl (OffW.put rfl (OffW.put rfl (OffW.put rfl (OffW.put rfl (OffW.put rfl (OffW.put rfl (OffW.put rfl (OffW.put rfl (OffW.put rfl (OffW.put rfl (OffW.put rfl (OffW.put rfl (OffW.put rfl (OffW.put rfl (OffW.put rfl (OffW.put rfl (OffW.put rfl (OffW.put rfl (OffW.put rfl (OffW.put rfl (OffW.put rfl (OffW.put rfl (OffW.put rfl (OffW.put rfl (OffW.put rfl (OffW.put rfl (OffW.put rfl (OffW.put rfl (OffW.put rfl (OffW.put rfl (OffW.put rfl (OffW.put rfl (OffW.put rfl (OffW.put rfl (OffW.put rfl (OffW.refl _ _)))))))))))))))))))))))))))))))))))))))), i + 1, _, by omega, hh.trans (heftL_step hx27 (notB_t h21)), rfl, congrArg (fun z => some (AV.int .i64 z)) (wr_succ (by have := hk.len_le; omega)), hst⟩
    · skip
      refine ev_exit ?_
      refine thenQ_exit ?_
      refine loopQ_exit ?_
      refine blockQ_exit ?_
      refine thenQ_normal ?_
      refine ev_seq ?_
      refine ev_region rfl ?_
      refine evOps_val rfl (x_move rfl) rfl ?_
      refine evOps_val rfl (x_assign rfl) rfl ?_
      refine evOps_nil ?_
      refine thenQ_normal ?_
      refine ev_ret ?_
      exact end_ret1 rfl rfl ⟨congrArg (AV.int .i64) (by rw [heftL_neg (notB_f h21)] at hh; rw [← hh]; rfl), hst.pop⟩
  · skip
    refine evOps_unwanted rfl rfl ?_
    refine evOps_unwanted rfl rfl ?_
    refine evOps_val rfl (x_pick rfl rfl) rfl ?_
    refine evOps_nil ?_
    refine thenQ_normal ?_
    refine ev_cond_false rfl ?_
    refine ev_exit ?_
    refine thenQ_exit ?_
    refine loopQ_exit ?_
    refine blockQ_exit ?_
    refine thenQ_normal ?_
    refine ev_seq ?_
    refine ev_region rfl ?_
    refine evOps_val rfl (x_move rfl) rfl ?_
    refine evOps_val rfl (x_assign rfl) rfl ?_
    refine evOps_nil ?_
    refine thenQ_normal ?_
    refine ev_ret ?_
    exact end_ret1 rfl rfl ⟨congrArg (AV.int .i64) (by rw [heftL_nil (lt_no h18)] at hh; rw [← hh]; rfl), hst.pop⟩
theorem w_Light {G : Cx} (hG : Plain G) {K : KP} {k : Nat} {x : XE} {vs : List AV} {σ : AHeap} {L : Own} (hst : St σ K L) (h : HasE K k x vs) (most : Int) : EvCall Try.prog G 74 [.agg vs, .int .i64 most] σ fun v σ' => v = .bool (lightE k x most) ∧ St σ' K L := by
  obtain ⟨o0, n0, s0, v0, rfl, hk⟩ := h.shape
  refine ev_body hG Try.func74 rfl (t := (PT.leaf.put (some (.agg _)) 0).put (some (.int .i64 most)) 1) (by rfl) ?_
  refine ev_seq ?_
  refine ev_region rfl ?_
  refine o_ptr hst rfl (x_box rfl rfl) (fun _ => rfl) (fun σ b1 hst => ?_)
  refine evOps_val rfl (x_assign rfl) rfl ?_
  refine evOps_nil ?_
  refine thenQ_normal ?_
  refine ev_seq ?_
  refine ev_region rfl ?_
  refine evOps_val rfl (x_loadN rfl (hst.get 0 rfl) (n := 4) (vs := [_, _, _, _]) (by kernel_rfl) (Nat.le_of_ble_eq_true rfl) rfl) rfl ?_
  refine evOps_val rfl (x_move rfl) rfl ?_
  refine o_callV rfl (x_call rfl rfl rfl (by kernel_rfl)) (fun _ => rfl) (w_heft hG _ _ _ h _ _ _ hst ) (fun σ hst => ?_)
  refine evOps_val rfl (x_bin rfl rfl rfl) rfl ?_
  refine evOps_val rfl (x_assign rfl) rfl ?_
  refine evOps_nil ?_
  refine thenQ_normal ?_
  refine ev_ret ?_
  exact end_ret1 rfl rfl ⟨rfl, hst.pop⟩
theorem w_LightCode {G : Cx} (hG : Plain G) {K : KP} {k : Nat} {x : XC} {vs : List AV} {σ : AHeap} {L : Own} (hst : St σ K L) (h : HasC K k x vs) (most : Int) : EvCall Try.prog G 34 [.agg vs, .int .i64 most] σ fun v σ' => v = .bool (lightX k most x) ∧ St σ' K L := by
  have h' := h; obtain ⟨v0, rfl, hk⟩ := h'
  refine ev_body hG Try.func34 rfl (t := (PT.leaf.put (some (.agg _)) 0).put (some (.int .i64 most)) 1) (by rfl) ?_
  refine ev_seq ?_
  refine ev_region rfl ?_
  refine o_ptr hst rfl (x_box rfl rfl) (fun _ => rfl) (fun σ b1 hst => ?_)
  refine evOps_val rfl (x_assign rfl) rfl ?_
  refine evOps_nil ?_
  refine thenQ_normal ?_
  refine ev_seq ?_
  refine ev_seq ?_
  refine ev_region rfl ?_
  refine evOps_val rfl (x_field rfl (k := 1) (by kernel_rfl)) rfl ?_
  refine evOps_val rfl (x_load1 rfl (hst.get 0 rfl) (by kernel_rfl) rfl) rfl ?_
  refine evOps_val rfl (x_len' hk rfl rfl rfl (e := 102) (by kernel_rfl) rfl) rfl ?_
  refine evOps_val rfl (x_move rfl) rfl ?_
  refine evOps_val rfl (x_bin rfl rfl rfl) rfl ?_
  refine evOps_nil ?_
  refine thenQ_normal ?_
  refine ev_cond2 rfl (fun h11 => ?_) (fun h11 => ?_)
  · skip
    refine ev_seq ?_
    refine ev_region rfl ?_
    refine evOps_val rfl (x_assign rfl) rfl ?_
    refine evOps_nil ?_
    refine thenQ_normal ?_
    refine ev_ret ?_
    refine thenQ_ret (?_)
    exact end_ret1 rfl rfl ⟨congrArg AV.bool (by unfold lightX; rw [h11]; rfl), hst.pop⟩
  · skip
    refine ev_skip ?_
    refine thenQ_normal ?_
    refine ev_seq ?_
    refine ev_seq ?_
    refine ev_region rfl ?_
    refine evOps_val rfl (x_assign rfl) rfl ?_
    refine evOps_nil ?_
    refine thenQ_normal ?_
    refine ev_block ?_
    obtain ⟨LL1, hst, hLL1⟩ := hst.named
    refine ev_loopW [4, 5, 6, 12, 13, 14, 15, 16, 17, 18, 19, 20, 21, 22, 23, 24, 25, 26, 27, 28, 29, 30, 31, 32, 33, 34, 35, 36, 37, 38, 39, 40, 41, 42, 43, 44, 45, 46, 47, 48] (fun j t σ => ∃ (i : Nat), j + i = x.ins.length ∧ (x.ins.take i).all (lightI k) = true ∧ t.get 5 = some (.int .i64 (.ofNat i)) ∧ St σ K LL1) (x.ins.length) ⟨0, rfl, rfl, rfl, hst⟩ ?_
    clear hst; intro j4 t σ hoff hI; obtain ⟨i, hj, ha, hv5, hst⟩ := hI
    subst hLL1
    obtain ⟨o4, hoff⟩ := hoff.ex1 rfl; obtain ⟨o5, hoff⟩ := hoff.ex1 rfl; obtain ⟨o6, hoff⟩ := hoff.ex1 rfl; obtain ⟨o12, hoff⟩ := hoff.ex1 rfl; obtain ⟨o13, hoff⟩ := hoff.ex1 rfl; obtain ⟨o14, hoff⟩ := hoff.ex1 rfl; obtain ⟨o15, hoff⟩ := hoff.ex1 rfl; obtain ⟨o16, hoff⟩ := hoff.ex1 rfl; obtain ⟨o17, hoff⟩ := hoff.ex1 rfl; obtain ⟨o18, hoff⟩ := hoff.ex1 rfl; obtain ⟨o19, hoff⟩ := hoff.ex1 rfl; obtain ⟨o20, hoff⟩ := hoff.ex1 rfl; obtain ⟨o21, hoff⟩ := hoff.ex1 rfl; obtain ⟨o22, hoff⟩ := hoff.ex1 rfl; obtain ⟨o23, hoff⟩ := hoff.ex1 rfl; obtain ⟨o24, hoff⟩ := hoff.ex1 rfl; obtain ⟨o25, hoff⟩ := hoff.ex1 rfl; obtain ⟨o26, hoff⟩ := hoff.ex1 rfl; obtain ⟨o27, hoff⟩ := hoff.ex1 rfl; obtain ⟨o28, hoff⟩ := hoff.ex1 rfl; obtain ⟨o29, hoff⟩ := hoff.ex1 rfl; obtain ⟨o30, hoff⟩ := hoff.ex1 rfl; obtain ⟨o31, hoff⟩ := hoff.ex1 rfl; obtain ⟨o32, hoff⟩ := hoff.ex1 rfl; obtain ⟨o33, hoff⟩ := hoff.ex1 rfl; obtain ⟨o34, hoff⟩ := hoff.ex1 rfl; obtain ⟨o35, hoff⟩ := hoff.ex1 rfl; obtain ⟨o36, hoff⟩ := hoff.ex1 rfl; obtain ⟨o37, hoff⟩ := hoff.ex1 rfl; obtain ⟨o38, hoff⟩ := hoff.ex1 rfl; obtain ⟨o39, hoff⟩ := hoff.ex1 rfl; obtain ⟨o40, hoff⟩ := hoff.ex1 rfl; obtain ⟨o41, hoff⟩ := hoff.ex1 rfl; obtain ⟨o42, hoff⟩ := hoff.ex1 rfl; obtain ⟨o43, hoff⟩ := hoff.ex1 rfl; obtain ⟨o44, hoff⟩ := hoff.ex1 rfl; obtain ⟨o45, hoff⟩ := hoff.ex1 rfl; obtain ⟨o46, hoff⟩ := hoff.ex1 rfl; obtain ⟨o47, hoff⟩ := hoff.ex1 rfl; obtain ⟨o48, hoff⟩ := hoff.ex1 rfl
    obtain rfl := hoff.nil; clear hoff
    replace hv5 : o5 = some _ := hv5; subst hv5
    refine ev_seq ?_
    refine ev_seq ?_
    refine ev_region rfl ?_
    refine evOps_val rfl (x_move rfl) rfl ?_
    refine evOps_val rfl (x_field rfl (k := 1) (by kernel_rfl)) rfl ?_
    refine evOps_val rfl (x_load1 rfl (hst.get 0 rfl) (by kernel_rfl) rfl) rfl ?_
    refine evOps_val rfl (x_len' hk rfl rfl rfl (e := 102) (by kernel_rfl) rfl) rfl ?_
    refine evOps_val rfl (x_bin rfl rfl rfl) rfl ?_
    refine evOps_nil ?_
    refine thenQ_normal ?_
    refine ev_cond2 rfl (fun h16 => ?_) (fun h16 => ?_)
    · skip
      refine ev_skip ?_
      refine thenQ_normal ?_
      refine ev_seq ?_
      refine ev_block ?_
      refine ev_seq ?_
      refine ev_seq ?_
      refine ev_region rfl ?_
      refine evOps_val rfl (x_field rfl (k := 1) (by kernel_rfl)) rfl ?_
      refine evOps_val rfl (x_load1 rfl (hst.get 0 rfl) (by kernel_rfl) rfl) rfl ?_
      refine evOps_val rfl (x_move rfl) rfl ?_
      obtain ⟨x22, hx22, hi22⟩ := at_lt h16
      refine o_idx (e := 102) (m := 6) hk hx22 rfl rfl (by kernel_rfl) (by kernel_rfl) rfl rfl (fun _ => rfl) (fun p22 vs22 hp22 hl22 hr22 => ?_)
      have hr22' := hr22; obtain ⟨v22, rfl, hk22⟩ := hr22'
      refine o_pfield hp22 rfl rfl rfl (k := 5) (by kernel_rfl) (Nat.le_of_ble_eq_true rfl) (fun _ => rfl) (fun p23 hp23 => ?_)
      refine evOps_val rfl (x_pload1 hst hp23 rfl (by kernel_rfl) rfl) rfl ?_
      refine evOps_val rfl (x_len' hk22 rfl rfl rfl (e := 105) (by kernel_rfl) rfl) rfl ?_
      refine evOps_val rfl (x_bin rfl rfl rfl) rfl ?_
      refine evOps_nil ?_
      refine thenQ_normal ?_
      refine ev_cond2 rfl (fun h26 => ?_) (fun h26 => ?_)
      · skip
        refine ev_seq ?_
        refine ev_region rfl ?_
        refine evOps_val rfl (x_assign rfl) rfl ?_
        refine evOps_nil ?_
        refine thenQ_normal ?_
        refine ev_ret ?_
        refine thenQ_ret (blockQ_ret (thenQ_ret (loopQ_ret (blockQ_ret (thenQ_ret (?_))))))
        exact end_ret1 rfl rfl ⟨congrArg AV.bool (by unfold lightX; rw [h11, all_at hx22 (by unfold lightI; rw [h26]; rfl)]; rfl), hst.pop⟩
      · skip
        refine ev_skip ?_
        refine thenQ_normal ?_
        refine ev_seq ?_
        refine ev_region rfl ?_
        refine evOps_val rfl (x_assign rfl) rfl ?_
        refine evOps_nil ?_
        refine thenQ_normal ?_
        refine ev_block ?_
        obtain ⟨LL2, hst, hLL2⟩ := hst.named
        refine ev_loopW [4, 6, 27, 28, 29, 30, 31, 32, 33, 34, 35, 36, 37, 38, 39, 40, 41, 42, 43, 44, 45, 46, 47, 48] (fun j t σ => ∃ (i2 : Nat), j + i2 = x22.exprs.length ∧ (x22.exprs.take i2).all (fun e => lightE k e 60) = true ∧ t.get 6 = some (.int .i64 (.ofNat i2)) ∧ St σ K LL2) (x22.exprs.length) ⟨0, rfl, rfl, rfl, hst⟩ ?_
        clear hst; intro j9 t σ hoff hI; obtain ⟨i2, hj2, ha2, hv6, hst⟩ := hI
        subst hLL2
        obtain ⟨o4, hoff⟩ := hoff.ex1 rfl; obtain ⟨o6, hoff⟩ := hoff.ex1 rfl; obtain ⟨o27, hoff⟩ := hoff.ex1 rfl; obtain ⟨o28, hoff⟩ := hoff.ex1 rfl; obtain ⟨o29, hoff⟩ := hoff.ex1 rfl; obtain ⟨o30, hoff⟩ := hoff.ex1 rfl; obtain ⟨o31, hoff⟩ := hoff.ex1 rfl; obtain ⟨o32, hoff⟩ := hoff.ex1 rfl; obtain ⟨o33, hoff⟩ := hoff.ex1 rfl; obtain ⟨o34, hoff⟩ := hoff.ex1 rfl; obtain ⟨o35, hoff⟩ := hoff.ex1 rfl; obtain ⟨o36, hoff⟩ := hoff.ex1 rfl; obtain ⟨o37, hoff⟩ := hoff.ex1 rfl; obtain ⟨o38, hoff⟩ := hoff.ex1 rfl; obtain ⟨o39, hoff⟩ := hoff.ex1 rfl; obtain ⟨o40, hoff⟩ := hoff.ex1 rfl; obtain ⟨o41, hoff⟩ := hoff.ex1 rfl; obtain ⟨o42, hoff⟩ := hoff.ex1 rfl; obtain ⟨o43, hoff⟩ := hoff.ex1 rfl; obtain ⟨o44, hoff⟩ := hoff.ex1 rfl; obtain ⟨o45, hoff⟩ := hoff.ex1 rfl; obtain ⟨o46, hoff⟩ := hoff.ex1 rfl; obtain ⟨o47, hoff⟩ := hoff.ex1 rfl; obtain ⟨o48, hoff⟩ := hoff.ex1 rfl
        obtain rfl := hoff.nil; clear hoff
        replace hv6 : o6 = some _ := hv6; subst hv6
        refine ev_seq ?_
        refine ev_seq ?_
        refine ev_region rfl ?_
        refine evOps_val rfl (x_move rfl) rfl ?_
        refine evOps_val rfl (x_field rfl (k := 1) (by kernel_rfl)) rfl ?_
        refine evOps_val rfl (x_load1 rfl (hst.get 0 rfl) (by kernel_rfl) rfl) rfl ?_
        refine evOps_val rfl (x_move rfl) rfl ?_
        refine o_idx (e := 102) (m := 6) hk hx22 rfl rfl (by kernel_rfl) (by kernel_rfl) rfl rfl (fun _ => rfl) (fun p31 vs31 hp31 hl31 hr31 => ?_)
        have hr31' := hr31; obtain ⟨v31, rfl, hk31⟩ := hr31'
        refine o_pfield hp31 rfl rfl rfl (k := 5) (by kernel_rfl) (Nat.le_of_ble_eq_true rfl) (fun _ => rfl) (fun p32 hp32 => ?_)
        refine evOps_val rfl (x_pload1 hst hp32 rfl (by kernel_rfl) rfl) rfl ?_
        refine evOps_val rfl (x_len' hk31 rfl rfl rfl (e := 105) (by kernel_rfl) rfl) rfl ?_
        refine evOps_val rfl (x_bin rfl rfl rfl) rfl ?_
        refine evOps_nil ?_
        refine thenQ_normal ?_
        refine ev_cond2 rfl (fun h35 => ?_) (fun h35 => ?_)
        · skip
          refine ev_skip ?_
          refine thenQ_normal ?_
          refine ev_seq ?_
          refine ev_block ?_
          refine ev_seq ?_
          refine ev_region rfl ?_
          refine evOps_val rfl (x_field rfl (k := 1) (by kernel_rfl)) rfl ?_
          refine evOps_val rfl (x_load1 rfl (hst.get 0 rfl) (by kernel_rfl) rfl) rfl ?_
          refine evOps_val rfl (x_move rfl) rfl ?_
          refine o_idx (e := 102) (m := 6) hk hx22 rfl rfl (by kernel_rfl) (by kernel_rfl) rfl rfl (fun _ => rfl) (fun p41 vs41 hp41 hl41 hr41 => ?_)
          have hr41' := hr41; obtain ⟨v41, rfl, hk41⟩ := hr41'
          refine o_pfield hp41 rfl rfl rfl (k := 5) (by kernel_rfl) (Nat.le_of_ble_eq_true rfl) (fun _ => rfl) (fun p42 hp42 => ?_)
          refine evOps_val rfl (x_pload1 hst hp42 rfl (by kernel_rfl) rfl) rfl ?_
          refine evOps_val rfl (x_move rfl) rfl ?_
          obtain ⟨x45, hx45, hi45⟩ := at_lt h35
          refine o_idx (e := 105) (m := 4) hk41 hx45 rfl rfl (by kernel_rfl) (by kernel_rfl) rfl rfl (fun _ => rfl) (fun p45 vs45 hp45 hl45 hr45 => ?_)
          obtain ⟨o45, n45, s45, v45, rfl, hk45⟩ := hr45.shape
          refine evOps_val rfl (x_ploadW hst hp45 rfl (by kernel_rfl) rfl) rfl ?_
          refine o_callV rfl (x_call rfl rfl rfl (by kernel_rfl)) (fun _ => rfl) (w_Light hG hst hr45 _) (fun σ hst => ?_)
          refine evOps_val rfl (x_not rfl) rfl ?_
          refine evOps_nil ?_
          refine thenQ_normal ?_
          refine ev_cond2 rfl (fun h48 => ?_) (fun h48 => ?_)
          · skip
            refine ev_seq ?_
            refine ev_region rfl ?_
            refine evOps_val rfl (x_assign rfl) rfl ?_
            refine evOps_nil ?_
            refine thenQ_normal ?_
            refine ev_ret ?_
            refine blockQ_ret (thenQ_ret (loopQ_ret (blockQ_ret (blockQ_ret (thenQ_ret (loopQ_ret (blockQ_ret (thenQ_ret (?_)))))))))
            exact end_ret1 rfl rfl ⟨congrArg AV.bool (by unfold lightX; rw [h11, all_at hx22 (by unfold lightI; rw [h26, all_at hx45 (by simpa using h48)]; rfl)]; rfl), hst.pop⟩
          · skip
            refine ev_skip ?_
            refine blockQ_normal ?_
            refine thenQ_normal ?_
            refine ev_region rfl ?_
            refine evOps_val rfl (x_move rfl) rfl ?_
            refine evOps_val rfl (x_bin rfl rfl rfl) rfl ?_
            refine evOps_val rfl (x_assign rfl) rfl ?_
            refine evOps_nil ?_
            refine loopQ_normal ⟨j9 - 1, by omega, OffW.put rfl (OffW.put rfl (OffW.put rfl (OffW.put rfl (OffW.put rfl (OffW.put rfl (OffW.put rfl (OffW.put rfl (OffW.put rfl (OffW.put rfl (OffW.put rfl (OffW.put rfl (OffW.put rfl (OffW.put rfl (OffW.put rfl (OffW.put rfl (OffW.put rfl (OffW.put rfl (OffW.put rfl (OffW.put rfl (OffW.put rfl (OffW.put rfl (OffW.put rfl (OffW.put rfl (OffW.put rfl (OffW.put rfl (OffW.put rfl (OffW.put rfl (OffW.put rfl (OffW.put rfl (OffW.put rfl (OffW.put rfl (OffW.put rfl (OffW.put rfl (OffW.put rfl (OffW.put rfl (OffW.put rfl (OffW.put rfl (OffW.put rfl (OffW.put rfl (OffW.put rfl (OffW.put rfl (OffW.put rfl (OffW.put rfl (OffW.put rfl (OffW.put rfl (OffW.put rfl (OffW.refl _ _))))))))))))))))))))))))))))))))))))))))))))))), i2 + 1, by omega, all_step ha2 hx45 (by simpa using h48), congrArg (fun z => some (AV.int .i64 z)) (wr_succ (by have := hk22.len_le; omega)), hst⟩
        · skip
          refine ev_exit ?_
          refine thenQ_exit ?_
          refine loopQ_exit ?_
          refine blockQ_exit ?_
          refine blockQ_normal ?_
          refine thenQ_normal ?_
          refine ev_region rfl ?_
          refine evOps_val rfl (x_move rfl) rfl ?_
          refine evOps_val rfl (x_bin rfl rfl rfl) rfl ?_
          refine evOps_val rfl (x_assign rfl) rfl ?_
          refine evOps_nil ?_
          refine loopQ_normal ⟨j4 - 1, by omega, OffW.put rfl (OffW.put rfl (OffW.put rfl (OffW.put rfl (OffW.put rfl (OffW.put rfl (OffW.put rfl (OffW.put rfl (OffW.put rfl (OffW.put rfl (OffW.put rfl (OffW.put rfl (OffW.put rfl (OffW.put rfl (OffW.put rfl (OffW.put rfl (OffW.put rfl (OffW.put rfl (OffW.put rfl (OffW.put rfl (OffW.put rfl (OffW.put rfl (OffW.put rfl (OffW.put rfl (OffW.put rfl (OffW.put rfl (OffW.put rfl (OffW.put rfl (OffW.put rfl (OffW.put rfl (OffW.put rfl (OffW.put rfl (OffW.put rfl (OffW.put rfl (OffW.put rfl (OffW.put rfl (OffW.put rfl (OffW.put rfl (OffW.put rfl (OffW.put rfl (OffW.put rfl (OffW.put rfl (OffW.put rfl (OffW.put rfl (OffW.put rfl (OffW.put rfl (OffW.put rfl (OffW.put rfl (OffW.put rfl (OffW.put rfl (OffW.put rfl (OffW.put rfl (OffW.put rfl (OffW.put rfl (OffW.put rfl (OffW.put rfl (OffW.put rfl (OffW.put rfl (OffW.put rfl (OffW.put rfl (OffW.put rfl (OffW.put rfl (OffW.put rfl (OffW.put rfl (OffW.put rfl (OffW.put rfl (OffW.put rfl (OffW.put rfl (OffW.put rfl (OffW.put rfl (OffW.put rfl (OffW.put rfl (OffW.put rfl (OffW.put rfl (OffW.put rfl (OffW.put rfl (OffW.put rfl (OffW.put rfl (OffW.put rfl (OffW.put rfl (OffW.put rfl (OffW.put rfl (OffW.put rfl (OffW.put rfl (OffW.put rfl (OffW.put rfl (OffW.put rfl (OffW.put rfl (OffW.put rfl (OffW.put rfl (OffW.refl _ _)))))))))))))))))))))))))))))))))))))))))))))))))))))))))))))))))))))))))))))))))))))))))), i + 1, by omega, all_step ha hx22 (by unfold lightI; rw [h26, all_end ha2 (lt_no h35)]; rfl), congrArg (fun z => some (AV.int .i64 z)) (wr_succ (by have := hk.len_le; omega)), hst⟩
    · skip
      refine ev_exit ?_
      refine thenQ_exit ?_
      refine loopQ_exit ?_
      refine blockQ_exit ?_
      refine thenQ_normal ?_
      refine ev_seq ?_
      refine ev_region rfl ?_
      refine evOps_val rfl (x_assign rfl) rfl ?_
      refine evOps_nil ?_
      refine thenQ_normal ?_
      refine ev_ret ?_
      exact end_ret1 rfl rfl ⟨congrArg AV.bool (by unfold lightX; rw [h11, all_end ha (lt_no h16)]; rfl), hst.pop⟩
theorem w_LightCodes {G : Cx} (hG : Plain G) {K : KP} {k : Nat} {l : List XC} {v : AV} {σ : AHeap} {L : Own} (hst : St σ K L) (h : HasS K 2 (HasC K k) l v) (most : Int) : EvCall Try.prog G 8 [v, .int .i64 most] σ fun v σ' => v = .bool (lightXs k most l) ∧ St σ' K L := by
  refine ev_body hG Try.func8 rfl (t := (PT.leaf.put (some (v)) 0).put (some (.int .i64 most)) 1) (by rfl) ?_
  refine ev_seq ?_
  refine ev_region rfl ?_
  refine evOps_val rfl (x_assign rfl) rfl ?_
  refine evOps_nil ?_
  refine thenQ_normal ?_
  refine ev_seq ?_
  refine ev_seq ?_
  refine ev_region rfl ?_
  refine evOps_val rfl (x_assign rfl) rfl ?_
  refine evOps_nil ?_
  refine thenQ_normal ?_
  refine ev_block ?_
  obtain ⟨LL1, hst, hLL1⟩ := hst.named
  refine ev_loopW [4, 5, 6, 7, 8, 9, 10, 11, 12, 13, 14, 15, 16, 17, 18, 19, 20, 21, 22] (fun j t σ => ∃ (i : Nat), j + i = l.length ∧ (l.take i).all (lightX k most) = true ∧ t.get 5 = some (.int .i64 (.ofNat i)) ∧ St σ K LL1) (l.length) ⟨0, rfl, rfl, rfl, hst⟩ ?_
  clear hst; intro j2 t σ hoff hI; obtain ⟨i, hj, ha, hv5, hst⟩ := hI
  subst hLL1
  obtain ⟨o4, hoff⟩ := hoff.ex1 rfl; obtain ⟨o5, hoff⟩ := hoff.ex1 rfl; obtain ⟨o6, hoff⟩ := hoff.ex1 rfl; obtain ⟨o7, hoff⟩ := hoff.ex1 rfl; obtain ⟨o8, hoff⟩ := hoff.ex1 rfl; obtain ⟨o9, hoff⟩ := hoff.ex1 rfl; obtain ⟨o10, hoff⟩ := hoff.ex1 rfl; obtain ⟨o11, hoff⟩ := hoff.ex1 rfl; obtain ⟨o12, hoff⟩ := hoff.ex1 rfl; obtain ⟨o13, hoff⟩ := hoff.ex1 rfl; obtain ⟨o14, hoff⟩ := hoff.ex1 rfl; obtain ⟨o15, hoff⟩ := hoff.ex1 rfl; obtain ⟨o16, hoff⟩ := hoff.ex1 rfl; obtain ⟨o17, hoff⟩ := hoff.ex1 rfl; obtain ⟨o18, hoff⟩ := hoff.ex1 rfl; obtain ⟨o19, hoff⟩ := hoff.ex1 rfl; obtain ⟨o20, hoff⟩ := hoff.ex1 rfl; obtain ⟨o21, hoff⟩ := hoff.ex1 rfl; obtain ⟨o22, hoff⟩ := hoff.ex1 rfl
  obtain rfl := hoff.nil; clear hoff
  replace hv5 : o5 = some _ := hv5; subst hv5
  refine ev_seq ?_
  refine ev_seq ?_
  refine ev_region rfl ?_
  refine evOps_val rfl (x_move rfl) rfl ?_
  refine evOps_val rfl (x_move rfl) rfl ?_
  refine evOps_val rfl (x_len' h rfl rfl rfl (e := 38) (by kernel_rfl) rfl) rfl ?_
  refine evOps_val rfl (x_bin rfl rfl rfl) rfl ?_
  refine o_split rfl (x_move rfl) (fun _ => rfl) (fun h10 => ?_) (fun h10 => ?_)
  · skip
    refine evOps_val rfl (x_move rfl) rfl ?_
    refine evOps_val rfl (x_bin rfl rfl rfl) rfl ?_
    refine evOps_val rfl (x_pick rfl rfl) rfl ?_
    refine evOps_nil ?_
    refine thenQ_normal ?_
    refine ev_cond2 rfl (fun h13 => ?_) (fun h13 => ?_)
    · skip
      refine ev_skip ?_
      refine thenQ_normal ?_
      refine ev_seq ?_
      refine ev_block ?_
      refine ev_seq ?_
      refine ev_region rfl ?_
      refine evOps_val rfl (x_move rfl) rfl ?_
      refine evOps_val rfl (x_move rfl) rfl ?_
      obtain ⟨x18, hx18, hi18⟩ := at_lt h10
      refine o_idx (e := 38) (m := 2) h hx18 rfl rfl (by kernel_rfl) (by kernel_rfl) rfl rfl (fun _ => rfl) (fun p18 vs18 hp18 hl18 hr18 => ?_)
      have hr18' := hr18; obtain ⟨v18, rfl, hk18⟩ := hr18'
      refine evOps_val rfl (x_ploadW hst hp18 rfl (by kernel_rfl) rfl) rfl ?_
      refine evOps_val rfl (x_move rfl) rfl ?_
      refine o_callV rfl (x_call rfl rfl rfl (by kernel_rfl)) (fun _ => rfl) (w_LightCode hG hst hr18 _) (fun σ hst => ?_)
      refine evOps_val rfl (x_not rfl) rfl ?_
      refine evOps_nil ?_
      refine thenQ_normal ?_
      refine ev_cond2 rfl (fun h22 => ?_) (fun h22 => ?_)
      · skip
        refine ev_seq ?_
        refine ev_region rfl ?_
        refine evOps_val rfl (x_assign rfl) rfl ?_
        refine evOps_nil ?_
        refine thenQ_normal ?_
        refine ev_ret ?_
        refine blockQ_ret (thenQ_ret (loopQ_ret (blockQ_ret (thenQ_ret (?_)))))
        exact end_ret1 rfl rfl ⟨congrArg AV.bool (by unfold lightXs; rw [all_at' hx18 (lt_yes h13) (by simpa using h22)]; rfl), hst⟩
      · skip
        refine ev_skip ?_
        refine blockQ_normal ?_
        refine thenQ_normal ?_
        refine ev_region rfl ?_
        refine evOps_val rfl (x_move rfl) rfl ?_
        refine evOps_val rfl (x_bin rfl rfl rfl) rfl ?_
        refine evOps_val rfl (x_assign rfl) rfl ?_
        refine evOps_nil ?_
        refine loopQ_normal ⟨j2 - 1, by omega, OffW.put rfl (OffW.put rfl (OffW.put rfl (OffW.put rfl (OffW.put rfl (OffW.put rfl (OffW.put rfl (OffW.put rfl (OffW.put rfl (OffW.put rfl (OffW.put rfl (OffW.put rfl (OffW.put rfl (OffW.put rfl (OffW.put rfl (OffW.put rfl (OffW.put rfl (OffW.put rfl (OffW.put rfl (OffW.put rfl (OffW.put rfl (OffW.put rfl (OffW.put rfl (OffW.put rfl (OffW.put rfl (OffW.put rfl (OffW.put rfl (OffW.put rfl (OffW.put rfl (OffW.put rfl (OffW.put rfl (OffW.put rfl (OffW.put rfl (OffW.put rfl (OffW.put rfl (OffW.put rfl (OffW.put rfl (OffW.refl _ _))))))))))))))))))))))))))))))))))))), i + 1, by omega, all_step ha hx18 (by simpa using h22), congrArg (fun z => some (AV.int .i64 z)) (wr_succ (by have := h.len_le; omega)), hst⟩
    · skip
      refine ev_exit ?_
      refine thenQ_exit ?_
      refine loopQ_exit ?_
      refine blockQ_exit ?_
      refine thenQ_normal ?_
      refine ev_seq ?_
      refine ev_region rfl ?_
      refine evOps_val rfl (x_move rfl) rfl ?_
      refine evOps_val rfl (x_len' h rfl rfl rfl (e := 38) (by kernel_rfl) rfl) rfl ?_
      refine evOps_val rfl (x_bin rfl rfl rfl) rfl ?_
      refine evOps_val rfl (x_assign rfl) rfl ?_
      refine evOps_nil ?_
      refine thenQ_normal ?_
      refine ev_ret ?_
      exact end_ret1 rfl rfl ⟨congrArg AV.bool (by unfold lightXs; rw [all_end' ha (lt_no h13)]; rfl), hst⟩
  · skip
    refine evOps_unwanted rfl rfl ?_
    refine evOps_unwanted rfl rfl ?_
    refine evOps_val rfl (x_pick rfl rfl) rfl ?_
    refine evOps_nil ?_
    refine thenQ_normal ?_
    refine ev_cond_false rfl ?_
    refine ev_exit ?_
    refine thenQ_exit ?_
    refine loopQ_exit ?_
    refine blockQ_exit ?_
    refine thenQ_normal ?_
    refine ev_seq ?_
    refine ev_region rfl ?_
    refine evOps_val rfl (x_move rfl) rfl ?_
    refine evOps_val rfl (x_len' h rfl rfl rfl (e := 38) (by kernel_rfl) rfl) rfl ?_
    refine evOps_val rfl (x_bin rfl rfl rfl) rfl ?_
    refine evOps_val rfl (x_assign rfl) rfl ?_
    refine evOps_nil ?_
    refine thenQ_normal ?_
    refine ev_ret ?_
    exact end_ret1 rfl rfl ⟨congrArg AV.bool (by unfold lightXs; rw [all_end (i := i) (by rw [List.take_take]; exact all_end' ha (Nat.min_le_left _ _)) (by rw [List.length_take]; have := lt_no h10; omega)]; rfl), hst⟩
theorem w_EqualFuncE {G : Cx} (hG : Plain G) {K : KP} {k1 k2 : Nat} {l1 l2 : List XE} {v1 v2 : AV} {σ : AHeap} {L : Own} (hst : St σ K L) (h1 : HasS K 4 (HasE K k1) l1 v1) (h2 : HasS K 4 (HasE K k2) l2 v2)
    (hcall : ∀ x y vx vy σ L, St σ K L → HasE K k1 x vx → HasE K k2 y vy → EvCall Try.prog G 104 [.agg vx, .agg vy] σ fun v σ' => v = .bool (sameX x y) ∧ St σ' K L) :
    EvCall Try.prog G 103 [v1, v2, .func 104 [] []] σ fun v σ' => v = .bool (sameX l1 l2) ∧ St σ' K L := by
  refine ev_body hG Try.func103 rfl (t := ((PT.leaf.put (some (v1)) 0).put (some (v2)) 1).put (some (.func 104 [] [])) 2) (by rfl) ?_
  refine ev_seq ?_
  refine ev_region rfl ?_
  refine evOps_val rfl (x_assign rfl) rfl ?_
  refine evOps_nil ?_
  refine thenQ_normal ?_
  refine ev_seq ?_
  refine ev_seq ?_
  refine ev_region rfl ?_
  refine evOps_val rfl (x_move rfl) rfl ?_
  refine evOps_val rfl (x_len' h1 rfl rfl rfl (e := 105) (by kernel_rfl) rfl) rfl ?_
  refine evOps_val rfl (x_move rfl) rfl ?_
  refine evOps_val rfl (x_len' h2 rfl rfl rfl (e := 105) (by kernel_rfl) rfl) rfl ?_
  refine evOps_val rfl (x_bin rfl rfl rfl) rfl ?_
  refine evOps_nil ?_
  refine thenQ_normal ?_
  refine ev_cond2 rfl (fun h14 => ?_) (fun h14 => ?_)
  · skip
    refine ev_seq ?_
    refine ev_region rfl ?_
    refine evOps_val rfl (x_assign rfl) rfl ?_
    refine evOps_nil ?_
    refine thenQ_normal ?_
    refine ev_ret ?_
    refine thenQ_ret (?_)
    exact end_ret1 rfl rfl ⟨by first | rw [sameX_len (notB_t h14)] | rw [sameX_at hx20 hx24 (by simpa using h30)] | rw [sameX_all (len_of (notB_f h14)) (lt_no h18) hsame], hst⟩
  · skip
    refine ev_skip ?_
    refine thenQ_normal ?_
    refine ev_seq ?_
    refine ev_seq ?_
    refine ev_region rfl ?_
    refine evOps_val rfl (x_move rfl) rfl ?_
    refine evOps_val rfl (x_len' h1 rfl rfl rfl (e := 105) (by kernel_rfl) rfl) rfl ?_
    refine evOps_val rfl (x_move rfl) rfl ?_
    refine evOps_nil ?_
    refine thenQ_normal ?_
    refine ev_block ?_
    obtain ⟨LL1, hst, hLL1⟩ := hst.named
    refine ev_loopW [6, 7, 8, 9, 17, 18, 19, 20, 21, 22, 23, 24, 25, 26, 27, 28, 29, 30, 31] (fun j t σ => ∃ (i : Nat), j + i = l1.length ∧ (∀ k, k < i → l1[k]? = l2[k]?) ∧ t.get 17 = some (.int .i64 (.ofNat i)) ∧ St σ K LL1) (l1.length) ⟨0, rfl, fun k hk => absurd hk (Nat.not_lt_zero _), rfl, hst⟩ ?_
    clear hst; intro j4 t σ hoff hI; obtain ⟨i, hj, hsame, hv17, hst⟩ := hI
    subst hLL1
    obtain ⟨o6, hoff⟩ := hoff.ex1 rfl; obtain ⟨o7, hoff⟩ := hoff.ex1 rfl; obtain ⟨o8, hoff⟩ := hoff.ex1 rfl; obtain ⟨o9, hoff⟩ := hoff.ex1 rfl; obtain ⟨o17, hoff⟩ := hoff.ex1 rfl; obtain ⟨o18, hoff⟩ := hoff.ex1 rfl; obtain ⟨o19, hoff⟩ := hoff.ex1 rfl; obtain ⟨o20, hoff⟩ := hoff.ex1 rfl; obtain ⟨o21, hoff⟩ := hoff.ex1 rfl; obtain ⟨o22, hoff⟩ := hoff.ex1 rfl; obtain ⟨o23, hoff⟩ := hoff.ex1 rfl; obtain ⟨o24, hoff⟩ := hoff.ex1 rfl; obtain ⟨o25, hoff⟩ := hoff.ex1 rfl; obtain ⟨o26, hoff⟩ := hoff.ex1 rfl; obtain ⟨o27, hoff⟩ := hoff.ex1 rfl; obtain ⟨o28, hoff⟩ := hoff.ex1 rfl; obtain ⟨o29, hoff⟩ := hoff.ex1 rfl; obtain ⟨o30, hoff⟩ := hoff.ex1 rfl; obtain ⟨o31, hoff⟩ := hoff.ex1 rfl
    obtain rfl := hoff.nil; clear hoff
    replace hv17 : o17 = some _ := hv17; subst hv17
    refine ev_seq ?_
    refine ev_region rfl ?_
    refine evOps_val rfl (x_bin rfl rfl rfl) rfl ?_
    refine evOps_nil ?_
    refine thenQ_normal ?_
    refine ev_seq ?_
    refine ev_cond2 rfl (fun h18 => ?_) (fun h18 => ?_)
    · skip
      refine ev_skip ?_
      refine thenQ_normal ?_
      refine ev_seq ?_
      refine ev_block ?_
      refine ev_seq ?_
      refine ev_region rfl ?_
      refine evOps_val rfl (x_move rfl) rfl ?_
      obtain ⟨x20, hx20, hi20⟩ := at_lt h18
      refine o_idx (e := 105) (m := 4) h1 hx20 rfl rfl (by kernel_rfl) (by kernel_rfl) rfl rfl (fun _ => rfl) (fun p20 vs20 hp20 hl20 hr20 => ?_)
      obtain ⟨o20, n20, s20, v20, rfl, hk20⟩ := hr20.shape
      refine evOps_val rfl (x_ploadW hst hp20 rfl (by kernel_rfl) rfl) rfl ?_
      refine o_ptr hst rfl (x_new (cs := [.int .i64 0, .int .i64 0, .str [], .nilSlice]) (by kernel_rfl) (by kernel_rfl)) (fun _ => rfl) (fun σ b1 hst => ?_)
      refine evOps_val rfl (x_assign rfl) rfl ?_
      refine o_set0 hst rfl (x_storeC rfl rfl rfl (hst.get 0 rfl) (m := 4) (by kernel_rfl) rfl (Nat.le_of_ble_eq_true rfl) (allLeaf_cons rfl (allLeaf_cons rfl (allLeaf_cons rfl (allLeaf_cons hk20.leaf.2 allLeaf_nil)))) (cells' := [_, _, _, _]) rfl) rfl (fun σ hst => ?_)
      refine evOps_nil ?_
      refine thenQ_normal ?_
      refine ev_seq ?_
      refine ev_region rfl ?_
      refine evOps_val rfl (x_move rfl) rfl ?_
      refine evOps_val rfl (x_move rfl) rfl ?_
      obtain ⟨x24, hx24⟩ := at_of (show _ < l2.length from by rw [← len_of (notB_f h14)]; exact hi20)
      refine o_idx (e := 105) (m := 4) h2 hx24 rfl rfl (by kernel_rfl) (by kernel_rfl) rfl rfl (fun _ => rfl) (fun p24 vs24 hp24 hl24 hr24 => ?_)
      obtain ⟨o24, n24, s24, v24, rfl, hk24⟩ := hr24.shape
      refine evOps_val rfl (x_ploadW hst hp24 rfl (by kernel_rfl) rfl) rfl ?_
      refine o_ptr hst rfl (x_new (cs := [.int .i64 0, .int .i64 0, .str [], .nilSlice]) (by kernel_rfl) (by kernel_rfl)) (fun _ => rfl) (fun σ b2 hst => ?_)
      refine o_set0 hst rfl (x_storeC rfl rfl rfl (hst.get 0 rfl) (m := 4) (by kernel_rfl) rfl (Nat.le_of_ble_eq_true rfl) (allLeaf_cons rfl (allLeaf_cons rfl (allLeaf_cons rfl (allLeaf_cons hk24.leaf.2 allLeaf_nil)))) (cells' := [_, _, _, _]) rfl) rfl (fun σ hst => ?_)
      refine evOps_nil ?_
      refine thenQ_normal ?_
      refine ev_seq ?_
      refine ev_region rfl ?_
      refine evOps_val rfl (x_move rfl) rfl ?_
      refine evOps_val rfl (x_loadN rfl (hst.get 1 rfl) (n := 4) (vs := [_, _, _, _]) (by kernel_rfl) (Nat.le_of_ble_eq_true rfl) rfl) rfl ?_
      refine evOps_val rfl (x_loadN rfl (hst.get 0 rfl) (n := 4) (vs := [_, _, _, _]) (by kernel_rfl) (Nat.le_of_ble_eq_true rfl) rfl) rfl ?_
      refine o_callV rfl (x_call rfl rfl rfl (by kernel_rfl)) (fun _ => rfl) (hcall _ _ _ _ _ _ hst hr20 hr24) (fun σ hst => ?_)
      refine evOps_val rfl (x_not rfl) rfl ?_
      refine evOps_nil ?_
      refine thenQ_normal ?_
      refine ev_cond2 rfl (fun h30 => ?_) (fun h30 => ?_)
      · skip
        refine ev_seq ?_
        refine ev_region rfl ?_
        refine evOps_val rfl (x_assign rfl) rfl ?_
        refine evOps_nil ?_
        refine thenQ_normal ?_
        refine ev_ret ?_
        refine blockQ_ret (thenQ_ret (loopQ_ret (blockQ_ret (thenQ_ret (?_)))))
        exact end_ret1 rfl rfl ⟨by first | rw [sameX_len (notB_t h14)] | rw [sameX_at hx20 hx24 (by simpa using h30)] | rw [sameX_all (len_of (notB_f h14)) (lt_no h18) hsame], hst.pop.pop⟩
      · skip
        refine ev_skip ?_
        refine blockQ_normal ?_
        refine thenQ_normal ?_
        refine ev_region rfl ?_
        refine evOps_val rfl (x_bin rfl rfl rfl) rfl ?_
        refine evOps_val rfl (x_move rfl) rfl ?_
        refine evOps_nil ?_
        have hst := hst.pop
        have hst := hst.pop
        refine loopQ_normal ⟨j4 - 1, by omega, OffW.put rfl (OffW.put rfl (OffW.put rfl (OffW.put rfl (OffW.put rfl (OffW.put rfl (OffW.put rfl (OffW.put rfl (OffW.put rfl (OffW.put rfl (OffW.put rfl (OffW.put rfl (OffW.put rfl (OffW.put rfl (OffW.put rfl (OffW.put rfl (OffW.put rfl (OffW.put rfl (OffW.put rfl (OffW.put rfl (OffW.put rfl (OffW.put rfl (OffW.put rfl (OffW.put rfl (OffW.put rfl (OffW.put rfl (OffW.put rfl (OffW.put rfl (OffW.put rfl (OffW.put rfl (OffW.put rfl (OffW.put rfl (OffW.put rfl (OffW.put rfl (OffW.put rfl (OffW.put rfl (OffW.put rfl (OffW.refl _ _))))))))))))))))))))))))))))))))))))), i + 1, by omega, same_step hsame hx20 hx24 (by simpa using h30), congrArg (fun z => some (AV.int .i64 z)) (wr_succ (by have := h1.len_le; omega)), hst⟩
    · skip
      refine ev_exit ?_
      refine thenQ_exit ?_
      refine loopQ_exit ?_
      refine blockQ_exit ?_
      refine thenQ_normal ?_
      refine ev_seq ?_
      refine ev_region rfl ?_
      refine evOps_val rfl (x_assign rfl) rfl ?_
      refine evOps_nil ?_
      refine thenQ_normal ?_
      refine ev_ret ?_
      exact end_ret1 rfl rfl ⟨by first | rw [sameX_len (notB_t h14)] | rw [sameX_at hx20 hx24 (by simpa using h30)] | rw [sameX_all (len_of (notB_f h14)) (lt_no h18) hsame], hst⟩
theorem w_EqualFuncI {G : Cx} (hG : Plain G) {K : KP} {k1 k2 : Nat} {l1 l2 : List XI} {v1 v2 : AV} {σ : AHeap} {L : Own} (hst : St σ K L) (h1 : HasS K 6 (HasI K k1) l1 v1) (h2 : HasS K 6 (HasI K k2) l2 v2)
    (hcall : ∀ x y vx vy σ L, St σ K L → HasI K k1 x vx → HasI K k2 y vy → EvCall Try.prog G 78 [.agg vx, .agg vy] σ fun v σ' => v = .bool (sameX x y) ∧ St σ' K L) :
    EvCall Try.prog G 77 [v1, v2, .func 78 [] []] σ fun v σ' => v = .bool (sameX l1 l2) ∧ St σ' K L := by
  refine ev_body hG Try.func77 rfl (t := ((PT.leaf.put (some (v1)) 0).put (some (v2)) 1).put (some (.func 78 [] [])) 2) (by rfl) ?_
  refine ev_seq ?_
  refine ev_region rfl ?_
  refine evOps_val rfl (x_assign rfl) rfl ?_
  refine evOps_nil ?_
  refine thenQ_normal ?_
  refine ev_seq ?_
  refine ev_seq ?_
  refine ev_region rfl ?_
  refine evOps_val rfl (x_move rfl) rfl ?_
  refine evOps_val rfl (x_len' h1 rfl rfl rfl (e := 102) (by kernel_rfl) rfl) rfl ?_
  refine evOps_val rfl (x_move rfl) rfl ?_
  refine evOps_val rfl (x_len' h2 rfl rfl rfl (e := 102) (by kernel_rfl) rfl) rfl ?_
  refine evOps_val rfl (x_bin rfl rfl rfl) rfl ?_
  refine evOps_nil ?_
  refine thenQ_normal ?_
  refine ev_cond2 rfl (fun h14 => ?_) (fun h14 => ?_)
  · skip
    refine ev_seq ?_
    refine ev_region rfl ?_
    refine evOps_val rfl (x_assign rfl) rfl ?_
    refine evOps_nil ?_
    refine thenQ_normal ?_
    refine ev_ret ?_
    refine thenQ_ret (?_)
    exact end_ret1 rfl rfl ⟨by first | rw [sameX_len (notB_t h14)] | rw [sameX_at hx20 hx24 (by simpa using h30)] | rw [sameX_all (len_of (notB_f h14)) (lt_no h18) hsame], hst⟩
  · skip
    refine ev_skip ?_
    refine thenQ_normal ?_
    refine ev_seq ?_
    refine ev_seq ?_
    refine ev_region rfl ?_
    refine evOps_val rfl (x_move rfl) rfl ?_
    refine evOps_val rfl (x_len' h1 rfl rfl rfl (e := 102) (by kernel_rfl) rfl) rfl ?_
    refine evOps_val rfl (x_move rfl) rfl ?_
    refine evOps_nil ?_
    refine thenQ_normal ?_
    refine ev_block ?_
    obtain ⟨LL1, hst, hLL1⟩ := hst.named
    refine ev_loopW [6, 7, 8, 9, 17, 18, 19, 20, 21, 22, 23, 24, 25, 26, 27, 28, 29, 30, 31] (fun j t σ => ∃ (i : Nat), j + i = l1.length ∧ (∀ k, k < i → l1[k]? = l2[k]?) ∧ t.get 17 = some (.int .i64 (.ofNat i)) ∧ St σ K LL1) (l1.length) ⟨0, rfl, fun k hk => absurd hk (Nat.not_lt_zero _), rfl, hst⟩ ?_
    clear hst; intro j4 t σ hoff hI; obtain ⟨i, hj, hsame, hv17, hst⟩ := hI
    subst hLL1
    obtain ⟨o6, hoff⟩ := hoff.ex1 rfl; obtain ⟨o7, hoff⟩ := hoff.ex1 rfl; obtain ⟨o8, hoff⟩ := hoff.ex1 rfl; obtain ⟨o9, hoff⟩ := hoff.ex1 rfl; obtain ⟨o17, hoff⟩ := hoff.ex1 rfl; obtain ⟨o18, hoff⟩ := hoff.ex1 rfl; obtain ⟨o19, hoff⟩ := hoff.ex1 rfl; obtain ⟨o20, hoff⟩ := hoff.ex1 rfl; obtain ⟨o21, hoff⟩ := hoff.ex1 rfl; obtain ⟨o22, hoff⟩ := hoff.ex1 rfl; obtain ⟨o23, hoff⟩ := hoff.ex1 rfl; obtain ⟨o24, hoff⟩ := hoff.ex1 rfl; obtain ⟨o25, hoff⟩ := hoff.ex1 rfl; obtain ⟨o26, hoff⟩ := hoff.ex1 rfl; obtain ⟨o27, hoff⟩ := hoff.ex1 rfl; obtain ⟨o28, hoff⟩ := hoff.ex1 rfl; obtain ⟨o29, hoff⟩ := hoff.ex1 rfl; obtain ⟨o30, hoff⟩ := hoff.ex1 rfl; obtain ⟨o31, hoff⟩ := hoff.ex1 rfl
    obtain rfl := hoff.nil; clear hoff
    replace hv17 : o17 = some _ := hv17; subst hv17
    refine ev_seq ?_
    refine ev_region rfl ?_
    refine evOps_val rfl (x_bin rfl rfl rfl) rfl ?_
    refine evOps_nil ?_
    refine thenQ_normal ?_
    refine ev_seq ?_
    refine ev_cond2 rfl (fun h18 => ?_) (fun h18 => ?_)
    · skip
      refine ev_skip ?_
      refine thenQ_normal ?_
      refine ev_seq ?_
      refine ev_block ?_
      refine ev_seq ?_
      refine ev_region rfl ?_
      refine evOps_val rfl (x_move rfl) rfl ?_
      obtain ⟨x20, hx20, hi20⟩ := at_lt h18
      refine o_idx (e := 102) (m := 6) h1 hx20 rfl rfl (by kernel_rfl) (by kernel_rfl) rfl rfl (fun _ => rfl) (fun p20 vs20 hp20 hl20 hr20 => ?_)
      have hr20' := hr20; obtain ⟨v20, rfl, hk20⟩ := hr20'
      refine evOps_val rfl (x_ploadW hst hp20 rfl (by kernel_rfl) rfl) rfl ?_
      refine o_ptr hst rfl (x_new (cs := [.int .i64 0, .int .i64 0, .int .i64 0, .int .i64 0, .int .i64 0, .nilSlice]) (by kernel_rfl) (by kernel_rfl)) (fun _ => rfl) (fun σ b1 hst => ?_)
      refine evOps_val rfl (x_assign rfl) rfl ?_
      refine o_set0 hst rfl (x_storeC rfl rfl rfl (hst.get 0 rfl) (m := 6) (by kernel_rfl) rfl (Nat.le_of_ble_eq_true rfl) (allLeaf_cons rfl (allLeaf_cons rfl (allLeaf_cons rfl (allLeaf_cons rfl (allLeaf_cons rfl (allLeaf_cons hk20.leaf.2 allLeaf_nil)))))) (cells' := [_, _, _, _, _, _]) rfl) rfl (fun σ hst => ?_)
      refine evOps_nil ?_
      refine thenQ_normal ?_
      refine ev_seq ?_
      refine ev_region rfl ?_
      refine evOps_val rfl (x_move rfl) rfl ?_
      refine evOps_val rfl (x_move rfl) rfl ?_
      obtain ⟨x24, hx24⟩ := at_of (show _ < l2.length from by rw [← len_of (notB_f h14)]; exact hi20)
      refine o_idx (e := 102) (m := 6) h2 hx24 rfl rfl (by kernel_rfl) (by kernel_rfl) rfl rfl (fun _ => rfl) (fun p24 vs24 hp24 hl24 hr24 => ?_)
      have hr24' := hr24; obtain ⟨v24, rfl, hk24⟩ := hr24'
      refine evOps_val rfl (x_ploadW hst hp24 rfl (by kernel_rfl) rfl) rfl ?_
      refine o_ptr hst rfl (x_new (cs := [.int .i64 0, .int .i64 0, .int .i64 0, .int .i64 0, .int .i64 0, .nilSlice]) (by kernel_rfl) (by kernel_rfl)) (fun _ => rfl) (fun σ b2 hst => ?_)
      refine o_set0 hst rfl (x_storeC rfl rfl rfl (hst.get 0 rfl) (m := 6) (by kernel_rfl) rfl (Nat.le_of_ble_eq_true rfl) (allLeaf_cons rfl (allLeaf_cons rfl (allLeaf_cons rfl (allLeaf_cons rfl (allLeaf_cons rfl (allLeaf_cons hk24.leaf.2 allLeaf_nil)))))) (cells' := [_, _, _, _, _, _]) rfl) rfl (fun σ hst => ?_)
      refine evOps_nil ?_
      refine thenQ_normal ?_
      refine ev_seq ?_
      refine ev_region rfl ?_
      refine evOps_val rfl (x_move rfl) rfl ?_
      refine evOps_val rfl (x_loadN rfl (hst.get 1 rfl) (n := 6) (vs := [_, _, _, _, _, _]) (by kernel_rfl) (Nat.le_of_ble_eq_true rfl) rfl) rfl ?_
      refine evOps_val rfl (x_loadN rfl (hst.get 0 rfl) (n := 6) (vs := [_, _, _, _, _, _]) (by kernel_rfl) (Nat.le_of_ble_eq_true rfl) rfl) rfl ?_
      refine o_callV rfl (x_call rfl rfl rfl (by kernel_rfl)) (fun _ => rfl) (hcall _ _ _ _ _ _ hst hr20 hr24) (fun σ hst => ?_)
      refine evOps_val rfl (x_not rfl) rfl ?_
      refine evOps_nil ?_
      refine thenQ_normal ?_
      refine ev_cond2 rfl (fun h30 => ?_) (fun h30 => ?_)
      · skip
        refine ev_seq ?_
        refine ev_region rfl ?_
        refine evOps_val rfl (x_assign rfl) rfl ?_
        refine evOps_nil ?_
        refine thenQ_normal ?_
        refine ev_ret ?_
        refine blockQ_ret (thenQ_ret (loopQ_ret (blockQ_ret (thenQ_ret (?_)))))
        exact end_ret1 rfl rfl ⟨by first | rw [sameX_len (notB_t h14)] | rw [sameX_at hx20 hx24 (by simpa using h30)] | rw [sameX_all (len_of (notB_f h14)) (lt_no h18) hsame], hst.pop.pop⟩
      · skip
        refine ev_skip ?_
        refine blockQ_normal ?_
        refine thenQ_normal ?_
        refine ev_region rfl ?_
        refine evOps_val rfl (x_bin rfl rfl rfl) rfl ?_
        refine evOps_val rfl (x_move rfl) rfl ?_
        refine evOps_nil ?_
        have hst := hst.pop
        have hst := hst.pop
        refine loopQ_normal ⟨j4 - 1, by omega, OffW.put rfl (OffW.put rfl (OffW.put rfl (OffW.put rfl (OffW.put rfl (OffW.put rfl (OffW.put rfl (OffW.put rfl (OffW.put rfl (OffW.put rfl (OffW.put rfl (OffW.put rfl (OffW.put rfl (OffW.put rfl (OffW.put rfl (OffW.put rfl (OffW.put rfl (OffW.put rfl (OffW.put rfl (OffW.put rfl (OffW.put rfl (OffW.put rfl (OffW.put rfl (OffW.put rfl (OffW.put rfl (OffW.put rfl (OffW.put rfl (OffW.put rfl (OffW.put rfl (OffW.put rfl (OffW.put rfl (OffW.put rfl (OffW.put rfl (OffW.put rfl (OffW.put rfl (OffW.put rfl (OffW.put rfl (OffW.refl _ _))))))))))))))))))))))))))))))))))))), i + 1, by omega, same_step hsame hx20 hx24 (by simpa using h30), congrArg (fun z => some (AV.int .i64 z)) (wr_succ (by have := h1.len_le; omega)), hst⟩
    · skip
      refine ev_exit ?_
      refine thenQ_exit ?_
      refine loopQ_exit ?_
      refine blockQ_exit ?_
      refine thenQ_normal ?_
      refine ev_seq ?_
      refine ev_region rfl ?_
      refine evOps_val rfl (x_assign rfl) rfl ?_
      refine evOps_nil ?_
      refine thenQ_normal ?_
      refine ev_ret ?_
      exact end_ret1 rfl rfl ⟨by first | rw [sameX_len (notB_t h14)] | rw [sameX_at hx20 hx24 (by simpa using h30)] | rw [sameX_all (len_of (notB_f h14)) (lt_no h18) hsame], hst⟩
end Go.Ev

namespace Go.Ev
variable [Env]
open Go.Proofs
set_option maxRecDepth 4000
set_option maxHeartbeats 8000000

theorem w_SameExpr {G : Cx} (hG : Plain G) {K : KP} : ∀ (k1 k2 : Nat) (x y : XE) (vx vy : List AV), HasE K k1 x vx → HasE K k2 y vy → ∀ (σ : AHeap) (L : Own), St σ K L → EvCall Try.prog G 104 [.agg vx, .agg vy] σ fun v σ' => v = .bool (sameX x y) ∧ St σ' K L := by
  intro k1
  induction k1 with
  | zero => intro k2 x y vx vy h; cases x; exact h.elim
  | succ k1 ih =>
  intro k2 x y vx vy h h' σ L hst
  cases k2 with
  | zero => cases y; exact h'.elim
  | succ k2 =>
  obtain ⟨o1, n1, s1, ks1⟩ := x
  obtain ⟨o2, n2, s2, ks2⟩ := y
  obtain ⟨v1, rfl, hk1⟩ := h
  obtain ⟨v2, rfl, hk2⟩ := h'
  refine ev_body hG Try.func104 rfl (t := (PT.leaf.put (some (.agg _)) 0).put (some (.agg _)) 1) (by rfl) ?_
  refine ev_seq ?_
  refine ev_region rfl ?_
  refine o_ptr hst rfl (x_box rfl rfl) (fun _ => rfl) (fun σ b1 hst => ?_)
  refine o_ptr hst rfl (x_box rfl rfl) (fun _ => rfl) (fun σ b2 hst => ?_)
  refine evOps_val rfl (x_assign rfl) rfl ?_
  refine evOps_nil ?_
  refine thenQ_normal ?_
  refine ev_seq ?_
  refine ev_region rfl ?_
  refine evOps_val rfl (x_field rfl (k := 0) (by kernel_rfl)) rfl ?_
  refine evOps_val rfl (x_load1 rfl (hst.get 1 rfl) (by kernel_rfl) rfl) rfl ?_
  refine evOps_val rfl (x_field rfl (k := 0) (by kernel_rfl)) rfl ?_
  refine evOps_val rfl (x_load1 rfl (hst.get 0 rfl) (by kernel_rfl) rfl) rfl ?_
  refine evOps_val rfl (x_bin rfl rfl rfl) rfl ?_
  refine o_split rfl (x_move rfl) (fun _ => rfl) (fun h10 => ?_) (fun h10 => ?_)
  · skip
    refine evOps_val rfl (x_field rfl (k := 1) (by kernel_rfl)) rfl ?_
    refine evOps_val rfl (x_load1 rfl (hst.get 1 rfl) (by kernel_rfl) rfl) rfl ?_
    refine evOps_val rfl (x_field rfl (k := 1) (by kernel_rfl)) rfl ?_
    refine evOps_val rfl (x_load1 rfl (hst.get 0 rfl) (by kernel_rfl) rfl) rfl ?_
    refine evOps_val rfl (x_bin rfl rfl rfl) rfl ?_
    refine evOps_val rfl (x_pick rfl rfl) rfl ?_
    refine o_split rfl (x_move rfl) (fun _ => rfl) (fun h17 => ?_) (fun h17 => ?_)
    · skip
      refine evOps_val rfl (x_field rfl (k := 2) (by kernel_rfl)) rfl ?_
      refine evOps_val rfl (x_load1 rfl (hst.get 1 rfl) (by kernel_rfl) rfl) rfl ?_
      refine evOps_val rfl (x_field rfl (k := 2) (by kernel_rfl)) rfl ?_
      refine evOps_val rfl (x_load1 rfl (hst.get 0 rfl) (by kernel_rfl) rfl) rfl ?_
      refine evOps_val rfl (x_bin rfl rfl rfl) rfl ?_
      refine evOps_val rfl (x_pick rfl rfl) rfl ?_
      refine o_split rfl (x_move rfl) (fun _ => rfl) (fun h24 => ?_) (fun h24 => ?_)
      · skip
        refine evOps_val rfl (x_field rfl (k := 3) (by kernel_rfl)) rfl ?_
        refine evOps_val rfl (x_load1 rfl (hst.get 1 rfl) (by kernel_rfl) rfl) rfl ?_
        refine evOps_val rfl (x_field rfl (k := 3) (by kernel_rfl)) rfl ?_
        refine evOps_val rfl (x_load1 rfl (hst.get 0 rfl) (by kernel_rfl) rfl) rfl ?_
        refine o_callV rfl (x_call rfl rfl rfl (by kernel_rfl)) (fun _ => rfl) (w_EqualFuncE hG hst hk1 hk2 (fun x y vx vy σ L hst hx hy => ih _ x y vx vy hx hy σ L hst)) (fun σ hst => ?_)
        refine evOps_val rfl (x_pick rfl rfl) rfl ?_
        refine evOps_val rfl (x_assign rfl) rfl ?_
        refine evOps_nil ?_
        refine thenQ_normal ?_
        refine ev_ret ?_
        exact end_ret1 rfl rfl ⟨by rw [sameX_E]; simp only [h10, h17, h24, Bool.true_and, Bool.false_and], hst.pop.pop⟩
      · skip
        refine evOps_unwanted rfl rfl ?_
        refine evOps_unwanted rfl rfl ?_
        refine evOps_unwanted rfl rfl ?_
        refine evOps_unwanted rfl rfl ?_
        refine evOps_unwanted rfl rfl ?_
        refine evOps_val rfl (x_pick rfl rfl) rfl ?_
        refine evOps_val rfl (x_assign rfl) rfl ?_
        refine evOps_nil ?_
        refine thenQ_normal ?_
        refine ev_ret ?_
        exact end_ret1 rfl rfl ⟨by rw [sameX_E]; simp only [h10, h17, h24, Bool.true_and, Bool.false_and], hst.pop.pop⟩
    · skip
      refine evOps_unwanted rfl rfl ?_
      refine evOps_unwanted rfl rfl ?_
      refine evOps_unwanted rfl rfl ?_
      refine evOps_unwanted rfl rfl ?_
      refine evOps_unwanted rfl rfl ?_
      refine evOps_val rfl (x_pick rfl rfl) rfl ?_
      refine evOps_val rfl (x_move rfl) rfl ?_
      refine evOps_unwanted rfl rfl ?_
      refine evOps_unwanted rfl rfl ?_
      refine evOps_unwanted rfl rfl ?_
      refine evOps_unwanted rfl rfl ?_
      refine evOps_unwanted rfl rfl ?_
      refine evOps_val rfl (x_pick rfl rfl) rfl ?_
      refine evOps_val rfl (x_assign rfl) rfl ?_
      refine evOps_nil ?_
      refine thenQ_normal ?_
      refine ev_ret ?_
      exact end_ret1 rfl rfl ⟨by rw [sameX_E]; simp only [h10, h17, Bool.true_and, Bool.false_and], hst.pop.pop⟩
  · skip
    refine evOps_unwanted rfl rfl ?_
    refine evOps_unwanted rfl rfl ?_
    refine evOps_unwanted rfl rfl ?_
    refine evOps_unwanted rfl rfl ?_
    refine evOps_unwanted rfl rfl ?_
    refine evOps_val rfl (x_pick rfl rfl) rfl ?_
    refine evOps_val rfl (x_move rfl) rfl ?_
    refine evOps_unwanted rfl rfl ?_
    refine evOps_unwanted rfl rfl ?_
    refine evOps_unwanted rfl rfl ?_
    refine evOps_unwanted rfl rfl ?_
    refine evOps_unwanted rfl rfl ?_
    refine evOps_val rfl (x_pick rfl rfl) rfl ?_
    refine evOps_val rfl (x_move rfl) rfl ?_
    refine evOps_unwanted rfl rfl ?_
    refine evOps_unwanted rfl rfl ?_
    refine evOps_unwanted rfl rfl ?_
    refine evOps_unwanted rfl rfl ?_
    refine evOps_unwanted rfl rfl ?_
    refine evOps_val rfl (x_pick rfl rfl) rfl ?_
    refine evOps_val rfl (x_assign rfl) rfl ?_
    refine evOps_nil ?_
    refine thenQ_normal ?_
    refine ev_ret ?_
    exact end_ret1 rfl rfl ⟨by rw [sameX_E]; simp only [h10, Bool.true_and, Bool.false_and], hst.pop.pop⟩
theorem w_sameIns {G : Cx} (hG : Plain G) {K : KP} {k1 k2 : Nat} {x y : XI} {vx vy : List AV} {σ : AHeap} {L : Own} (hst : St σ K L) (h : HasI K k1 x vx) (h' : HasI K k2 y vy) : EvCall Try.prog G 78 [.agg vx, .agg vy] σ fun v σ' => v = .bool (sameX x y) ∧ St σ' K L := by
  have h1 := h; have h1' := h'
  obtain ⟨v1, rfl, hk1⟩ := h1
  obtain ⟨v2, rfl, hk2⟩ := h1'
  refine ev_body hG Try.func78 rfl (t := (PT.leaf.put (some (.agg _)) 0).put (some (.agg _)) 1) (by rfl) ?_
  refine ev_seq ?_
  refine ev_region rfl ?_
  refine o_ptr hst rfl (x_box rfl rfl) (fun _ => rfl) (fun σ b1 hst => ?_)
  refine o_ptr hst rfl (x_box rfl rfl) (fun _ => rfl) (fun σ b2 hst => ?_)
  refine evOps_val rfl (x_assign rfl) rfl ?_
  refine evOps_nil ?_
  refine thenQ_normal ?_
  refine ev_seq ?_
  refine ev_region rfl ?_
  refine evOps_val rfl (x_field rfl (k := 0) (by kernel_rfl)) rfl ?_
  refine evOps_val rfl (x_load1 rfl (hst.get 1 rfl) (by kernel_rfl) rfl) rfl ?_
  refine evOps_val rfl (x_field rfl (k := 0) (by kernel_rfl)) rfl ?_
  refine evOps_val rfl (x_load1 rfl (hst.get 0 rfl) (by kernel_rfl) rfl) rfl ?_
  refine evOps_val rfl (x_bin rfl rfl rfl) rfl ?_
  refine o_split rfl (x_move rfl) (fun _ => rfl) (fun h10 => ?_) (fun h10 => ?_)
  · skip
    refine evOps_val rfl (x_field rfl (k := 1) (by kernel_rfl)) rfl ?_
    refine evOps_val rfl (x_load1 rfl (hst.get 1 rfl) (by kernel_rfl) rfl) rfl ?_
    refine evOps_val rfl (x_field rfl (k := 1) (by kernel_rfl)) rfl ?_
    refine evOps_val rfl (x_load1 rfl (hst.get 0 rfl) (by kernel_rfl) rfl) rfl ?_
    refine evOps_val rfl (x_bin rfl rfl rfl) rfl ?_
    refine evOps_val rfl (x_pick rfl rfl) rfl ?_
    refine o_split rfl (x_move rfl) (fun _ => rfl) (fun h17 => ?_) (fun h17 => ?_)
    · skip
      refine evOps_val rfl (x_field rfl (k := 2) (by kernel_rfl)) rfl ?_
      refine evOps_val rfl (x_load1 rfl (hst.get 1 rfl) (by kernel_rfl) rfl) rfl ?_
      refine evOps_val rfl (x_field rfl (k := 2) (by kernel_rfl)) rfl ?_
      refine evOps_val rfl (x_load1 rfl (hst.get 0 rfl) (by kernel_rfl) rfl) rfl ?_
      refine evOps_val rfl (x_bin rfl rfl rfl) rfl ?_
      refine evOps_val rfl (x_pick rfl rfl) rfl ?_
      refine o_split rfl (x_move rfl) (fun _ => rfl) (fun h24 => ?_) (fun h24 => ?_)
      · skip
        refine evOps_val rfl (x_field rfl (k := 3) (by kernel_rfl)) rfl ?_
        refine evOps_val rfl (x_load1 rfl (hst.get 1 rfl) (by kernel_rfl) rfl) rfl ?_
        refine evOps_val rfl (x_field rfl (k := 3) (by kernel_rfl)) rfl ?_
        refine evOps_val rfl (x_load1 rfl (hst.get 0 rfl) (by kernel_rfl) rfl) rfl ?_
        refine evOps_val rfl (x_bin rfl rfl rfl) rfl ?_
        refine evOps_val rfl (x_pick rfl rfl) rfl ?_
        refine o_split rfl (x_move rfl) (fun _ => rfl) (fun h31 => ?_) (fun h31 => ?_)
        · skip
          refine evOps_val rfl (x_field rfl (k := 4) (by kernel_rfl)) rfl ?_
          refine evOps_val rfl (x_load1 rfl (hst.get 1 rfl) (by kernel_rfl) rfl) rfl ?_
          refine evOps_val rfl (x_field rfl (k := 4) (by kernel_rfl)) rfl ?_
          refine evOps_val rfl (x_load1 rfl (hst.get 0 rfl) (by kernel_rfl) rfl) rfl ?_
          refine evOps_val rfl (x_bin rfl rfl rfl) rfl ?_
          refine evOps_val rfl (x_pick rfl rfl) rfl ?_
          refine o_split rfl (x_move rfl) (fun _ => rfl) (fun h38 => ?_) (fun h38 => ?_)
          · skip
            refine evOps_val rfl (x_field rfl (k := 5) (by kernel_rfl)) rfl ?_
            refine evOps_val rfl (x_load1 rfl (hst.get 1 rfl) (by kernel_rfl) rfl) rfl ?_
            refine evOps_val rfl (x_field rfl (k := 5) (by kernel_rfl)) rfl ?_
            refine evOps_val rfl (x_load1 rfl (hst.get 0 rfl) (by kernel_rfl) rfl) rfl ?_
            refine o_callV rfl (x_call rfl rfl rfl (by kernel_rfl)) (fun _ => rfl) (w_EqualFuncE hG hst hk1 hk2 (fun x y vx vy σ L hst hx hy => w_SameExpr hG _ _ x y vx vy hx hy σ L hst)) (fun σ hst => ?_)
            refine evOps_val rfl (x_pick rfl rfl) rfl ?_
            refine evOps_val rfl (x_assign rfl) rfl ?_
            refine evOps_nil ?_
            refine thenQ_normal ?_
            refine ev_ret ?_
            exact end_ret1 rfl rfl ⟨by rw [sameX_I]; simp only [h10, h17, h24, h31, h38, Bool.true_and, Bool.false_and], hst.pop.pop⟩
          · skip
            refine evOps_unwanted rfl rfl ?_
            refine evOps_unwanted rfl rfl ?_
            refine evOps_unwanted rfl rfl ?_
            refine evOps_unwanted rfl rfl ?_
            refine evOps_unwanted rfl rfl ?_
            refine evOps_val rfl (x_pick rfl rfl) rfl ?_
            refine evOps_val rfl (x_assign rfl) rfl ?_
            refine evOps_nil ?_
            refine thenQ_normal ?_
            refine ev_ret ?_
            exact end_ret1 rfl rfl ⟨by rw [sameX_I]; simp only [h10, h17, h24, h31, h38, Bool.true_and, Bool.false_and], hst.pop.pop⟩
        · skip
          refine evOps_unwanted rfl rfl ?_
          refine evOps_unwanted rfl rfl ?_
          refine evOps_unwanted rfl rfl ?_
          refine evOps_unwanted rfl rfl ?_
          refine evOps_unwanted rfl rfl ?_
          refine evOps_val rfl (x_pick rfl rfl) rfl ?_
          refine evOps_val rfl (x_move rfl) rfl ?_
          refine evOps_unwanted rfl rfl ?_
          refine evOps_unwanted rfl rfl ?_
          refine evOps_unwanted rfl rfl ?_
          refine evOps_unwanted rfl rfl ?_
          refine evOps_unwanted rfl rfl ?_
          refine evOps_val rfl (x_pick rfl rfl) rfl ?_
          refine evOps_val rfl (x_assign rfl) rfl ?_
          refine evOps_nil ?_
          refine thenQ_normal ?_
          refine ev_ret ?_
          exact end_ret1 rfl rfl ⟨by rw [sameX_I]; simp only [h10, h17, h24, h31, Bool.true_and, Bool.false_and], hst.pop.pop⟩
      · skip
        refine evOps_unwanted rfl rfl ?_
        refine evOps_unwanted rfl rfl ?_
        refine evOps_unwanted rfl rfl ?_
        refine evOps_unwanted rfl rfl ?_
        refine evOps_unwanted rfl rfl ?_
        refine evOps_val rfl (x_pick rfl rfl) rfl ?_
        refine evOps_val rfl (x_move rfl) rfl ?_
        refine evOps_unwanted rfl rfl ?_
        refine evOps_unwanted rfl rfl ?_
        refine evOps_unwanted rfl rfl ?_
        refine evOps_unwanted rfl rfl ?_
        refine evOps_unwanted rfl rfl ?_
        refine evOps_val rfl (x_pick rfl rfl) rfl ?_
        refine evOps_val rfl (x_move rfl) rfl ?_
        refine evOps_unwanted rfl rfl ?_
        refine evOps_unwanted rfl rfl ?_
        refine evOps_unwanted rfl rfl ?_
        refine evOps_unwanted rfl rfl ?_
        refine evOps_unwanted rfl rfl ?_
        refine evOps_val rfl (x_pick rfl rfl) rfl ?_
        refine evOps_val rfl (x_assign rfl) rfl ?_
        refine evOps_nil ?_
        refine thenQ_normal ?_
        refine ev_ret ?_
        exact end_ret1 rfl rfl ⟨by rw [sameX_I]; simp only [h10, h17, h24, Bool.true_and, Bool.false_and], hst.pop.pop⟩
    · skip
      refine evOps_unwanted rfl rfl ?_
      refine evOps_unwanted rfl rfl ?_
      refine evOps_unwanted rfl rfl ?_
      refine evOps_unwanted rfl rfl ?_
      refine evOps_unwanted rfl rfl ?_
      refine evOps_val rfl (x_pick rfl rfl) rfl ?_
      refine evOps_val rfl (x_move rfl) rfl ?_
      refine evOps_unwanted rfl rfl ?_
      refine evOps_unwanted rfl rfl ?_
      refine evOps_unwanted rfl rfl ?_
      refine evOps_unwanted rfl rfl ?_
      refine evOps_unwanted rfl rfl ?_
      refine evOps_val rfl (x_pick rfl rfl) rfl ?_
      refine evOps_val rfl (x_move rfl) rfl ?_
      refine evOps_unwanted rfl rfl ?_
      refine evOps_unwanted rfl rfl ?_
      refine evOps_unwanted rfl rfl ?_
      refine evOps_unwanted rfl rfl ?_
      refine evOps_unwanted rfl rfl ?_
      refine evOps_val rfl (x_pick rfl rfl) rfl ?_
      refine evOps_val rfl (x_move rfl) rfl ?_
      refine evOps_unwanted rfl rfl ?_
      refine evOps_unwanted rfl rfl ?_
      refine evOps_unwanted rfl rfl ?_
      refine evOps_unwanted rfl rfl ?_
      refine evOps_unwanted rfl rfl ?_
      refine evOps_val rfl (x_pick rfl rfl) rfl ?_
      refine evOps_val rfl (x_assign rfl) rfl ?_
      refine evOps_nil ?_
      refine thenQ_normal ?_
      refine ev_ret ?_
      exact end_ret1 rfl rfl ⟨by rw [sameX_I]; simp only [h10, h17, Bool.true_and, Bool.false_and], hst.pop.pop⟩
  · skip
    refine evOps_unwanted rfl rfl ?_
    refine evOps_unwanted rfl rfl ?_
    refine evOps_unwanted rfl rfl ?_
    refine evOps_unwanted rfl rfl ?_
    refine evOps_unwanted rfl rfl ?_
    refine evOps_val rfl (x_pick rfl rfl) rfl ?_
    refine evOps_val rfl (x_move rfl) rfl ?_
    refine evOps_unwanted rfl rfl ?_
    refine evOps_unwanted rfl rfl ?_
    refine evOps_unwanted rfl rfl ?_
    refine evOps_unwanted rfl rfl ?_
    refine evOps_unwanted rfl rfl ?_
    refine evOps_val rfl (x_pick rfl rfl) rfl ?_
    refine evOps_val rfl (x_move rfl) rfl ?_
    refine evOps_unwanted rfl rfl ?_
    refine evOps_unwanted rfl rfl ?_
    refine evOps_unwanted rfl rfl ?_
    refine evOps_unwanted rfl rfl ?_
    refine evOps_unwanted rfl rfl ?_
    refine evOps_val rfl (x_pick rfl rfl) rfl ?_
    refine evOps_val rfl (x_move rfl) rfl ?_
    refine evOps_unwanted rfl rfl ?_
    refine evOps_unwanted rfl rfl ?_
    refine evOps_unwanted rfl rfl ?_
    refine evOps_unwanted rfl rfl ?_
    refine evOps_unwanted rfl rfl ?_
    refine evOps_val rfl (x_pick rfl rfl) rfl ?_
    refine evOps_val rfl (x_move rfl) rfl ?_
    refine evOps_unwanted rfl rfl ?_
    refine evOps_unwanted rfl rfl ?_
    refine evOps_unwanted rfl rfl ?_
    refine evOps_unwanted rfl rfl ?_
    refine evOps_unwanted rfl rfl ?_
    refine evOps_val rfl (x_pick rfl rfl) rfl ?_
    refine evOps_val rfl (x_assign rfl) rfl ?_
    refine evOps_nil ?_
    refine thenQ_normal ?_
    refine ev_ret ?_
    exact end_ret1 rfl rfl ⟨by rw [sameX_I]; simp only [h10, Bool.true_and, Bool.false_and], hst.pop.pop⟩
theorem w_Same {G : Cx} (hG : Plain G) {K : KP} {k1 k2 : Nat} {x y : XC} {vx vy : List AV} {σ : AHeap} {L : Own} (hst : St σ K L) (h : HasC K k1 x vx) (h' : HasC K k2 y vy) : EvCall Try.prog G 38 [.agg vx, .agg vy] σ fun v σ' => v = .bool (sameX x y) ∧ St σ' K L := by
  have h1 := h; have h1' := h'
  obtain ⟨v1, rfl, hk1⟩ := h1
  obtain ⟨v2, rfl, hk2⟩ := h1'
  refine ev_body hG Try.func38 rfl (t := (PT.leaf.put (some (.agg _)) 0).put (some (.agg _)) 1) (by rfl) ?_
  refine ev_seq ?_
  refine ev_region rfl ?_
  refine o_ptr hst rfl (x_box rfl rfl) (fun _ => rfl) (fun σ b1 hst => ?_)
  refine o_ptr hst rfl (x_box rfl rfl) (fun _ => rfl) (fun σ b2 hst => ?_)
  refine evOps_val rfl (x_assign rfl) rfl ?_
  refine evOps_nil ?_
  refine thenQ_normal ?_
  refine ev_seq ?_
  refine ev_region rfl ?_
  refine evOps_val rfl (x_field rfl (k := 0) (by kernel_rfl)) rfl ?_
  refine evOps_val rfl (x_load1 rfl (hst.get 1 rfl) (by kernel_rfl) rfl) rfl ?_
  refine evOps_val rfl (x_field rfl (k := 0) (by kernel_rfl)) rfl ?_
  refine evOps_val rfl (x_load1 rfl (hst.get 0 rfl) (by kernel_rfl) rfl) rfl ?_
  refine evOps_val rfl (x_bin rfl rfl rfl) rfl ?_
  refine o_split rfl (x_move rfl) (fun _ => rfl) (fun h10 => ?_) (fun h10 => ?_)
  · skip
    refine evOps_val rfl (x_field rfl (k := 1) (by kernel_rfl)) rfl ?_
    refine evOps_val rfl (x_load1 rfl (hst.get 1 rfl) (by kernel_rfl) rfl) rfl ?_
    refine evOps_val rfl (x_field rfl (k := 1) (by kernel_rfl)) rfl ?_
    refine evOps_val rfl (x_load1 rfl (hst.get 0 rfl) (by kernel_rfl) rfl) rfl ?_
    refine o_callV rfl (x_call rfl rfl rfl (by kernel_rfl)) (fun _ => rfl) (w_EqualFuncI hG hst hk1 hk2 (fun x y vx vy σ L hst hx hy => w_sameIns hG hst hx hy)) (fun σ hst => ?_)
    refine evOps_val rfl (x_pick rfl rfl) rfl ?_
    refine evOps_val rfl (x_assign rfl) rfl ?_
    refine evOps_nil ?_
    refine thenQ_normal ?_
    refine ev_ret ?_
    exact end_ret1 rfl rfl ⟨by rw [sameX_C]; simp only [h10, Bool.true_and, Bool.false_and], hst.pop.pop⟩
  · skip
    refine evOps_unwanted rfl rfl ?_
    refine evOps_unwanted rfl rfl ?_
    refine evOps_unwanted rfl rfl ?_
    refine evOps_unwanted rfl rfl ?_
    refine evOps_unwanted rfl rfl ?_
    refine evOps_val rfl (x_pick rfl rfl) rfl ?_
    refine evOps_val rfl (x_assign rfl) rfl ?_
    refine evOps_nil ?_
    refine thenQ_normal ?_
    refine ev_ret ?_
    exact end_ret1 rfl rfl ⟨by rw [sameX_C]; simp only [h10, Bool.true_and, Bool.false_and], hst.pop.pop⟩
theorem w_Exprs0 {G : Cx} (hG : Plain G) {K : KP} {k1 k2 : Nat} {l1 l2 : List XE} {v1 v2 : AV} {σ : AHeap} {L : Own} (hst : St σ K L) (h1 : HasS K 4 (HasE K k1) l1 v1) (h2 : HasS K 4 (HasE K k2) l2 v2)
    (hcall : ∀ x y vx vy σ L, St σ K L → HasE K k1 x vx → HasE K k2 y vy → EvCall Try.prog G 105 [.agg vx, .agg vy] σ fun v σ' => v = .bool (sameX x y) ∧ St σ' K L) : EvCall Try.prog G 79 [v1, v2] σ fun v σ' => v = .bool (sameX l1 l2) ∧ St σ' K L := by
  refine ev_body hG Try.func79 rfl (t := (PT.leaf.put (some (v1)) 0).put (some (v2)) 1) (by rfl) ?_
  refine ev_seq ?_
  refine ev_region rfl ?_
  refine evOps_val rfl (x_assign rfl) rfl ?_
  refine evOps_nil ?_
  refine thenQ_normal ?_
  refine ev_seq ?_
  refine ev_seq ?_
  refine ev_region rfl ?_
  refine evOps_val rfl (x_move rfl) rfl ?_
  refine evOps_val rfl (x_len' h1 rfl rfl rfl (e := 105) (by kernel_rfl) rfl) rfl ?_
  refine evOps_val rfl (x_move rfl) rfl ?_
  refine evOps_val rfl (x_len' h2 rfl rfl rfl (e := 105) (by kernel_rfl) rfl) rfl ?_
  refine evOps_val rfl (x_bin rfl rfl rfl) rfl ?_
  refine evOps_nil ?_
  refine thenQ_normal ?_
  refine ev_cond2 rfl (fun h10 => ?_) (fun h10 => ?_)
  · skip
    refine ev_seq ?_
    refine ev_region rfl ?_
    refine evOps_val rfl (x_assign rfl) rfl ?_
    refine evOps_nil ?_
    refine thenQ_normal ?_
    refine ev_ret ?_
    refine thenQ_ret (?_)
    exact end_ret1 rfl rfl ⟨by first | rw [sameX_len (notB_t h10)] | (rw [sameX_at hx19 hx23 (by simpa using h26)]) | rw [sameX_all (len_of (notB_f h10)) (lt_no h14) hsame], hst⟩
  · skip
    refine ev_skip ?_
    refine thenQ_normal ?_
    refine ev_seq ?_
    refine ev_seq ?_
    refine ev_region rfl ?_
    refine evOps_val rfl (x_assign rfl) rfl ?_
    refine evOps_nil ?_
    refine thenQ_normal ?_
    refine ev_block ?_
    obtain ⟨LL1, hst, hLL1⟩ := hst.named
    refine ev_loopW [4, 5, 11, 12, 13, 14, 15, 16, 17, 18, 19, 20, 21, 22, 23, 24, 25, 26] (fun j t σ => ∃ (i : Nat), j + i = l1.length ∧ (∀ k, k < i → l1[k]? = l2[k]?) ∧ t.get 5 = some (.int .i64 (.ofNat i)) ∧ St σ K LL1) (l1.length) ⟨0, rfl, fun k hk => absurd hk (Nat.not_lt_zero _), rfl, hst⟩ ?_
    clear hst; intro j4 t σ hoff hI; obtain ⟨i, hj, hsame, hv5, hst⟩ := hI
    subst hLL1
    obtain ⟨o4, hoff⟩ := hoff.ex1 rfl; obtain ⟨o5, hoff⟩ := hoff.ex1 rfl; obtain ⟨o11, hoff⟩ := hoff.ex1 rfl; obtain ⟨o12, hoff⟩ := hoff.ex1 rfl; obtain ⟨o13, hoff⟩ := hoff.ex1 rfl; obtain ⟨o14, hoff⟩ := hoff.ex1 rfl; obtain ⟨o15, hoff⟩ := hoff.ex1 rfl; obtain ⟨o16, hoff⟩ := hoff.ex1 rfl; obtain ⟨o17, hoff⟩ := hoff.ex1 rfl; obtain ⟨o18, hoff⟩ := hoff.ex1 rfl; obtain ⟨o19, hoff⟩ := hoff.ex1 rfl; obtain ⟨o20, hoff⟩ := hoff.ex1 rfl; obtain ⟨o21, hoff⟩ := hoff.ex1 rfl; obtain ⟨o22, hoff⟩ := hoff.ex1 rfl; obtain ⟨o23, hoff⟩ := hoff.ex1 rfl; obtain ⟨o24, hoff⟩ := hoff.ex1 rfl; obtain ⟨o25, hoff⟩ := hoff.ex1 rfl; obtain ⟨o26, hoff⟩ := hoff.ex1 rfl
    obtain rfl := hoff.nil; clear hoff
    replace hv5 : o5 = some _ := hv5; subst hv5
    refine ev_seq ?_
    refine ev_seq ?_
    refine ev_region rfl ?_
    refine evOps_val rfl (x_move rfl) rfl ?_
    refine evOps_val rfl (x_move rfl) rfl ?_
    refine evOps_val rfl (x_len' h1 rfl rfl rfl (e := 105) (by kernel_rfl) rfl) rfl ?_
    refine evOps_val rfl (x_bin rfl rfl rfl) rfl ?_
    refine evOps_nil ?_
    refine thenQ_normal ?_
    refine ev_cond2 rfl (fun h14 => ?_) (fun h14 => ?_)
    · skip
      refine ev_skip ?_
      refine thenQ_normal ?_
      refine ev_seq ?_
      refine ev_block ?_
      refine ev_seq ?_
      refine ev_region_plan (l := [(0, []), (1, []), (2, []), (3, []), (4, []), (5, []), (6, []), (7, []), (8, []), (9, [])]) (by kernel_rfl) (by kernel_rfl) ?_
      refine evPlan_val rfl rfl (x_move rfl) rfl ?_
      refine evPlan_val rfl rfl (x_move rfl) rfl ?_
      obtain ⟨x19, hx19, hi19⟩ := at_lt h14
      refine p_idx (e := 105) (m := 4) h1 hx19 rfl rfl rfl (by kernel_rfl) (by kernel_rfl) rfl rfl (fun _ => rfl) (fun p19 vs19 hp19 hl19 hr19 => ?_)
      obtain ⟨o19, n19, s19, v19, rfl, hk19⟩ := hr19.shape
      refine evPlan_val rfl rfl (x_ploadW hst hp19 rfl (by kernel_rfl) rfl) rfl ?_
      refine evPlan_val rfl rfl (x_move rfl) rfl ?_
      refine evPlan_val rfl rfl (x_move rfl) rfl ?_
      obtain ⟨x23, hx23⟩ := at_of (show _ < l2.length from by rw [← len_of (notB_f h10)]; exact hi19)
      refine p_idx (e := 105) (m := 4) h2 hx23 rfl rfl rfl (by kernel_rfl) (by kernel_rfl) rfl rfl (fun _ => rfl) (fun p23 vs23 hp23 hl23 hr23 => ?_)
      obtain ⟨o23, n23, s23, v23, rfl, hk23⟩ := hr23.shape
      refine evPlan_val rfl rfl (x_ploadW hst hp23 rfl (by kernel_rfl) rfl) rfl ?_
      refine p_callV rfl rfl (x_call rfl rfl rfl (by kernel_rfl)) (fun _ => rfl) (hcall _ _ _ _ _ _ hst hr19 hr23) (fun σ hst => ?_)
      refine ⟨still_nil, ?_⟩
      refine evPlan_val rfl rfl (x_not rfl) rfl ?_
      refine evPlan_nil ?_
      refine thenQ_normal ?_
      refine ev_cond2 rfl (fun h26 => ?_) (fun h26 => ?_)
      · skip
        refine ev_seq ?_
        refine ev_region rfl ?_
        refine evOps_val rfl (x_assign rfl) rfl ?_
        refine evOps_nil ?_
        refine thenQ_normal ?_
        refine ev_ret ?_
        refine blockQ_ret (thenQ_ret (loopQ_ret (blockQ_ret (thenQ_ret (?_)))))
        exact end_ret1 rfl rfl ⟨by first | rw [sameX_len (notB_t h10)] | (rw [sameX_at hx19 hx23 (by simpa using h26)]) | rw [sameX_all (len_of (notB_f h10)) (lt_no h14) hsame], hst⟩
      · skip
        refine ev_skip ?_
        refine blockQ_normal ?_
        refine thenQ_normal ?_
        refine ev_region rfl ?_
        refine evOps_val rfl (x_move rfl) rfl ?_
        refine evOps_val rfl (x_bin rfl rfl rfl) rfl ?_
        refine evOps_val rfl (x_assign rfl) rfl ?_
        refine evOps_nil ?_
        refine loopQ_normal ⟨j4 - 1, by omega, OffW.put rfl (OffW.put rfl (OffW.put rfl (OffW.put rfl (OffW.put rfl (OffW.put rfl (OffW.put rfl (OffW.put rfl (OffW.put rfl (OffW.put rfl (OffW.put rfl (OffW.put rfl (OffW.put rfl (OffW.put rfl (OffW.put rfl (OffW.put rfl (OffW.put rfl (OffW.put rfl (OffW.put rfl (OffW.put rfl (OffW.put rfl (OffW.put rfl (OffW.put rfl (OffW.put rfl (OffW.put rfl (OffW.put rfl (OffW.put rfl (OffW.put rfl (OffW.put rfl (OffW.put rfl (OffW.put rfl (OffW.put rfl (OffW.put rfl (OffW.put rfl (OffW.put rfl (OffW.refl _ _))))))))))))))))))))))))))))))))))), i + 1, by omega, same_step hsame hx19 hx23 (by simpa using h26), congrArg (fun z => some (AV.int .i64 z)) (wr_succ (by have := h1.len_le; omega)), hst⟩
    · skip
      refine ev_exit ?_
      refine thenQ_exit ?_
      refine loopQ_exit ?_
      refine blockQ_exit ?_
      refine thenQ_normal ?_
      refine ev_seq ?_
      refine ev_region rfl ?_
      refine evOps_val rfl (x_assign rfl) rfl ?_
      refine evOps_nil ?_
      refine thenQ_normal ?_
      refine ev_ret ?_
      exact end_ret1 rfl rfl ⟨by first | rw [sameX_len (notB_t h10)] | (rw [sameX_at hx19 hx23 (by simpa using h26)]) | rw [sameX_all (len_of (notB_f h10)) (lt_no h14) hsame], hst⟩
theorem w_Expr {G : Cx} (hG : Plain G) {K : KP} : ∀ (k1 k2 : Nat) (x y : XE) (vx vy : List AV), HasE K k1 x vx → HasE K k2 y vy → ∀ (σ : AHeap) (L : Own), St σ K L → EvCall Try.prog G 105 [.agg vx, .agg vy] σ fun v σ' => v = .bool (sameX x y) ∧ St σ' K L := by
  intro k1
  induction k1 with
  | zero => intro k2 x y vx vy h; cases x; exact h.elim
  | succ k1 ih =>
  intro k2 x y vx vy h h' σ L hst
  cases k2 with
  | zero => cases y; exact h'.elim
  | succ k2 =>
  obtain ⟨o1, n1, s1, ks1⟩ := x
  obtain ⟨o2, n2, s2, ks2⟩ := y
  obtain ⟨v1, rfl, hk1⟩ := h
  obtain ⟨v2, rfl, hk2⟩ := h'
  refine ev_body hG Try.func105 rfl (t := (PT.leaf.put (some (.agg _)) 0).put (some (.agg _)) 1) (by rfl) ?_
  refine ev_seq ?_
  refine ev_region rfl ?_
  refine o_ptr hst rfl (x_box rfl rfl) (fun _ => rfl) (fun σ b1 hst => ?_)
  refine o_ptr hst rfl (x_box rfl rfl) (fun _ => rfl) (fun σ b2 hst => ?_)
  refine evOps_val rfl (x_assign rfl) rfl ?_
  refine evOps_nil ?_
  refine thenQ_normal ?_
  refine ev_seq ?_
  refine ev_region rfl ?_
  refine evOps_val rfl (x_field rfl (k := 0) (by kernel_rfl)) rfl ?_
  refine evOps_val rfl (x_load1 rfl (hst.get 1 rfl) (by kernel_rfl) rfl) rfl ?_
  refine evOps_val rfl (x_field rfl (k := 0) (by kernel_rfl)) rfl ?_
  refine evOps_val rfl (x_load1 rfl (hst.get 0 rfl) (by kernel_rfl) rfl) rfl ?_
  refine evOps_val rfl (x_bin rfl rfl rfl) rfl ?_
  refine o_split rfl (x_move rfl) (fun _ => rfl) (fun h10 => ?_) (fun h10 => ?_)
  · skip
    refine evOps_val rfl (x_field rfl (k := 1) (by kernel_rfl)) rfl ?_
    refine evOps_val rfl (x_load1 rfl (hst.get 1 rfl) (by kernel_rfl) rfl) rfl ?_
    refine evOps_val rfl (x_field rfl (k := 1) (by kernel_rfl)) rfl ?_
    refine evOps_val rfl (x_load1 rfl (hst.get 0 rfl) (by kernel_rfl) rfl) rfl ?_
    refine evOps_val rfl (x_bin rfl rfl rfl) rfl ?_
    refine evOps_val rfl (x_pick rfl rfl) rfl ?_
    refine o_split rfl (x_move rfl) (fun _ => rfl) (fun h17 => ?_) (fun h17 => ?_)
    · skip
      refine evOps_val rfl (x_field rfl (k := 2) (by kernel_rfl)) rfl ?_
      refine evOps_val rfl (x_load1 rfl (hst.get 1 rfl) (by kernel_rfl) rfl) rfl ?_
      refine evOps_val rfl (x_field rfl (k := 2) (by kernel_rfl)) rfl ?_
      refine evOps_val rfl (x_load1 rfl (hst.get 0 rfl) (by kernel_rfl) rfl) rfl ?_
      refine evOps_val rfl (x_bin rfl rfl rfl) rfl ?_
      refine evOps_val rfl (x_pick rfl rfl) rfl ?_
      refine o_split rfl (x_move rfl) (fun _ => rfl) (fun h24 => ?_) (fun h24 => ?_)
      · skip
        refine evOps_val rfl (x_field rfl (k := 3) (by kernel_rfl)) rfl ?_
        refine evOps_val rfl (x_load1 rfl (hst.get 1 rfl) (by kernel_rfl) rfl) rfl ?_
        refine evOps_val rfl (x_field rfl (k := 3) (by kernel_rfl)) rfl ?_
        refine evOps_val rfl (x_load1 rfl (hst.get 0 rfl) (by kernel_rfl) rfl) rfl ?_
        refine o_callV rfl (x_call rfl rfl rfl (by kernel_rfl)) (fun _ => rfl) (w_Exprs0 hG hst hk1 hk2 (fun x y vx vy σ L hst hx hy => ih _ x y vx vy hx hy σ L hst)) (fun σ hst => ?_)
        refine evOps_val rfl (x_pick rfl rfl) rfl ?_
        refine evOps_val rfl (x_assign rfl) rfl ?_
        refine evOps_nil ?_
        refine thenQ_normal ?_
        refine ev_ret ?_
        exact end_ret1 rfl rfl ⟨by rw [sameX_E]; simp only [h10, h17, h24, Bool.true_and, Bool.false_and], hst.pop.pop⟩
      · skip
        refine evOps_unwanted rfl rfl ?_
        refine evOps_unwanted rfl rfl ?_
        refine evOps_unwanted rfl rfl ?_
        refine evOps_unwanted rfl rfl ?_
        refine evOps_unwanted rfl rfl ?_
        refine evOps_val rfl (x_pick rfl rfl) rfl ?_
        refine evOps_val rfl (x_assign rfl) rfl ?_
        refine evOps_nil ?_
        refine thenQ_normal ?_
        refine ev_ret ?_
        exact end_ret1 rfl rfl ⟨by rw [sameX_E]; simp only [h10, h17, h24, Bool.true_and, Bool.false_and], hst.pop.pop⟩
    · skip
      refine evOps_unwanted rfl rfl ?_
      refine evOps_unwanted rfl rfl ?_
      refine evOps_unwanted rfl rfl ?_
      refine evOps_unwanted rfl rfl ?_
      refine evOps_unwanted rfl rfl ?_
      refine evOps_val rfl (x_pick rfl rfl) rfl ?_
      refine evOps_val rfl (x_move rfl) rfl ?_
      refine evOps_unwanted rfl rfl ?_
      refine evOps_unwanted rfl rfl ?_
      refine evOps_unwanted rfl rfl ?_
      refine evOps_unwanted rfl rfl ?_
      refine evOps_unwanted rfl rfl ?_
      refine evOps_val rfl (x_pick rfl rfl) rfl ?_
      refine evOps_val rfl (x_assign rfl) rfl ?_
      refine evOps_nil ?_
      refine thenQ_normal ?_
      refine ev_ret ?_
      exact end_ret1 rfl rfl ⟨by rw [sameX_E]; simp only [h10, h17, Bool.true_and, Bool.false_and], hst.pop.pop⟩
  · skip
    refine evOps_unwanted rfl rfl ?_
    refine evOps_unwanted rfl rfl ?_
    refine evOps_unwanted rfl rfl ?_
    refine evOps_unwanted rfl rfl ?_
    refine evOps_unwanted rfl rfl ?_
    refine evOps_val rfl (x_pick rfl rfl) rfl ?_
    refine evOps_val rfl (x_move rfl) rfl ?_
    refine evOps_unwanted rfl rfl ?_
    refine evOps_unwanted rfl rfl ?_
    refine evOps_unwanted rfl rfl ?_
    refine evOps_unwanted rfl rfl ?_
    refine evOps_unwanted rfl rfl ?_
    refine evOps_val rfl (x_pick rfl rfl) rfl ?_
    refine evOps_val rfl (x_move rfl) rfl ?_
    refine evOps_unwanted rfl rfl ?_
    refine evOps_unwanted rfl rfl ?_
    refine evOps_unwanted rfl rfl ?_
    refine evOps_unwanted rfl rfl ?_
    refine evOps_unwanted rfl rfl ?_
    refine evOps_val rfl (x_pick rfl rfl) rfl ?_
    refine evOps_val rfl (x_assign rfl) rfl ?_
    refine evOps_nil ?_
    refine thenQ_normal ?_
    refine ev_ret ?_
    exact end_ret1 rfl rfl ⟨by rw [sameX_E]; simp only [h10, Bool.true_and, Bool.false_and], hst.pop.pop⟩
theorem w_Ins {G : Cx} (hG : Plain G) {K : KP} {k1 k2 : Nat} {l1 l2 : List XI} {v1 v2 : AV} {σ : AHeap} {L : Own} (hst : St σ K L) (h1 : HasS K 6 (HasI K k1) l1 v1) (h2 : HasS K 6 (HasI K k2) l2 v2)
     : EvCall Try.prog G 41 [v1, v2] σ fun v σ' => v = .bool (sameX l1 l2) ∧ St σ' K L := by
  refine ev_body hG Try.func41 rfl (t := (PT.leaf.put (some (v1)) 0).put (some (v2)) 1) (by rfl) ?_
  refine ev_seq ?_
  refine ev_region rfl ?_
  refine evOps_val rfl (x_assign rfl) rfl ?_
  refine evOps_nil ?_
  refine thenQ_normal ?_
  refine ev_seq ?_
  refine ev_seq ?_
  refine ev_region rfl ?_
  refine evOps_val rfl (x_move rfl) rfl ?_
  refine evOps_val rfl (x_len' h1 rfl rfl rfl (e := 102) (by kernel_rfl) rfl) rfl ?_
  refine evOps_val rfl (x_move rfl) rfl ?_
  refine evOps_val rfl (x_len' h2 rfl rfl rfl (e := 102) (by kernel_rfl) rfl) rfl ?_
  refine evOps_val rfl (x_bin rfl rfl rfl) rfl ?_
  refine evOps_nil ?_
  refine thenQ_normal ?_
  refine ev_cond2 rfl (fun h12 => ?_) (fun h12 => ?_)
  · skip
    refine ev_seq ?_
    refine ev_region rfl ?_
    refine evOps_val rfl (x_assign rfl) rfl ?_
    refine evOps_nil ?_
    refine thenQ_normal ?_
    refine ev_ret ?_
    refine thenQ_ret (?_)
    exact end_ret1 rfl rfl ⟨by first | rw [sameX_len (notB_t h12)] | (rw [sameX_at hx21 hx25 (by rw [sameX_I]; simp only [Bool.true_and, Bool.false_and])]) | rw [sameX_all (len_of (notB_f h12)) (lt_no h16) hsame], hst⟩
  · skip
    refine ev_skip ?_
    refine thenQ_normal ?_
    refine ev_seq ?_
    refine ev_seq ?_
    refine ev_region rfl ?_
    refine evOps_val rfl (x_assign rfl) rfl ?_
    refine evOps_nil ?_
    refine thenQ_normal ?_
    refine ev_block ?_
    obtain ⟨LL1, hst, hLL1⟩ := hst.named
    refine ev_loopW [4, 5, 6, 7, 13, 14, 15, 16, 17, 18, 19, 20, 21, 22, 23, 24, 25, 26, 27, 28, 29, 30, 31, 32, 33, 34, 35, 36, 37, 38, 39, 40, 41, 42, 43, 44, 45, 46, 47, 48, 49, 50, 51, 52, 53, 54, 55, 56, 57, 58, 59, 60, 61, 62, 63, 64, 65, 66, 67] (fun j t σ => ∃ (i : Nat), j + i = l1.length ∧ (∀ k, k < i → l1[k]? = l2[k]?) ∧ t.get 5 = some (.int .i64 (.ofNat i)) ∧ St σ K LL1) (l1.length) ⟨0, rfl, fun k hk => absurd hk (Nat.not_lt_zero _), rfl, hst⟩ ?_
    clear hst; intro j4 t σ hoff hI; obtain ⟨i, hj, hsame, hv5, hst⟩ := hI
    subst hLL1
    obtain ⟨o4, hoff⟩ := hoff.ex1 rfl; obtain ⟨o5, hoff⟩ := hoff.ex1 rfl; obtain ⟨o6, hoff⟩ := hoff.ex1 rfl; obtain ⟨o7, hoff⟩ := hoff.ex1 rfl; obtain ⟨o13, hoff⟩ := hoff.ex1 rfl; obtain ⟨o14, hoff⟩ := hoff.ex1 rfl; obtain ⟨o15, hoff⟩ := hoff.ex1 rfl; obtain ⟨o16, hoff⟩ := hoff.ex1 rfl; obtain ⟨o17, hoff⟩ := hoff.ex1 rfl; obtain ⟨o18, hoff⟩ := hoff.ex1 rfl; obtain ⟨o19, hoff⟩ := hoff.ex1 rfl; obtain ⟨o20, hoff⟩ := hoff.ex1 rfl; obtain ⟨o21, hoff⟩ := hoff.ex1 rfl; obtain ⟨o22, hoff⟩ := hoff.ex1 rfl; obtain ⟨o23, hoff⟩ := hoff.ex1 rfl; obtain ⟨o24, hoff⟩ := hoff.ex1 rfl; obtain ⟨o25, hoff⟩ := hoff.ex1 rfl; obtain ⟨o26, hoff⟩ := hoff.ex1 rfl; obtain ⟨o27, hoff⟩ := hoff.ex1 rfl; obtain ⟨o28, hoff⟩ := hoff.ex1 rfl; obtain ⟨o29, hoff⟩ := hoff.ex1 rfl; obtain ⟨o30, hoff⟩ := hoff.ex1 rfl; obtain ⟨o31, hoff⟩ := hoff.ex1 rfl; obtain ⟨o32, hoff⟩ := hoff.ex1 rfl; obtain ⟨o33, hoff⟩ := hoff.ex1 rfl; obtain ⟨o34, hoff⟩ := hoff.ex1 rfl; obtain ⟨o35, hoff⟩ := hoff.ex1 rfl; obtain ⟨o36, hoff⟩ := hoff.ex1 rfl; obtain ⟨o37, hoff⟩ := hoff.ex1 rfl; obtain ⟨o38, hoff⟩ := hoff.ex1 rfl; obtain ⟨o39, hoff⟩ := hoff.ex1 rfl; obtain ⟨o40, hoff⟩ := hoff.ex1 rfl; obtain ⟨o41, hoff⟩ := hoff.ex1 rfl; obtain ⟨o42, hoff⟩ := hoff.ex1 rfl; obtain ⟨o43, hoff⟩ := hoff.ex1 rfl; obtain ⟨o44, hoff⟩ := hoff.ex1 rfl; obtain ⟨o45, hoff⟩ := hoff.ex1 rfl; obtain ⟨o46, hoff⟩ := hoff.ex1 rfl; obtain ⟨o47, hoff⟩ := hoff.ex1 rfl; obtain ⟨o48, hoff⟩ := hoff.ex1 rfl; obtain ⟨o49, hoff⟩ := hoff.ex1 rfl; obtain ⟨o50, hoff⟩ := hoff.ex1 rfl; obtain ⟨o51, hoff⟩ := hoff.ex1 rfl; obtain ⟨o52, hoff⟩ := hoff.ex1 rfl; obtain ⟨o53, hoff⟩ := hoff.ex1 rfl; obtain ⟨o54, hoff⟩ := hoff.ex1 rfl; obtain ⟨o55, hoff⟩ := hoff.ex1 rfl; obtain ⟨o56, hoff⟩ := hoff.ex1 rfl; obtain ⟨o57, hoff⟩ := hoff.ex1 rfl; obtain ⟨o58, hoff⟩ := hoff.ex1 rfl; obtain ⟨o59, hoff⟩ := hoff.ex1 rfl; obtain ⟨o60, hoff⟩ := hoff.ex1 rfl; obtain ⟨o61, hoff⟩ := hoff.ex1 rfl; obtain ⟨o62, hoff⟩ := hoff.ex1 rfl; obtain ⟨o63, hoff⟩ := hoff.ex1 rfl; obtain ⟨o64, hoff⟩ := hoff.ex1 rfl; obtain ⟨o65, hoff⟩ := hoff.ex1 rfl; obtain ⟨o66, hoff⟩ := hoff.ex1 rfl; obtain ⟨o67, hoff⟩ := hoff.ex1 rfl
    obtain rfl := hoff.nil; clear hoff
    replace hv5 : o5 = some _ := hv5; subst hv5
    refine ev_seq ?_
    refine ev_seq ?_
    refine ev_region rfl ?_
    refine evOps_val rfl (x_move rfl) rfl ?_
    refine evOps_val rfl (x_move rfl) rfl ?_
    refine evOps_val rfl (x_len' h1 rfl rfl rfl (e := 102) (by kernel_rfl) rfl) rfl ?_
    refine evOps_val rfl (x_bin rfl rfl rfl) rfl ?_
    refine evOps_nil ?_
    refine thenQ_normal ?_
    refine ev_cond2 rfl (fun h16 => ?_) (fun h16 => ?_)
    · skip
      refine ev_skip ?_
      refine thenQ_normal ?_
      refine ev_seq ?_
      refine ev_block ?_
      refine ev_seq ?_
      refine ev_region_plan (l := [(0, []), (1, []), (2, []), (3, []), (4, []), (5, []), (6, []), (7, []), (8, []), (9, []), (10, [7]), (11, [])]) (by kernel_rfl) (by kernel_rfl) ?_
      refine evPlan_val rfl rfl (x_move rfl) rfl ?_
      refine evPlan_val rfl rfl (x_move rfl) rfl ?_
      obtain ⟨x21, hx21, hi21⟩ := at_lt h16
      refine p_idx (e := 102) (m := 6) h1 hx21 rfl rfl rfl (by kernel_rfl) (by kernel_rfl) rfl rfl (fun _ => rfl) (fun p21 vs21 hp21 hl21 hr21 => ?_)
      have hr21' := hr21; obtain ⟨v21, rfl, hk21⟩ := hr21'
      refine evPlan_val rfl rfl (x_ploadW hst hp21 rfl (by kernel_rfl) rfl) rfl ?_
      refine evPlan_val rfl rfl (x_move rfl) rfl ?_
      refine evPlan_val rfl rfl (x_move rfl) rfl ?_
      obtain ⟨x25, hx25⟩ := at_of (show _ < l2.length from by rw [← len_of (notB_f h12)]; exact hi21)
      refine p_idx (e := 102) (m := 6) h2 hx25 rfl rfl rfl (by kernel_rfl) (by kernel_rfl) rfl rfl (fun _ => rfl) (fun p25 vs25 hp25 hl25 hr25 => ?_)
      have hr25' := hr25; obtain ⟨v25, rfl, hk25⟩ := hr25'
      refine evPlan_val rfl rfl (x_ploadW hst hp25 rfl (by kernel_rfl) rfl) rfl ?_
      refine p_ptr hst rfl rfl (x_new (cs := [.int .i64 0, .int .i64 0, .int .i64 0, .int .i64 0, .int .i64 0, .nilSlice]) (by kernel_rfl) (by kernel_rfl)) (fun _ => rfl) (fun σ b1 hst => ?_)
      refine p_ptr hst rfl rfl (x_new (cs := [.int .i64 0, .int .i64 0, .int .i64 0, .int .i64 0, .int .i64 0, .nilSlice]) (by kernel_rfl) (by kernel_rfl)) (fun _ => rfl) (fun σ b2 hst => ?_)
      refine p_set1 hst rfl rfl (x_storeC rfl rfl rfl (hst.get 1 rfl) (m := 6) (by kernel_rfl) rfl (Nat.le_of_ble_eq_true rfl) (allLeaf_cons rfl (allLeaf_cons rfl (allLeaf_cons rfl (allLeaf_cons rfl (allLeaf_cons rfl (allLeaf_cons hk21.leaf.2 allLeaf_nil)))))) (cells' := [_, _, _, _, _, _]) rfl) rfl (fun σ hst => ?_)
      refine ⟨(still_cons (still_read rfl rfl rfl rfl rfl (x_ploadW hst hp25 rfl (by kernel_rfl) rfl) (beqA_agg (beqL_cons (beq1_int _ _) (beqL_cons (beq1_int _ _) (beqL_cons (beq1_int _ _) (beqL_cons (beq1_int _ _) (beqL_cons (beq1_int _ _) (beqL_cons hk25.beq1 beqL_nil)))))))) still_nil), ?_⟩
      refine p_set0 hst rfl rfl (x_storeC rfl rfl rfl (hst.get 0 rfl) (m := 6) (by kernel_rfl) rfl (Nat.le_of_ble_eq_true rfl) (allLeaf_cons rfl (allLeaf_cons rfl (allLeaf_cons rfl (allLeaf_cons rfl (allLeaf_cons rfl (allLeaf_cons hk25.leaf.2 allLeaf_nil)))))) (cells' := [_, _, _, _, _, _]) rfl) rfl (fun σ hst => ?_)
      refine ⟨still_nil, ?_⟩
      refine evPlan_nil ?_
      refine thenQ_normal ?_
      refine ev_seq ?_
      refine ev_region rfl ?_
      refine evOps_val rfl (x_field rfl (k := 0) (by kernel_rfl)) rfl ?_
      refine evOps_val rfl (x_load1 rfl (hst.get 1 rfl) (by kernel_rfl) rfl) rfl ?_
      refine evOps_val rfl (x_field rfl (k := 0) (by kernel_rfl)) rfl ?_
      refine evOps_val rfl (x_load1 rfl (hst.get 0 rfl) (by kernel_rfl) rfl) rfl ?_
      refine evOps_val rfl (x_bin rfl rfl rfl) rfl ?_
      refine o_split rfl (x_move rfl) (fun _ => rfl) (fun h32 => ?_) (fun h32 => ?_)
      · skip
        refine evOps_unwanted rfl rfl ?_
        refine evOps_unwanted rfl rfl ?_
        refine evOps_unwanted rfl rfl ?_
        refine evOps_unwanted rfl rfl ?_
        refine evOps_unwanted rfl rfl ?_
        refine evOps_val rfl (x_pick rfl rfl) rfl ?_
        refine evOps_val rfl (x_move rfl) rfl ?_
        refine evOps_unwanted rfl rfl ?_
        refine evOps_unwanted rfl rfl ?_
        refine evOps_unwanted rfl rfl ?_
        refine evOps_unwanted rfl rfl ?_
        refine evOps_unwanted rfl rfl ?_
        refine evOps_val rfl (x_pick rfl rfl) rfl ?_
        refine evOps_val rfl (x_move rfl) rfl ?_
        refine evOps_unwanted rfl rfl ?_
        refine evOps_unwanted rfl rfl ?_
        refine evOps_unwanted rfl rfl ?_
        refine evOps_unwanted rfl rfl ?_
        refine evOps_unwanted rfl rfl ?_
        refine evOps_val rfl (x_pick rfl rfl) rfl ?_
        refine evOps_val rfl (x_move rfl) rfl ?_
        refine evOps_unwanted rfl rfl ?_
        refine evOps_unwanted rfl rfl ?_
        refine evOps_unwanted rfl rfl ?_
        refine evOps_unwanted rfl rfl ?_
        refine evOps_unwanted rfl rfl ?_
        refine evOps_val rfl (x_pick rfl rfl) rfl ?_
        refine evOps_val rfl (x_move rfl) rfl ?_
        refine evOps_unwanted rfl rfl ?_
        refine evOps_unwanted rfl rfl ?_
        refine evOps_unwanted rfl rfl ?_
        refine evOps_unwanted rfl rfl ?_
        refine evOps_unwanted rfl rfl ?_
        refine evOps_unwanted rfl rfl ?_
        refine evOps_val rfl (x_pick rfl rfl) rfl ?_
        refine evOps_nil ?_
        refine thenQ_normal ?_
        refine ev_cond_true rfl ?_
        refine ev_seq ?_
        refine ev_region rfl ?_
        refine evOps_val rfl (x_assign rfl) rfl ?_
        refine evOps_nil ?_
        refine thenQ_normal ?_
        refine ev_ret ?_
        refine blockQ_ret (thenQ_ret (loopQ_ret (blockQ_ret (thenQ_ret (?_)))))
        exact end_ret1 rfl rfl ⟨by first | rw [sameX_len (notB_t h12)] | (rw [sameX_at hx21 hx25 (by rw [sameX_I]; simp only [notB_t h32, Bool.true_and, Bool.false_and])]) | rw [sameX_all (len_of (notB_f h12)) (lt_no h16) hsame], hst.pop.pop⟩
      · skip
        refine evOps_val rfl (x_field rfl (k := 1) (by kernel_rfl)) rfl ?_
        refine evOps_val rfl (x_load1 rfl (hst.get 1 rfl) (by kernel_rfl) rfl) rfl ?_
        refine evOps_val rfl (x_field rfl (k := 1) (by kernel_rfl)) rfl ?_
        refine evOps_val rfl (x_load1 rfl (hst.get 0 rfl) (by kernel_rfl) rfl) rfl ?_
        refine evOps_val rfl (x_bin rfl rfl rfl) rfl ?_
        refine evOps_val rfl (x_pick rfl rfl) rfl ?_
        refine o_split rfl (x_move rfl) (fun _ => rfl) (fun h39 => ?_) (fun h39 => ?_)
        · skip
          refine evOps_unwanted rfl rfl ?_
          refine evOps_unwanted rfl rfl ?_
          refine evOps_unwanted rfl rfl ?_
          refine evOps_unwanted rfl rfl ?_
          refine evOps_unwanted rfl rfl ?_
          refine evOps_val rfl (x_pick rfl rfl) rfl ?_
          refine evOps_val rfl (x_move rfl) rfl ?_
          refine evOps_unwanted rfl rfl ?_
          refine evOps_unwanted rfl rfl ?_
          refine evOps_unwanted rfl rfl ?_
          refine evOps_unwanted rfl rfl ?_
          refine evOps_unwanted rfl rfl ?_
          refine evOps_val rfl (x_pick rfl rfl) rfl ?_
          refine evOps_val rfl (x_move rfl) rfl ?_
          refine evOps_unwanted rfl rfl ?_
          refine evOps_unwanted rfl rfl ?_
          refine evOps_unwanted rfl rfl ?_
          refine evOps_unwanted rfl rfl ?_
          refine evOps_unwanted rfl rfl ?_
          refine evOps_val rfl (x_pick rfl rfl) rfl ?_
          refine evOps_val rfl (x_move rfl) rfl ?_
          refine evOps_unwanted rfl rfl ?_
          refine evOps_unwanted rfl rfl ?_
          refine evOps_unwanted rfl rfl ?_
          refine evOps_unwanted rfl rfl ?_
          refine evOps_unwanted rfl rfl ?_
          refine evOps_unwanted rfl rfl ?_
          refine evOps_val rfl (x_pick rfl rfl) rfl ?_
          refine evOps_nil ?_
          refine thenQ_normal ?_
          refine ev_cond_true rfl ?_
          refine ev_seq ?_
          refine ev_region rfl ?_
          refine evOps_val rfl (x_assign rfl) rfl ?_
          refine evOps_nil ?_
          refine thenQ_normal ?_
          refine ev_ret ?_
          refine blockQ_ret (thenQ_ret (loopQ_ret (blockQ_ret (thenQ_ret (?_)))))
          exact end_ret1 rfl rfl ⟨by first | rw [sameX_len (notB_t h12)] | (rw [sameX_at hx21 hx25 (by rw [sameX_I]; simp only [notB_f h32, notB_t h39, Bool.true_and, Bool.false_and])]) | rw [sameX_all (len_of (notB_f h12)) (lt_no h16) hsame], hst.pop.pop⟩
        · skip
          refine evOps_val rfl (x_field rfl (k := 2) (by kernel_rfl)) rfl ?_
          refine evOps_val rfl (x_load1 rfl (hst.get 1 rfl) (by kernel_rfl) rfl) rfl ?_
          refine evOps_val rfl (x_field rfl (k := 2) (by kernel_rfl)) rfl ?_
          refine evOps_val rfl (x_load1 rfl (hst.get 0 rfl) (by kernel_rfl) rfl) rfl ?_
          refine evOps_val rfl (x_bin rfl rfl rfl) rfl ?_
          refine evOps_val rfl (x_pick rfl rfl) rfl ?_
          refine o_split rfl (x_move rfl) (fun _ => rfl) (fun h46 => ?_) (fun h46 => ?_)
          · skip
            refine evOps_unwanted rfl rfl ?_
            refine evOps_unwanted rfl rfl ?_
            refine evOps_unwanted rfl rfl ?_
            refine evOps_unwanted rfl rfl ?_
            refine evOps_unwanted rfl rfl ?_
            refine evOps_val rfl (x_pick rfl rfl) rfl ?_
            refine evOps_val rfl (x_move rfl) rfl ?_
            refine evOps_unwanted rfl rfl ?_
            refine evOps_unwanted rfl rfl ?_
            refine evOps_unwanted rfl rfl ?_
            refine evOps_unwanted rfl rfl ?_
            refine evOps_unwanted rfl rfl ?_
            refine evOps_val rfl (x_pick rfl rfl) rfl ?_
            refine evOps_val rfl (x_move rfl) rfl ?_
            refine evOps_unwanted rfl rfl ?_
            refine evOps_unwanted rfl rfl ?_
            refine evOps_unwanted rfl rfl ?_
            refine evOps_unwanted rfl rfl ?_
            refine evOps_unwanted rfl rfl ?_
            refine evOps_unwanted rfl rfl ?_
            refine evOps_val rfl (x_pick rfl rfl) rfl ?_
            refine evOps_nil ?_
            refine thenQ_normal ?_
            refine ev_cond_true rfl ?_
            refine ev_seq ?_
            refine ev_region rfl ?_
            refine evOps_val rfl (x_assign rfl) rfl ?_
            refine evOps_nil ?_
            refine thenQ_normal ?_
            refine ev_ret ?_
            refine blockQ_ret (thenQ_ret (loopQ_ret (blockQ_ret (thenQ_ret (?_)))))
            exact end_ret1 rfl rfl ⟨by first | rw [sameX_len (notB_t h12)] | (rw [sameX_at hx21 hx25 (by rw [sameX_I]; simp only [notB_f h32, notB_f h39, notB_t h46, Bool.true_and, Bool.false_and])]) | rw [sameX_all (len_of (notB_f h12)) (lt_no h16) hsame], hst.pop.pop⟩
          · skip
            refine evOps_val rfl (x_field rfl (k := 3) (by kernel_rfl)) rfl ?_
            refine evOps_val rfl (x_load1 rfl (hst.get 1 rfl) (by kernel_rfl) rfl) rfl ?_
            refine evOps_val rfl (x_field rfl (k := 3) (by kernel_rfl)) rfl ?_
            refine evOps_val rfl (x_load1 rfl (hst.get 0 rfl) (by kernel_rfl) rfl) rfl ?_
            refine evOps_val rfl (x_bin rfl rfl rfl) rfl ?_
            refine evOps_val rfl (x_pick rfl rfl) rfl ?_
            refine o_split rfl (x_move rfl) (fun _ => rfl) (fun h53 => ?_) (fun h53 => ?_)
            · skip
              refine evOps_unwanted rfl rfl ?_
              refine evOps_unwanted rfl rfl ?_
              refine evOps_unwanted rfl rfl ?_
              refine evOps_unwanted rfl rfl ?_
              refine evOps_unwanted rfl rfl ?_
              refine evOps_val rfl (x_pick rfl rfl) rfl ?_
              refine evOps_val rfl (x_move rfl) rfl ?_
              refine evOps_unwanted rfl rfl ?_
              refine evOps_unwanted rfl rfl ?_
              refine evOps_unwanted rfl rfl ?_
              refine evOps_unwanted rfl rfl ?_
              refine evOps_unwanted rfl rfl ?_
              refine evOps_unwanted rfl rfl ?_
              refine evOps_val rfl (x_pick rfl rfl) rfl ?_
              refine evOps_nil ?_
              refine thenQ_normal ?_
              refine ev_cond_true rfl ?_
              refine ev_seq ?_
              refine ev_region rfl ?_
              refine evOps_val rfl (x_assign rfl) rfl ?_
              refine evOps_nil ?_
              refine thenQ_normal ?_
              refine ev_ret ?_
              refine blockQ_ret (thenQ_ret (loopQ_ret (blockQ_ret (thenQ_ret (?_)))))
              exact end_ret1 rfl rfl ⟨by first | rw [sameX_len (notB_t h12)] | (rw [sameX_at hx21 hx25 (by rw [sameX_I]; simp only [notB_f h32, notB_f h39, notB_f h46, notB_t h53, Bool.true_and, Bool.false_and])]) | rw [sameX_all (len_of (notB_f h12)) (lt_no h16) hsame], hst.pop.pop⟩
            · skip
              refine evOps_val rfl (x_field rfl (k := 4) (by kernel_rfl)) rfl ?_
              refine evOps_val rfl (x_load1 rfl (hst.get 1 rfl) (by kernel_rfl) rfl) rfl ?_
              refine evOps_val rfl (x_field rfl (k := 4) (by kernel_rfl)) rfl ?_
              refine evOps_val rfl (x_load1 rfl (hst.get 0 rfl) (by kernel_rfl) rfl) rfl ?_
              refine evOps_val rfl (x_bin rfl rfl rfl) rfl ?_
              refine evOps_val rfl (x_pick rfl rfl) rfl ?_
              refine o_split rfl (x_move rfl) (fun _ => rfl) (fun h60 => ?_) (fun h60 => ?_)
              · skip
                refine evOps_unwanted rfl rfl ?_
                refine evOps_unwanted rfl rfl ?_
                refine evOps_unwanted rfl rfl ?_
                refine evOps_unwanted rfl rfl ?_
                refine evOps_unwanted rfl rfl ?_
                refine evOps_unwanted rfl rfl ?_
                refine evOps_val rfl (x_pick rfl rfl) rfl ?_
                refine evOps_nil ?_
                refine thenQ_normal ?_
                refine ev_cond_true rfl ?_
                refine ev_seq ?_
                refine ev_region rfl ?_
                refine evOps_val rfl (x_assign rfl) rfl ?_
                refine evOps_nil ?_
                refine thenQ_normal ?_
                refine ev_ret ?_
                refine blockQ_ret (thenQ_ret (loopQ_ret (blockQ_ret (thenQ_ret (?_)))))
                exact end_ret1 rfl rfl ⟨by first | rw [sameX_len (notB_t h12)] | (rw [sameX_at hx21 hx25 (by rw [sameX_I]; simp only [notB_f h32, notB_f h39, notB_f h46, notB_f h53, notB_t h60, Bool.true_and, Bool.false_and])]) | rw [sameX_all (len_of (notB_f h12)) (lt_no h16) hsame], hst.pop.pop⟩
              · skip
                refine evOps_val rfl (x_field rfl (k := 5) (by kernel_rfl)) rfl ?_
                refine evOps_val rfl (x_load1 rfl (hst.get 1 rfl) (by kernel_rfl) rfl) rfl ?_
                refine evOps_val rfl (x_field rfl (k := 5) (by kernel_rfl)) rfl ?_
                refine evOps_val rfl (x_load1 rfl (hst.get 0 rfl) (by kernel_rfl) rfl) rfl ?_
                refine o_callV rfl (x_call rfl rfl rfl (by kernel_rfl)) (fun _ => rfl) (w_Exprs0 hG hst hk21 hk25 (fun x y vx vy σ L hst hx hy => w_Expr hG _ _ x y vx vy hx hy σ L hst)) (fun σ hst => ?_)
                refine evOps_val rfl (x_not rfl) rfl ?_
                refine evOps_val rfl (x_pick rfl rfl) rfl ?_
                refine evOps_nil ?_
                refine thenQ_normal ?_
                refine ev_cond2 rfl (fun h67 => ?_) (fun h67 => ?_)
                · skip
                  refine ev_seq ?_
                  refine ev_region rfl ?_
                  refine evOps_val rfl (x_assign rfl) rfl ?_
                  refine evOps_nil ?_
                  refine thenQ_normal ?_
                  refine ev_ret ?_
                  refine blockQ_ret (thenQ_ret (loopQ_ret (blockQ_ret (thenQ_ret (?_)))))
                  exact end_ret1 rfl rfl ⟨by first | rw [sameX_len (notB_t h12)] | (rw [sameX_at hx21 hx25 (by rw [sameX_I]; simp only [notB_f h32, notB_f h39, notB_f h46, notB_f h53, notB_f h60, Bool.true_and]; simpa using h67)]) | rw [sameX_all (len_of (notB_f h12)) (lt_no h16) hsame], hst.pop.pop⟩
                · skip
                  refine ev_skip ?_
                  refine blockQ_normal ?_
                  refine thenQ_normal ?_
                  refine ev_region rfl ?_
                  refine evOps_val rfl (x_move rfl) rfl ?_
                  refine evOps_val rfl (x_bin rfl rfl rfl) rfl ?_
                  refine evOps_val rfl (x_assign rfl) rfl ?_
                  refine evOps_nil ?_
                  have hst := hst.pop
                  have hst := hst.pop
                  refine loopQ_normal ⟨j4 - 1, by omega, OffW.put rfl (OffW.put rfl (OffW.put rfl (OffW.put rfl (OffW.put rfl (OffW.put rfl (OffW.put rfl (OffW.put rfl (OffW.put rfl (OffW.put rfl (OffW.put rfl (OffW.put rfl (OffW.put rfl (OffW.put rfl (OffW.put rfl (OffW.put rfl (OffW.put rfl (OffW.put rfl (OffW.put rfl (OffW.put rfl (OffW.put rfl (OffW.put rfl (OffW.put rfl (OffW.put rfl (OffW.put rfl (OffW.put rfl (OffW.put rfl (OffW.put rfl (OffW.put rfl (OffW.put rfl (OffW.put rfl (OffW.put rfl (OffW.put rfl (OffW.put rfl (OffW.put rfl (OffW.put rfl (OffW.put rfl (OffW.put rfl (OffW.put rfl (OffW.put rfl (OffW.put rfl (OffW.put rfl (OffW.put rfl (OffW.put rfl (OffW.put rfl (OffW.put rfl (OffW.put rfl (OffW.put rfl (OffW.put rfl (OffW.put rfl (OffW.put rfl (OffW.put rfl (OffW.put rfl (OffW.put rfl (OffW.put rfl (OffW.put rfl (OffW.put rfl (OffW.put rfl (OffW.put rfl (OffW.put rfl (OffW.put rfl (OffW.put rfl (OffW.put rfl (OffW.put rfl (OffW.put rfl (OffW.put rfl (OffW.put rfl (OffW.put rfl (OffW.put rfl (OffW.put rfl (OffW.put rfl (OffW.put rfl (OffW.put rfl (OffW.put rfl (OffW.put rfl (OffW.put rfl (OffW.put rfl (OffW.put rfl (OffW.put rfl (OffW.put rfl (OffW.put rfl (OffW.put rfl (OffW.put rfl (OffW.put rfl (OffW.put rfl (OffW.put rfl (OffW.put rfl (OffW.put rfl (OffW.put rfl (OffW.put rfl (OffW.put rfl (OffW.put rfl (OffW.put rfl (OffW.put rfl (OffW.put rfl (OffW.put rfl (OffW.put rfl (OffW.put rfl (OffW.put rfl (OffW.put rfl (OffW.put rfl (OffW.put rfl (OffW.put rfl (OffW.put rfl (OffW.put rfl (OffW.put rfl (OffW.put rfl (OffW.put rfl (OffW.put rfl (OffW.put rfl (OffW.put rfl (OffW.put rfl (OffW.put rfl (OffW.put rfl (OffW.put rfl (OffW.put rfl (OffW.put rfl (OffW.refl _ _))))))))))))))))))))))))))))))))))))))))))))))))))))))))))))))))))))))))))))))))))))))))))))))))))))))))))))))))))))), i + 1, by omega, same_step hsame hx21 hx25 (by rw [sameX_I]; simp only [notB_f h32, notB_f h39, notB_f h46, notB_f h53, notB_f h60, Bool.true_and]; simpa using h67), congrArg (fun z => some (AV.int .i64 z)) (wr_succ (by have := h1.len_le; omega)), hst⟩
    · skip
      refine ev_exit ?_
      refine thenQ_exit ?_
      refine loopQ_exit ?_
      refine blockQ_exit ?_
      refine thenQ_normal ?_
      refine ev_seq ?_
      refine ev_region rfl ?_
      refine evOps_val rfl (x_assign rfl) rfl ?_
      refine evOps_nil ?_
      refine thenQ_normal ?_
      refine ev_ret ?_
      exact end_ret1 rfl rfl ⟨by first | rw [sameX_len (notB_t h12)] | (rw [sameX_at hx21 hx25 (by rw [sameX_I]; simp only [Bool.true_and, Bool.false_and])]) | rw [sameX_all (len_of (notB_f h12)) (lt_no h16) hsame], hst⟩
theorem w_Code {G : Cx} (hG : Plain G) {K : KP} {k1 k2 : Nat} {x y : XC} {vx vy : List AV} {σ : AHeap} {L : Own} (hst : St σ K L) (h : HasC K k1 x vx) (h' : HasC K k2 y vy) : EvCall Try.prog G 13 [.agg vx, .agg vy] σ fun v σ' => v = .bool (sameX x y) ∧ St σ' K L := by
  have h1 := h; have h1' := h'
  obtain ⟨v1, rfl, hk1⟩ := h1
  obtain ⟨v2, rfl, hk2⟩ := h1'
  refine ev_body hG Try.func13 rfl (t := (PT.leaf.put (some (.agg _)) 0).put (some (.agg _)) 1) (by rfl) ?_
  refine ev_seq ?_
  refine ev_region rfl ?_
  refine o_ptr hst rfl (x_box rfl rfl) (fun _ => rfl) (fun σ b1 hst => ?_)
  refine o_ptr hst rfl (x_box rfl rfl) (fun _ => rfl) (fun σ b2 hst => ?_)
  refine evOps_val rfl (x_assign rfl) rfl ?_
  refine evOps_nil ?_
  refine thenQ_normal ?_
  refine ev_seq ?_
  refine ev_region rfl ?_
  refine evOps_val rfl (x_field rfl (k := 0) (by kernel_rfl)) rfl ?_
  refine evOps_val rfl (x_load1 rfl (hst.get 1 rfl) (by kernel_rfl) rfl) rfl ?_
  refine evOps_val rfl (x_field rfl (k := 0) (by kernel_rfl)) rfl ?_
  refine evOps_val rfl (x_load1 rfl (hst.get 0 rfl) (by kernel_rfl) rfl) rfl ?_
  refine evOps_val rfl (x_bin rfl rfl rfl) rfl ?_
  refine o_split rfl (x_move rfl) (fun _ => rfl) (fun h10 => ?_) (fun h10 => ?_)
  · skip
    refine evOps_val rfl (x_field rfl (k := 1) (by kernel_rfl)) rfl ?_
    refine evOps_val rfl (x_load1 rfl (hst.get 1 rfl) (by kernel_rfl) rfl) rfl ?_
    refine evOps_val rfl (x_field rfl (k := 1) (by kernel_rfl)) rfl ?_
    refine evOps_val rfl (x_load1 rfl (hst.get 0 rfl) (by kernel_rfl) rfl) rfl ?_
    refine o_callV rfl (x_call rfl rfl rfl (by kernel_rfl)) (fun _ => rfl) (w_Ins hG hst hk1 hk2) (fun σ hst => ?_)
    refine evOps_val rfl (x_pick rfl rfl) rfl ?_
    refine evOps_val rfl (x_assign rfl) rfl ?_
    refine evOps_nil ?_
    refine thenQ_normal ?_
    refine ev_ret ?_
    exact end_ret1 rfl rfl ⟨by rw [sameX_C]; simp only [h10, Bool.true_and, Bool.false_and], hst.pop.pop⟩
  · skip
    refine evOps_unwanted rfl rfl ?_
    refine evOps_unwanted rfl rfl ?_
    refine evOps_unwanted rfl rfl ?_
    refine evOps_unwanted rfl rfl ?_
    refine evOps_unwanted rfl rfl ?_
    refine evOps_val rfl (x_pick rfl rfl) rfl ?_
    refine evOps_val rfl (x_assign rfl) rfl ?_
    refine evOps_nil ?_
    refine thenQ_normal ?_
    refine ev_ret ?_
    exact end_ret1 rfl rfl ⟨by rw [sameX_C]; simp only [h10, Bool.true_and, Bool.false_and], hst.pop.pop⟩
end Go.Ev

namespace Go.Ev
variable [Env]
open Go.Proofs
set_option maxRecDepth 4000
set_option maxHeartbeats 8000000
section
variable {H : Type} {σ : AHeap}
theorem hasE_of (hn : ∀ (b : Nat) (o : AObj), σ.m.get b = some o → b < σ.next) : ∀ (fuel : Nat) (d : DataW H) (vs : List AV), Fit Try.prog fuel 105 d → HasD Try.prog σ fuel 105 d vs → HasE (KOf σ) fuel (toXE fuel d) vs
  | 0, _, _, hf, _ => hf.elim
  | 1, d, vs, hf, hd => by
    obtain ⟨_, h⟩ := struct_of (m := 4) Try.underlying105 (by kernel_rfl) (by kernel_rfl) hf hd
    exact (h 0 _ rfl).1.elim
  | fuel + 2, d, vs, hf, hd => by
    obtain ⟨hl, h⟩ := struct_of (m := 4) Try.underlying105 (by kernel_rfl) (by kernel_rfl) hf hd
    obtain ⟨a, b, c, e, rfl⟩ : ∃ a b c e, vs = [a, b, c, e] := by
      match vs, hl with
      | [a, b, c, e], _ => exact ⟨a, b, c, e, rfl⟩
    obtain ⟨f0, d0⟩ : Fit Try.prog _ 3 (partD d 0) ∧ HasD Try.prog σ _ 3 (partD d 0) (([a, b, c, e].drop 0).take (Try.prog.cellsOf 3)) := h 0 _ rfl
    obtain ⟨f1, d1⟩ : Fit Try.prog _ 2 (partD d 1) ∧ HasD Try.prog σ _ 2 (partD d 1) (([a, b, c, e].drop 1).take (Try.prog.cellsOf 2)) := h 1 _ rfl
    obtain ⟨f2, d2⟩ : Fit Try.prog _ 9 (partD d 2) ∧ HasD Try.prog σ _ 9 (partD d 2) (([a, b, c, e].drop 2).take (Try.prog.cellsOf 9)) := h 2 _ rfl
    obtain ⟨f3, d3⟩ : Fit Try.prog _ 100 (partD d 3) ∧ HasD Try.prog σ _ 100 (partD d 3) (([a, b, c, e].drop 3).take (Try.prog.cellsOf 100)) := h 3 _ rfl
    have c3 : Try.prog.cellsOf 3 = 1 := by kernel_rfl
    have c2 : Try.prog.cellsOf 2 = 1 := by kernel_rfl
    have c9 : Try.prog.cellsOf 9 = 1 := by kernel_rfl
    have c100 : Try.prog.cellsOf 100 = 1 := by kernel_rfl
    have e0 := (int_of Try.underlying3 f0 d0).1
    have e1 := (int_of Try.underlying2 f1 d1).1
    have e2 := str_of Try.underlying9 f2 d2
    obtain ⟨v, e3, hs⟩ := slice_of (m := 4) (toXE fuel) (HasE (KOf σ) fuel) Try.underlying100 (by kernel_rfl) (by decide) hn f3 d3 fun x vs hf hd => hasE_of hn fuel x vs hf hd
    rw [c3] at e0; rw [c2] at e1; rw [c9] at e2; rw [c100] at e3
    simp only [List.drop_zero, List.take_succ_cons, List.take_zero, List.drop_succ_cons, List.cons.injEq, and_true] at e0 e1 e2 e3
    subst e0; subst e1; subst e2; subst e3
    show ∃ w, _ = [_, _, _, w] ∧ HasS (KOf σ) 4 (HasE (KOf σ) (fuel + 1)) ((elemsD (partD d 3)).map (toXE fuel)) w
    exact ⟨_, rfl, hs.monoR fun x vs h => HasE.up h⟩
theorem hasI_of (hn : ∀ (b : Nat) (o : AObj), σ.m.get b = some o → b < σ.next) (fuel : Nat) (d : DataW H) (vs : List AV) (hf : Fit Try.prog (fuel + 2) 102 d) (hd : HasD Try.prog σ (fuel + 2) 102 d vs) : HasI (KOf σ) fuel (toXI fuel d) vs := by
  obtain ⟨hl, h⟩ := struct_of (m := 6) Try.underlying102 (by kernel_rfl) (by kernel_rfl) hf hd
  obtain ⟨a, b, c, e, g, i, rfl⟩ : ∃ a b c e g i, vs = [a, b, c, e, g, i] := by
    match vs, hl with
    | [a, b, c, e, g, i], _ => exact ⟨a, b, c, e, g, i, rfl⟩
  obtain ⟨f0, d0⟩ : Fit Try.prog _ 3 (partD d 0) ∧ HasD Try.prog σ _ 3 (partD d 0) (([a, b, c, e, g, i].drop 0).take (Try.prog.cellsOf 3)) := h 0 _ rfl
  obtain ⟨f1, d1⟩ : Fit Try.prog _ 3 (partD d 1) ∧ HasD Try.prog σ _ 3 (partD d 1) (([a, b, c, e, g, i].drop 1).take (Try.prog.cellsOf 3)) := h 1 _ rfl
  obtain ⟨f2, d2⟩ : Fit Try.prog _ 3 (partD d 2) ∧ HasD Try.prog σ _ 3 (partD d 2) (([a, b, c, e, g, i].drop 2).take (Try.prog.cellsOf 3)) := h 2 _ rfl
  obtain ⟨f3, d3⟩ : Fit Try.prog _ 3 (partD d 3) ∧ HasD Try.prog σ _ 3 (partD d 3) (([a, b, c, e, g, i].drop 3).take (Try.prog.cellsOf 3)) := h 3 _ rfl
  obtain ⟨f4, d4⟩ : Fit Try.prog _ 3 (partD d 4) ∧ HasD Try.prog σ _ 3 (partD d 4) (([a, b, c, e, g, i].drop 4).take (Try.prog.cellsOf 3)) := h 4 _ rfl
  obtain ⟨f5, d5⟩ : Fit Try.prog _ 100 (partD d 5) ∧ HasD Try.prog σ _ 100 (partD d 5) (([a, b, c, e, g, i].drop 5).take (Try.prog.cellsOf 100)) := h 5 _ rfl
  have c3 : Try.prog.cellsOf 3 = 1 := by kernel_rfl
  have c100 : Try.prog.cellsOf 100 = 1 := by kernel_rfl
  have e0 := (int_of Try.underlying3 f0 d0).1
  have e1 := (int_of Try.underlying3 f1 d1).1
  have e2 := (int_of Try.underlying3 f2 d2).1
  have e3 := (int_of Try.underlying3 f3 d3).1
  have e4 := (int_of Try.underlying3 f4 d4).1
  obtain ⟨v, e5, hs⟩ := slice_of (m := 4) (toXE fuel) (HasE (KOf σ) fuel) Try.underlying100 (by kernel_rfl) (by decide) hn f5 d5 fun x vs hf hd => hasE_of hn fuel x vs hf hd
  rw [c3] at e0 e1 e2 e3 e4; rw [c100] at e5
  simp only [List.drop_zero, List.take_succ_cons, List.take_zero, List.drop_succ_cons, List.cons.injEq, and_true] at e0 e1 e2 e3 e4 e5
  subst e0; subst e1; subst e2; subst e3; subst e4; subst e5
  exact ⟨_, rfl, hs⟩
theorem hasC_of (hn : ∀ (b : Nat) (o : AObj), σ.m.get b = some o → b < σ.next) (fuel : Nat) (d : DataW H) (vs : List AV) (hf : Fit Try.prog (fuel + 4) 38 d) (hd : HasD Try.prog σ (fuel + 4) 38 d vs) : HasC (KOf σ) fuel (toXC fuel d) vs := by
  obtain ⟨hl, h⟩ := struct_of (m := 2) Try.underlying38 (by kernel_rfl) (by kernel_rfl) hf hd
  obtain ⟨a, b, rfl⟩ : ∃ a b, vs = [a, b] := by
    match vs, hl with
    | [a, b], _ => exact ⟨a, b, rfl⟩
  obtain ⟨f0, d0⟩ : Fit Try.prog _ 3 (partD d 0) ∧ HasD Try.prog σ _ 3 (partD d 0) (([a, b].drop 0).take (Try.prog.cellsOf 3)) := h 0 _ rfl
  obtain ⟨f1, d1⟩ : Fit Try.prog _ 36 (partD d 1) ∧ HasD Try.prog σ _ 36 (partD d 1) (([a, b].drop 1).take (Try.prog.cellsOf 36)) := h 1 _ rfl
  have c3 : Try.prog.cellsOf 3 = 1 := by kernel_rfl
  have c36 : Try.prog.cellsOf 36 = 1 := by kernel_rfl
  have e0 := (int_of Try.underlying3 f0 d0).1
  obtain ⟨v, e1, hs⟩ := slice_of (m := 6) (toXI fuel) (HasI (KOf σ) fuel) Try.underlying36 (by kernel_rfl) (by decide) hn f1 d1 fun x vs hf hd => hasI_of hn fuel x vs hf hd
  rw [c3] at e0; rw [c36] at e1
  simp only [List.drop_zero, List.take_succ_cons, List.take_zero, List.drop_succ_cons, List.cons.injEq, and_true] at e0 e1
  subst e0; subst e1
  exact ⟨_, rfl, hs⟩
theorem hasCs_of (hn : ∀ (b : Nat) (o : AObj), σ.m.get b = some o → b < σ.next) (fuel : Nat) (d : DataW H) (vs : List AV) (hf : Fit Try.prog (fuel + 5) 22 d) (hd : HasD Try.prog σ (fuel + 5) 22 d vs) : ∃ v, vs = [v] ∧ HasS (KOf σ) 2 (HasC (KOf σ) fuel) ((elemsD d).map (toXC fuel)) v :=
  slice_of (m := 2) (toXC fuel) (HasC (KOf σ) fuel) Try.underlying22 (by kernel_rfl) (by decide) hn hf hd fun x vs hf hd => hasC_of hn fuel x vs hf hd
end
end Go.Ev

namespace Go.Ev
variable [Env]
open Go.Proofs
set_option maxRecDepth 4000
set_option maxHeartbeats 8000000
section
variable {H : Type} {enc : TypeId × Value → H}
noncomputable def G0 : Cx := ⟨0, fun _ => false, fun _ => false, fun _ _ => none, [], [], fun _ _ _ => none, fun _ _ _ => none⟩
theorem plainG0 : Plain G0 := ⟨fun _ _ _ => rfl, fun _ _ => rfl, rfl, fun _ _ _ => rfl, fun _ => rfl⟩
theorem okG0 {P : Program} : CxOK P G0 := ⟨(fun g h => by cases h), (fun f args v h => by cases h), (fun e h => by cases h), (fun f a s v h => by cases h)⟩
theorem gr0 (ρ : Ren) : GR ρ G0 := fun g h => absurd h (Nat.not_lt_zero _)
theorem drawnT : Try.prog.follows .mixedOrders = true := by kernel_rfl
theorem two_of {α : Type} {l : List α} (h : l.length = 2) : ∃ a b, l = [a, b] := by
  match l, h with
  | [a, b], _ => exact ⟨a, b, rfl⟩
theorem one_of {α : Type} {l : List α} (h : l.length = 1) : ∃ a, l = [a] := by
  match l, h with
  | [a], _ => exact ⟨a, rfl⟩
/-- Two codes: what a contract on them is worth. -/
theorem codes_calls {f : Nat} {R : XC → XC → Bool} (hc : ∀ (K : KP) (k1 k2 : Nat) (x y : XC) (vx vy : List AV) (σ : AHeap) (L : Own), St σ K L → HasC K k1 x vx → HasC K k2 y vy → EvCall Try.prog G0 f [.agg vx, .agg vy] σ fun v σ' => v = .bool (R x y) ∧ St σ' K L)
    {w : World} (ho : OldW w) (hw : ∃ (r : Nat) (c : Array Value) (e : TypeId) (fr : Nat × Nat), w.heap[r]? = some (Obj.cells c e fr)) {F : Nat} {c1 c2 : Array Value} {x1 x2 : DataW H × List MemPlace}
    (h1 : DataW.trod enc Try.prog w 0 (fun _ => true) true (F + 4) 38 c1.toList = some x1) (h2 : DataW.trod enc Try.prog w 0 (fun _ => true) true (F + 4) 38 c2.toList = some x2) :
    Calls Try.prog f #[.agg c1, .agg c2] w fun e w' => e = .returned (.bool (R (toXC F x1.1) (toXC F x2.1))) ∧ Keeps w w' := by
  obtain ⟨ρ, σ, vss, hi, hr, _, n1, n2, hh⟩ := layPieces (enc := enc) (P := Try.prog) (fuel := F + 4) (lay hw (F + 4)) [(38, c1.toList), (38, c2.toList)] [x1, x2] (by simp [h1, h2]) (fun _ => none) σ0 (inv0 w ho) AllRo.leaf
  obtain ⟨vs1, vs2, rfl⟩ := two_of n1
  obtain ⟨d1, v1⟩ := hh 0 _ _ _ rfl rfl rfl
  obtain ⟨d2, v2⟩ := hh 1 _ _ _ rfl rfl rfl
  have C1 := hasC_of (fun b o => HasD.fresh hi) F _ _ (fit_of_trod _ _ _ _ x1.2 h1) d1
  have C2 := hasC_of (fun b o => HasD.fresh hi) F _ _ (fit_of_trod _ _ _ _ x2.2 h2) d2
  refine (calls_of_ev (args := [.agg vs1, .agg vs2]) drawnT okG0 hi (gr0 _) hr ?_ (hc _ _ _ _ _ _ _ _ _ (St.of σ) C1 C2)).mono fun e w' h => ?_
  · exact VRs.cons (by simp only [VR]; exact ⟨c1, rfl, v1⟩) (VRs.cons (by simp only [VR]; exact ⟨c2, rfl, v2⟩) VRs.nil)
  · obtain ⟨v, x, σ', ρ', rfl, hk, hv, rfl, _⟩ := h
    simp only [VR] at hv
    subst hv
    exact ⟨rfl, hk⟩
theorem same_calls {w : World} (ho : OldW w) (hw : ∃ (r : Nat) (c : Array Value) (e : TypeId) (fr : Nat × Nat), w.heap[r]? = some (Obj.cells c e fr)) {F : Nat} {c1 c2 : Array Value} {x1 x2 : DataW H × List MemPlace}
    (h1 : DataW.trod enc Try.prog w 0 (fun _ => true) true (F + 4) 38 c1.toList = some x1) (h2 : DataW.trod enc Try.prog w 0 (fun _ => true) true (F + 4) 38 c2.toList = some x2) :
    Calls Try.prog 38 #[.agg c1, .agg c2] w fun e w' => e = .returned (.bool (sameX (toXC F x1.1) (toXC F x2.1))) ∧ Keeps w w' := codes_calls (R := sameX) (fun K k1 k2 x y vx vy σ L hst h h' => w_Same plainG0 hst h h') ho hw h1 h2
theorem code_calls {w : World} (ho : OldW w) (hw : ∃ (r : Nat) (c : Array Value) (e : TypeId) (fr : Nat × Nat), w.heap[r]? = some (Obj.cells c e fr)) {F : Nat} {c1 c2 : Array Value} {x1 x2 : DataW H × List MemPlace}
    (h1 : DataW.trod enc Try.prog w 0 (fun _ => true) true (F + 4) 38 c1.toList = some x1) (h2 : DataW.trod enc Try.prog w 0 (fun _ => true) true (F + 4) 38 c2.toList = some x2) :
    Calls Try.prog 13 #[.agg c1, .agg c2] w fun e w' => e = .returned (.bool (sameX (toXC F x1.1) (toXC F x2.1))) ∧ Keeps w w' := codes_calls (R := sameX) (fun K k1 k2 x y vx vy σ L hst h h' => w_Code plainG0 hst h h') ho hw h1 h2
theorem light_calls {w : World} (ho : OldW w) (hw : ∃ (r : Nat) (c : Array Value) (e : TypeId) (fr : Nat × Nat), w.heap[r]? = some (Obj.cells c e fr)) {F : Nat} {v : Value} (hone : v.cells = #[v]) {x : DataW H × List MemPlace} (n : Int)
    (h : DataW.trod enc Try.prog w 0 (fun _ => true) true (F + 5) 22 [v] = some x) :
    Calls Try.prog 8 #[v, .int .i64 n] w fun e w' => e = .returned (.bool (lightXs F n ((elemsD x.1).map (toXC F)))) ∧ Keeps w w' := by
  obtain ⟨ρ, σ, vss, hi, hr, _, n1, n2, hh⟩ := layPieces (enc := enc) (P := Try.prog) (fuel := F + 5) (lay hw (F + 5)) [(22, [v])] [x] (by simp [h]) (fun _ => none) σ0 (inv0 w ho) AllRo.leaf
  obtain ⟨vs1, rfl⟩ := one_of n1
  obtain ⟨d1, v1⟩ := hh 0 _ _ _ rfl rfl rfl
  obtain ⟨u, rfl, C1⟩ := hasCs_of (fun b o => HasD.fresh hi) F _ _ (fit_of_trod _ _ _ _ x.2 h) d1
  refine (calls_of_ev (args := [u, .int .i64 n]) drawnT okG0 hi (gr0 _) hr ?_ (w_LightCodes plainG0 (St.of σ) C1 n)).mono fun e w' h => ?_
  · obtain ⟨y, ys, he, hv, _⟩ := v1.cons_inv
    cases he
    exact VRs.cons hv (VRs.cons (by simp only [VR]) VRs.nil)
  · obtain ⟨v, x, σ', ρ', rfl, hk, hv, rfl, _⟩ := h
    simp only [VR] at hv
    subst hv
    exact ⟨rfl, hk⟩
end
end Go.Ev

