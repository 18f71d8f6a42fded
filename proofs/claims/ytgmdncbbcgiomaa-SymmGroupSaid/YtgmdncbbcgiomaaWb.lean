/- Walks and runs: what functions of the program come to, on the evaluator. Without conditions. -/
import Derived.Test.YtgmdncbbcgiomaaWa
import Derived.Test.YtgmdncbbcgiomaaEd
set_option linter.unusedSectionVars false
set_option linter.unusedVariables false
set_option linter.unusedSimpArgs false
namespace Go.Ev
variable [Env]
open Go.Proofs
set_option maxRecDepth 4000
set_option maxHeartbeats 8000000

theorem w_Ints {G : Cx} (hG : Plain G) {K : KP} {l1 l2 : List Int} {v1 v2 : AV} {σ : AHeap} {L : Own} (hst : St σ K L) (h1 : HasS K 1 RInt l1 v1) (h2 : HasS K 1 RInt l2 v2) :
    EvCall Try.prog G 40 [v1, v2] σ fun v σ' => v = .bool (sameX l1 l2) ∧ σ' = σ := by
  generalize hs0 : σ = s0 at hst ⊢; replace hs0 : s0 = s0 := rfl
  refine ev_body (σ := s0) hG Try.func40 rfl (t := (PT.leaf.put (some (v1)) 0).put (some (v2)) 1) (by rfl) ?_
  refine ev_seq ?_
  refine ev_region rfl ?_
  refine evOps_val rfl (x_assign rfl) rfl ?_
  refine evOps_nil ?_
  refine thenQ_normal ?_
  refine ev_seq ?_
  refine ev_seq ?_
  refine ev_region rfl ?_
  refine evOps_val rfl (x_move rfl) rfl ?_
  refine evOps_val rfl (x_len' h1 rfl rfl rfl (e := 3) (by kernel_rfl) rfl) rfl ?_
  refine evOps_val rfl (x_move rfl) rfl ?_
  refine evOps_val rfl (x_len' h2 rfl rfl rfl (e := 3) (by kernel_rfl) rfl) rfl ?_
  refine evOps_val rfl (x_bin rfl rfl rfl) rfl ?_
  refine evOps_nil ?_
  refine thenQ_normal ?_
  refine ev_cond2 rfl (fun h10 => ?_) (fun h10 => ?_)
  · skip
    refine ev_seq ?_
    refine ev_region rfl ?_
    refine evOps_val rfl (x_assign rfl) rfl ?_
    refine evOps_nil ?_
    refine thenQ_normal ?_
    refine ev_ret ?_
    refine thenQ_ret (?_)
    exact end_ret1 rfl rfl ⟨by first | rw [sameX_len (notB_t h10)] | (rw [sameX_at hx19 hx23 (by simpa only [eqI_same] using notB_t h25)]) | rw [sameX_all (len_of (notB_f h10)) (lt_no h14) hsame], hs0⟩
  · skip
    refine ev_skip ?_
    refine thenQ_normal ?_
    refine ev_seq ?_
    refine ev_seq ?_
    refine ev_region rfl ?_
    refine evOps_val rfl (x_assign rfl) rfl ?_
    refine evOps_nil ?_
    refine thenQ_normal ?_
    refine ev_block ?_
    obtain ⟨LL1, hst, hLL1⟩ := hst.named
    refine ev_loopW [4, 5, 11, 12, 13, 14, 15, 16, 17, 18, 19, 20, 21, 22, 23, 24, 25] (fun j t σ => ∃ (i : Nat), σ = s0 ∧ j + i = l1.length ∧ (∀ k, k < i → l1[k]? = l2[k]?) ∧ t.get 5 = some (.int .i64 (.ofNat i)) ∧ St σ K LL1) (l1.length) ⟨0, hs0, rfl, fun k hk => absurd hk (Nat.not_lt_zero _), rfl, hst⟩ ?_
    clear hst; intro j4 t σ hoff hI; obtain ⟨i, hs0, hj, hsame, hv5, hst⟩ := hI
    subst hLL1
    obtain ⟨o4, hoff⟩ := hoff.ex1 rfl; obtain ⟨o5, hoff⟩ := hoff.ex1 rfl; obtain ⟨o11, hoff⟩ := hoff.ex1 rfl; obtain ⟨o12, hoff⟩ := hoff.ex1 rfl; obtain ⟨o13, hoff⟩ := hoff.ex1 rfl; obtain ⟨o14, hoff⟩ := hoff.ex1 rfl; obtain ⟨o15, hoff⟩ := hoff.ex1 rfl; obtain ⟨o16, hoff⟩ := hoff.ex1 rfl; obtain ⟨o17, hoff⟩ := hoff.ex1 rfl; obtain ⟨o18, hoff⟩ := hoff.ex1 rfl; obtain ⟨o19, hoff⟩ := hoff.ex1 rfl; obtain ⟨o20, hoff⟩ := hoff.ex1 rfl; obtain ⟨o21, hoff⟩ := hoff.ex1 rfl; obtain ⟨o22, hoff⟩ := hoff.ex1 rfl; obtain ⟨o23, hoff⟩ := hoff.ex1 rfl; obtain ⟨o24, hoff⟩ := hoff.ex1 rfl; obtain ⟨o25, hoff⟩ := hoff.ex1 rfl
    obtain rfl := hoff.nil; clear hoff
    replace hv5 : o5 = some _ := hv5; subst hv5
    refine ev_seq ?_
    refine ev_seq ?_
    refine ev_region rfl ?_
    refine evOps_val rfl (x_move rfl) rfl ?_
    refine evOps_val rfl (x_move rfl) rfl ?_
    refine evOps_val rfl (x_len' h1 rfl rfl rfl (e := 3) (by kernel_rfl) rfl) rfl ?_
    refine evOps_val rfl (x_bin rfl rfl rfl) rfl ?_
    refine evOps_nil ?_
    refine thenQ_normal ?_
    refine ev_cond2 rfl (fun h14 => ?_) (fun h14 => ?_)
    · skip
      refine ev_skip ?_
      refine thenQ_normal ?_
      refine ev_seq ?_
      refine ev_block ?_
      refine ev_seq ?_
      refine ev_region_plan (l := [(0, []), (1, []), (2, []), (3, []), (4, []), (5, []), (6, []), (7, []), (8, [])]) (by kernel_rfl) (by kernel_rfl) ?_
      refine evPlan_val rfl rfl (x_move rfl) rfl ?_
      refine evPlan_val rfl rfl (x_move rfl) rfl ?_
      obtain ⟨x19, hx19, hi19⟩ := at_lt h14
      refine p_idx (e := 3) (m := 1) h1 hx19 rfl rfl rfl (by kernel_rfl) (by kernel_rfl) rfl rfl (fun _ => rfl) (fun p19 vs19 hp19 hl19 hr19 => ?_)
      obtain rfl := hr19
      refine evPlan_val rfl rfl (x_pload1 hst hp19 rfl (by kernel_rfl) rfl) rfl ?_
      refine evPlan_val rfl rfl (x_move rfl) rfl ?_
      refine evPlan_val rfl rfl (x_move rfl) rfl ?_
      obtain ⟨x23, hx23⟩ := at_of (show _ < l2.length from by rw [← len_of (notB_f h10)]; exact hi19)
      refine p_idx (e := 3) (m := 1) h2 hx23 rfl rfl rfl (by kernel_rfl) (by kernel_rfl) rfl rfl (fun _ => rfl) (fun p23 vs23 hp23 hl23 hr23 => ?_)
      obtain rfl := hr23
      refine evPlan_val rfl rfl (x_pload1 hst hp23 rfl (by kernel_rfl) rfl) rfl ?_
      refine evPlan_val rfl rfl (x_bin rfl rfl rfl) rfl ?_
      refine evPlan_nil ?_
      refine thenQ_normal ?_
      refine ev_cond2 rfl (fun h25 => ?_) (fun h25 => ?_)
      · skip
        refine ev_seq ?_
        refine ev_region rfl ?_
        refine evOps_val rfl (x_assign rfl) rfl ?_
        refine evOps_nil ?_
        refine thenQ_normal ?_
        refine ev_ret ?_
        refine blockQ_ret (thenQ_ret (loopQ_ret (blockQ_ret (thenQ_ret (?_)))))
        exact end_ret1 rfl rfl ⟨by first | rw [sameX_len (notB_t h10)] | (rw [sameX_at hx19 hx23 (by simpa only [eqI_same] using notB_t h25)]) | rw [sameX_all (len_of (notB_f h10)) (lt_no h14) hsame], hs0⟩
      · skip
        refine ev_skip ?_
        refine blockQ_normal ?_
        refine thenQ_normal ?_
        refine ev_region rfl ?_
        refine evOps_val rfl (x_move rfl) rfl ?_
        refine evOps_val rfl (x_bin rfl rfl rfl) rfl ?_
        refine evOps_val rfl (x_assign rfl) rfl ?_
        refine evOps_nil ?_
        refine loopQ_normal ⟨j4 - 1, by omega, OffW.put rfl (OffW.put rfl (OffW.put rfl (OffW.put rfl (OffW.put rfl (OffW.put rfl (OffW.put rfl (OffW.put rfl (OffW.put rfl (OffW.put rfl (OffW.put rfl (OffW.put rfl (OffW.put rfl (OffW.put rfl (OffW.put rfl (OffW.put rfl (OffW.put rfl (OffW.put rfl (OffW.put rfl (OffW.put rfl (OffW.put rfl (OffW.put rfl (OffW.put rfl (OffW.put rfl (OffW.put rfl (OffW.put rfl (OffW.put rfl (OffW.put rfl (OffW.put rfl (OffW.put rfl (OffW.put rfl (OffW.put rfl (OffW.put rfl (OffW.refl _ _))))))))))))))))))))))))))))))))), i + 1, hs0, by omega, same_step hsame hx19 hx23 (by simpa only [eqI_same] using notB_f h25), congrArg (fun z => some (AV.int .i64 z)) (wr_succ (by have := h1.len_le; omega)), hst⟩
    · skip
      refine ev_exit ?_
      refine thenQ_exit ?_
      refine loopQ_exit ?_
      refine blockQ_exit ?_
      refine thenQ_normal ?_
      refine ev_seq ?_
      refine ev_region rfl ?_
      refine evOps_val rfl (x_assign rfl) rfl ?_
      refine evOps_nil ?_
      refine thenQ_normal ?_
      refine ev_ret ?_
      exact end_ret1 rfl rfl ⟨by first | rw [sameX_len (notB_t h10)] | (rw [sameX_at hx19 hx23 (by simpa only [eqI_same] using notB_t h25)]) | rw [sameX_all (len_of (notB_f h10)) (lt_no h14) hsame], hs0⟩
theorem w_has {G : Cx} (hG : Plain G) {K : KP} {ls : List (List Int)} {xs : List Int} {v1 v2 : AV} {σ : AHeap} {L : Own} (hst : St σ K L) (h1 : HasS K 1 (RL K 1 RInt) ls v1) (h2 : HasS K 1 RInt xs v2) :
    EvCall Try.prog G 11 [v1, v2] σ fun v σ' => v = .bool (ls.any fun y => sameX y xs) ∧ σ' = σ := by
  generalize hs0 : σ = s0 at hst ⊢; replace hs0 : s0 = s0 := rfl
  refine ev_body (σ := s0) hG Try.func11 rfl (t := (PT.leaf.put (some (v1)) 0).put (some (v2)) 1) (by rfl) ?_
  refine ev_seq ?_
  refine ev_region rfl ?_
  refine evOps_val rfl (x_assign rfl) rfl ?_
  refine evOps_nil ?_
  refine thenQ_normal ?_
  refine ev_seq ?_
  refine ev_seq ?_
  refine ev_region rfl ?_
  refine evOps_val rfl (x_assign rfl) rfl ?_
  refine evOps_nil ?_
  refine thenQ_normal ?_
  refine ev_block ?_
  obtain ⟨LL1, hst, hLL1⟩ := hst.named
  refine ev_loopW [4, 5, 6, 7, 8, 9, 10, 11, 12, 13, 14, 15, 16, 17] (fun j t σ => ∃ (i : Nat), σ = s0 ∧ j + i = ls.length ∧ (ls.take i).any (fun y => sameX y xs) = false ∧ t.get 5 = some (.int .i64 (.ofNat i)) ∧ St σ K LL1) (ls.length) ⟨0, hs0, rfl, rfl, rfl, hst⟩ ?_
  clear hst; intro j2 t σ hoff hI; obtain ⟨i, hs0, hj, ha, hv5, hst⟩ := hI
  subst hLL1
  obtain ⟨o4, hoff⟩ := hoff.ex1 rfl; obtain ⟨o5, hoff⟩ := hoff.ex1 rfl; obtain ⟨o6, hoff⟩ := hoff.ex1 rfl; obtain ⟨o7, hoff⟩ := hoff.ex1 rfl; obtain ⟨o8, hoff⟩ := hoff.ex1 rfl; obtain ⟨o9, hoff⟩ := hoff.ex1 rfl; obtain ⟨o10, hoff⟩ := hoff.ex1 rfl; obtain ⟨o11, hoff⟩ := hoff.ex1 rfl; obtain ⟨o12, hoff⟩ := hoff.ex1 rfl; obtain ⟨o13, hoff⟩ := hoff.ex1 rfl; obtain ⟨o14, hoff⟩ := hoff.ex1 rfl; obtain ⟨o15, hoff⟩ := hoff.ex1 rfl; obtain ⟨o16, hoff⟩ := hoff.ex1 rfl; obtain ⟨o17, hoff⟩ := hoff.ex1 rfl
  obtain rfl := hoff.nil; clear hoff
  replace hv5 : o5 = some _ := hv5; subst hv5
  refine ev_seq ?_
  refine ev_seq ?_
  refine ev_region rfl ?_
  refine evOps_val rfl (x_move rfl) rfl ?_
  refine evOps_val rfl (x_move rfl) rfl ?_
  refine evOps_val rfl (x_len' h1 rfl rfl rfl (e := 30) (by kernel_rfl) rfl) rfl ?_
  refine evOps_val rfl (x_bin rfl rfl rfl) rfl ?_
  refine evOps_nil ?_
  refine thenQ_normal ?_
  refine ev_cond2 rfl (fun h9 => ?_) (fun h9 => ?_)
  · skip
    refine ev_skip ?_
    refine thenQ_normal ?_
    refine ev_seq ?_
    refine ev_block ?_
    refine ev_seq ?_
    refine ev_region rfl ?_
    refine evOps_val rfl (x_move rfl) rfl ?_
    refine evOps_val rfl (x_move rfl) rfl ?_
    obtain ⟨x14, hx14, hi14⟩ := at_lt h9
    refine o_idx (e := 30) (m := 1) h1 hx14 rfl rfl (by kernel_rfl) (by kernel_rfl) rfl rfl (fun _ => rfl) (fun p14 vs14 hp14 hl14 hr14 => ?_)
    have hr14' := hr14; obtain ⟨v14, rfl, hk14⟩ := hr14'
    refine evOps_val rfl (x_pload1 hst hp14 rfl (by kernel_rfl) rfl) rfl ?_
    refine evOps_val rfl (x_move rfl) rfl ?_
    refine o_callB0 rfl (x_call rfl rfl rfl (by kernel_rfl)) (fun _ => rfl) (w_Ints hG hst hk14 h2) ?_
    refine evOps_nil ?_
    refine thenQ_normal ?_
    refine ev_cond2 rfl (fun h17 => ?_) (fun h17 => ?_)
    · skip
      refine ev_seq ?_
      refine ev_region rfl ?_
      refine evOps_val rfl (x_assign rfl) rfl ?_
      refine evOps_nil ?_
      refine thenQ_normal ?_
      refine ev_ret ?_
      refine blockQ_ret (thenQ_ret (loopQ_ret (blockQ_ret (thenQ_ret (?_)))))
      exact end_ret1 rfl rfl ⟨congrArg AV.bool (by rw [any_at hx14 h17]), hs0⟩
    · skip
      refine ev_skip ?_
      refine blockQ_normal ?_
      refine thenQ_normal ?_
      refine ev_region rfl ?_
      refine evOps_val rfl (x_move rfl) rfl ?_
      refine evOps_val rfl (x_bin rfl rfl rfl) rfl ?_
      refine evOps_val rfl (x_assign rfl) rfl ?_
      refine evOps_nil ?_
      refine loopQ_normal ⟨j2 - 1, by omega, OffW.put rfl (OffW.put rfl (OffW.put rfl (OffW.put rfl (OffW.put rfl (OffW.put rfl (OffW.put rfl (OffW.put rfl (OffW.put rfl (OffW.put rfl (OffW.put rfl (OffW.put rfl (OffW.put rfl (OffW.put rfl (OffW.put rfl (OffW.put rfl (OffW.put rfl (OffW.put rfl (OffW.put rfl (OffW.put rfl (OffW.put rfl (OffW.put rfl (OffW.put rfl (OffW.put rfl (OffW.put rfl (OffW.put rfl (OffW.put rfl (OffW.refl _ _))))))))))))))))))))))))))), i + 1, hs0, by omega, any_step ha hx14 h17, congrArg (fun z => some (AV.int .i64 z)) (wr_succ (by have := h1.len_le; omega)), hst⟩
  · skip
    refine ev_exit ?_
    refine thenQ_exit ?_
    refine loopQ_exit ?_
    refine blockQ_exit ?_
    refine thenQ_normal ?_
    refine ev_seq ?_
    refine ev_region rfl ?_
    refine evOps_val rfl (x_assign rfl) rfl ?_
    refine evOps_nil ?_
    refine thenQ_normal ?_
    refine ev_ret ?_
    exact end_ret1 rfl rfl ⟨congrArg AV.bool (by rw [any_end ha (lt_no h9)]), hs0⟩
end Go.Ev

namespace Go.Ev
variable [Env]
open Go.Proofs
set_option maxRecDepth 4000
set_option maxHeartbeats 8000000
/-! 'has', out of what lies: quickly. -/
def intA : AV → Option Int
  | .int .i64 n => some n
  | _ => none
def capB (len : Nat) : Cap → Bool
  | .known n => Nat.ble len n
  | .upto s => Nat.beq s 1
  | _ => false
/-- The cells of a slice of one cell each. -/
noncomputable def sliceCells (σ : AHeap) (v : AV) : Option (List AV) :=
  match v with
  | .nilSlice => some []
  | .slice b off len c => match σ.m.get b with
    | some (.row cells _ _) => bif Nat.ble (Nat.succ b) σ.next && (Nat.ble (off + len) (lenN cells) && (capB len c && Nat.ble len 9223372036854775807)) then some (takeN (dropN cells off) len) else none
    | _ => none
  | _ => none
noncomputable def sliceInts (σ : AHeap) (v : AV) : Option (List Int) :=
  match sliceCells σ v with
  | some cs => allSome intA cs
  | none => none
noncomputable def anyIs (ls : List (List Int)) (xs : List Int) : Bool := List.rec (motive := fun _ => Bool) false (fun y _ r => bif eqIs y xs then true else r) ls
noncomputable def hasFast (σ : AHeap) (args : List AV) : Option AV :=
  match args with
  | [v, x] => match sliceInts σ x, sliceCells σ v with
    | some xs, some cs => match allSome (sliceInts σ) cs with
      | some ls => some (.bool (anyIs ls xs))
      | none => none
    | _, _ => none
  | _ => none
theorem anyIs_eq : ∀ (ls : List (List Int)) (xs : List Int), anyIs ls xs = ls.any fun y => sameX y xs
  | [], _ => rfl
  | y :: ls, xs => by
    show (bif eqIs y xs then true else anyIs ls xs) = _
    rw [anyIs_eq ls xs, eqIs_eq, List.any_cons]
    cases sameX y xs <;> rfl
/-- What the cells are. -/
theorem sliceCells_at {σ : AHeap} {v : AV} {cs : List AV} (h : sliceCells σ v = some cs) {α : Type} {R : α → List AV → Prop} {l : List α} (hl : l.length = cs.length) (hR : ∀ (i : Nat) (x : α) (c : AV), l[i]? = some x → cs[i]? = some c → R x [c]) : HasS (KOf σ) 1 R l v := by
  unfold sliceCells at h
  split at h
  · cases h
    exact .inl ⟨List.eq_nil_of_length_eq_zero hl, rfl⟩
  · rename_i b off len c
    split at h
    · rename_i cells e ro hb
      rw [ite_cond] at h
      split at h
      · rename_i hc
        simp only [Bool.and_eq_true, Nat.ble_eq, lenN_eq] at hc
        obtain ⟨h1, h2, h3, h4⟩ := hc
        rw [takeN_eq, dropN_eq] at h
        cases h
        have hlen : l.length = len := by rw [hl, List.length_take, List.length_drop]; omega
        refine .inr ⟨b, off, c, cells, e, ro, by rw [hlen], ?_, ⟨h1, hb⟩, by rw [hlen]; omega, by rw [hlen]; exact h4, fun i x hx => ?_⟩
        · rw [hlen]
          cases c with
          | known n => exact .inr ⟨n, rfl, by simpa [capB] using h3⟩
          | upto s => have := Nat.eq_of_beq_eq_true (by simpa [capB] using h3); subst this; exact .inl rfl
          | least _ _ => cases h3
        · have hi : i < len := by rw [← hlen]; exact (List.getElem?_eq_some_iff.1 hx).1
          have hlt : off + i < cells.length := by omega
          have e1 : (cells.drop (off + i * 1)).take 1 = [cells[off + i]] := by
            rw [Nat.mul_one, List.drop_eq_getElem_cons hlt]; rfl
          rw [e1]
          exact hR i x _ hx (by rw [List.getElem?_take, if_pos hi, List.getElem?_drop, List.getElem?_eq_getElem hlt])
      · cases h
    · cases h
  · cases h
theorem sliceInts_has {σ : AHeap} {v : AV} {xs : List Int} (h : sliceInts σ v = some xs) : HasS (KOf σ) 1 RInt xs v := by
  unfold sliceInts at h
  split at h
  · rename_i cs hcs
    obtain ⟨k1, k2⟩ := allSome_at h
    refine sliceCells_at hcs k1 fun i x c hx hc => ?_
    obtain ⟨y, hy, hv⟩ := k2 i x hx
    rw [hc] at hy
    cases hy
    unfold intA at hv
    split at hv
    · cases hv; rfl
    · cases hv
  · cases h
theorem hasFast_ev {σ : AHeap} {args : List AV} {v : AV} (h : hasFast σ args = some v) : EvCall Try.prog G0 11 args σ fun u σ' => u = v ∧ σ' = σ := by
  unfold hasFast at h
  split at h
  · rename_i a x
    split at h
    · rename_i xs cs hx hcs
      split at h
      · rename_i ls hls
        cases h
        rw [anyIs_eq]
        have h2 := sliceInts_has hx
        obtain ⟨k1, k2⟩ := allSome_at hls
        have h1 : HasS (KOf σ) 1 (RL (KOf σ) 1 RInt) ls a := sliceCells_at hcs k1 fun i y c hy hc => by
          obtain ⟨z, hz, hv⟩ := k2 i y hy
          rw [hc] at hz
          cases hz
          exact ⟨c, rfl, sliceInts_has hv⟩
        exact w_has plainG0 (St.of σ) h1 h2
      · cases h
    · cases h
  · cases h
/-- What is known so, is. -/
theorem hasFast_ktb {σ : AHeap} {args : List AV} {v : AV} (h : hasFast σ args = some v) {ρ : Ren} {w : World} {xs : Array Value} (hi : Inv ρ σ w) (hx : VRs ρ args xs.toList) :
    Calls Try.prog 11 xs w fun e w' => ∃ x ρ', e = .returned x ∧ VR ρ' v x ∧ Inv ρ' σ w' ∧ Stp ρ σ w ρ' σ w' := by
  obtain ⟨K, u, σ', h1, h2, h3⟩ := hasFast_ev h
  subst h2; subst h3
  exact evalCall_sound (fuel := K) drawnT okG0 (h1 K (Nat.le_refl _)) hi (gr0 _) hx fun ρ' w' x i st hv => ⟨x, ρ', rfl, hv, i, st⟩
end Go.Ev

