/- Walks and runs: what functions of the program come to, on the evaluator. Without conditions. -/
import Derived.Test.YtgmdncbbcgiomaaEd
import Derived.Test.YtgmdncbbcgiomaaEe
import Derived.Test.YtgmdncbbcgiomaaProg
import Derived.KernelRfl
set_option linter.unusedSectionVars false
set_option linter.unusedVariables false
set_option linter.unusedSimpArgs false
namespace Go.Ev
variable [Env]
open Go.Proofs
set_option maxRecDepth 4000
set_option maxHeartbeats 8000000

theorem w_Longs {G : Cx} (hG : Plain G) {K : KP}  {l1 l2 : List Int} {v1 v2 : AV} {σ : AHeap} {L : Own} (hst : St σ K L) (h1 : HasS K 1 (RInt) l1 v1) (h2 : HasS K 1 (RInt) l2 v2)
     : EvCall Try.prog G 50 [v1, v2] σ fun v σ' => v = .bool (sameX l1 l2) ∧ St σ' K L := by
  refine eY hG Try.func50 rfl (t := (PT.leaf.put (some (v1)) 0).put (some (v2)) 1) (by rfl) ?_
  refine eS ?_
  refine eR rfl ?_
  refine eV rfl (xA rfl) rfl ?_
  refine eN ?_
  refine tN ?_
  refine eS ?_
  refine eS ?_
  refine eR rfl ?_
  refine eV rfl (xM rfl) rfl ?_
  refine eV rfl (x_len' h1 rfl rfl rfl (e := 2) (by kernel_rfl) rfl) rfl ?_
  refine eV rfl (xM rfl) rfl ?_
  refine eV rfl (x_len' h2 rfl rfl rfl (e := 2) (by kernel_rfl) rfl) rfl ?_
  refine eV rfl (xB rfl rfl rfl) rfl ?_
  refine eN ?_
  refine tN ?_
  refine e2_ rfl (fun h10 => ?_) (fun h10 => ?_)
  · skip
    refine eS ?_
    refine eR rfl ?_
    refine eV rfl (xA rfl) rfl ?_
    refine eN ?_
    refine tN ?_
    refine eT ?_
    refine tR (?_)
    exact r1_ rfl rfl ⟨by first | rw [sameX_len (notB_t h10)] | (rw [sameX_at hx19 hx23 (by simpa only [eqI_same] using notB_t h25)]) | rw [sameX_all (len_of (notB_f h10)) (lt_no h14) hsame], hst⟩
  · skip
    refine eI ?_
    refine tN ?_
    refine eS ?_
    refine eS ?_
    refine eR rfl ?_
    refine eV rfl (xA rfl) rfl ?_
    refine eN ?_
    refine tN ?_
    refine eB ?_
    obtain ⟨LL1, hst, hLL1⟩ := hst.named
    refine eW [4, 5, 11, 12, 13, 14, 15, 16, 17, 18, 19, 20, 21, 22, 23, 24, 25] (fun j t σ => ∃ (i : Nat), j + i = l1.length ∧ (∀ k, k < i → l1[k]? = l2[k]?) ∧ t.get 5 = some (.int .i64 (.ofNat i)) ∧ St σ K LL1) (l1.length) ⟨0, rfl, fun k hk => absurd hk (Nat.not_lt_zero _), rfl, hst⟩ ?_
    clear hst; intro j4 t σ hoff hI; obtain ⟨i, hj, hsame, hv5, hst⟩ := hI
    subst hLL1
    obtain ⟨o4, o5, o11, o12, o13, o14, o15, o16, hoff⟩ := hoff.ex8 rfl rfl
    obtain ⟨o17, o18, o19, o20, o21, o22, o23, o24, hoff⟩ := hoff.ex8 rfl rfl
    obtain ⟨o25, hoff⟩ := hoff.ex1 rfl
    obtain rfl := hoff.nil; clear hoff
    replace hv5 : o5 = some _ := hv5; subst hv5
    refine eS ?_
    refine eS ?_
    refine eR rfl ?_
    refine eV rfl (xM rfl) rfl ?_
    refine eV rfl (xM rfl) rfl ?_
    refine eV rfl (x_len' h1 rfl rfl rfl (e := 2) (by kernel_rfl) rfl) rfl ?_
    refine eV rfl (xB rfl rfl rfl) rfl ?_
    refine eN ?_
    refine tN ?_
    refine e2_ rfl (fun h14 => ?_) (fun h14 => ?_)
    · skip
      refine eI ?_
      refine tN ?_
      refine eS ?_
      refine eB ?_
      refine eS ?_
      refine eP (l := [(0, []), (1, []), (2, []), (3, []), (4, []), (5, []), (6, []), (7, []), (8, [])]) (by kernel_rfl) (by kernel_rfl) ?_
      refine pV rfl rfl (xM rfl) rfl ?_
      refine pV rfl rfl (xM rfl) rfl ?_
      obtain ⟨x19, hx19, hi19⟩ := at_lt h14
      refine pi (e := 2) (m := 1) h1 hx19 rfl rfl rfl (by kernel_rfl) (by kernel_rfl) rfl rfl (fun _ => rfl) (fun p19 vs19 hp19 hl19 hr19 => ?_)
      obtain rfl := hr19
      refine pV rfl rfl (xp hst hp19 rfl (by kernel_rfl) rfl) rfl ?_
      refine pV rfl rfl (xM rfl) rfl ?_
      refine pV rfl rfl (xM rfl) rfl ?_
      obtain ⟨x23, hx23⟩ := at_of (show _ < l2.length from by rw [← len_of (notB_f h10)]; exact hi19)
      refine pi (e := 2) (m := 1) h2 hx23 rfl rfl rfl (by kernel_rfl) (by kernel_rfl) rfl rfl (fun _ => rfl) (fun p23 vs23 hp23 hl23 hr23 => ?_)
      obtain rfl := hr23
      refine pV rfl rfl (xp hst hp23 rfl (by kernel_rfl) rfl) rfl ?_
      refine pV rfl rfl (xB rfl rfl rfl) rfl ?_
      refine pN ?_
      refine tN ?_
      refine e2_ rfl (fun h25 => ?_) (fun h25 => ?_)
      · skip
        refine eS ?_
        refine eR rfl ?_
        refine eV rfl (xA rfl) rfl ?_
        refine eN ?_
        refine tN ?_
        refine eT ?_
        refine bR (tR (lR (bR (tR (?_)))))
        exact r1_ rfl rfl ⟨by first | rw [sameX_len (notB_t h10)] | (rw [sameX_at hx19 hx23 (by simpa only [eqI_same] using notB_t h25)]) | rw [sameX_all (len_of (notB_f h10)) (lt_no h14) hsame], hst⟩
      · skip
        refine eI ?_
        refine bN ?_
        refine tN ?_
        refine eR rfl ?_
        refine eV rfl (xM rfl) rfl ?_
        refine eV rfl (xB rfl rfl rfl) rfl ?_
        refine eV rfl (xA rfl) rfl ?_
        refine eN ?_
        refine lN ⟨j4 - 1, by omega, (by (iterate 33 refine OffW.put rfl ?_); exact OffW.refl _ _), i + 1, by omega, same_step hsame hx19 hx23 (by simpa only [eqI_same] using notB_f h25), congrArg (fun z => some (AV.int .i64 z)) (wr_succ (by have := h1.len_le; omega)), hst⟩
    · skip
      refine eX ?_
      refine tX ?_
      refine lX ?_
      refine bX ?_
      refine tN ?_
      refine eS ?_
      refine eR rfl ?_
      refine eV rfl (xA rfl) rfl ?_
      refine eN ?_
      refine tN ?_
      refine eT ?_
      exact r1_ rfl rfl ⟨by first | rw [sameX_len (notB_t h10)] | (rw [sameX_at hx19 hx23 (by simpa only [eqI_same] using notB_t h25)]) | rw [sameX_all (len_of (notB_f h10)) (lt_no h14) hsame], hst⟩
theorem w_Events {G : Cx} (hG : Plain G) {K : KP}  {l1 l2 : List XEv} {v1 v2 : AV} {σ : AHeap} {L : Own} (hst : St σ K L) (h1 : HasS K 5 (REv) l1 v1) (h2 : HasS K 5 (REv) l2 v2)
     : EvCall Try.prog G 51 [v1, v2] σ fun v σ' => v = .bool (sameX l1 l2) ∧ St σ' K L := by
  refine eY hG Try.func51 rfl (t := (PT.leaf.put (some (v1)) 0).put (some (v2)) 1) (by rfl) ?_
  refine eS ?_
  refine eR rfl ?_
  refine eV rfl (xA rfl) rfl ?_
  refine eN ?_
  refine tN ?_
  refine eS ?_
  refine eS ?_
  refine eR rfl ?_
  refine eV rfl (xM rfl) rfl ?_
  refine eV rfl (x_len' h1 rfl rfl rfl (e := 45) (by kernel_rfl) rfl) rfl ?_
  refine eV rfl (xM rfl) rfl ?_
  refine eV rfl (x_len' h2 rfl rfl rfl (e := 45) (by kernel_rfl) rfl) rfl ?_
  refine eV rfl (xB rfl rfl rfl) rfl ?_
  refine eN ?_
  refine tN ?_
  refine e2_ rfl (fun h10 => ?_) (fun h10 => ?_)
  · skip
    refine eS ?_
    refine eR rfl ?_
    refine eV rfl (xA rfl) rfl ?_
    refine eN ?_
    refine tN ?_
    refine eT ?_
    refine tR (?_)
    exact r1_ rfl rfl ⟨by first | rw [sameX_len (notB_t h10)] | (rw [sameX_at hx19 hx23 (by exact (XEv.same (x := x19) (y := x23)).symm.trans (notB_t h25))]) | rw [sameX_all (len_of (notB_f h10)) (lt_no h14) hsame], hst⟩
  · skip
    refine eI ?_
    refine tN ?_
    refine eS ?_
    refine eS ?_
    refine eR rfl ?_
    refine eV rfl (xA rfl) rfl ?_
    refine eN ?_
    refine tN ?_
    refine eB ?_
    obtain ⟨LL1, hst, hLL1⟩ := hst.named
    refine eW [4, 5, 11, 12, 13, 14, 15, 16, 17, 18, 19, 20, 21, 22, 23, 24, 25] (fun j t σ => ∃ (i : Nat), j + i = l1.length ∧ (∀ k, k < i → l1[k]? = l2[k]?) ∧ t.get 5 = some (.int .i64 (.ofNat i)) ∧ St σ K LL1) (l1.length) ⟨0, rfl, fun k hk => absurd hk (Nat.not_lt_zero _), rfl, hst⟩ ?_
    clear hst; intro j4 t σ hoff hI; obtain ⟨i, hj, hsame, hv5, hst⟩ := hI
    subst hLL1
    obtain ⟨o4, o5, o11, o12, o13, o14, o15, o16, hoff⟩ := hoff.ex8 rfl rfl
    obtain ⟨o17, o18, o19, o20, o21, o22, o23, o24, hoff⟩ := hoff.ex8 rfl rfl
    obtain ⟨o25, hoff⟩ := hoff.ex1 rfl
    obtain rfl := hoff.nil; clear hoff
    replace hv5 : o5 = some _ := hv5; subst hv5
    refine eS ?_
    refine eS ?_
    refine eR rfl ?_
    refine eV rfl (xM rfl) rfl ?_
    refine eV rfl (xM rfl) rfl ?_
    refine eV rfl (x_len' h1 rfl rfl rfl (e := 45) (by kernel_rfl) rfl) rfl ?_
    refine eV rfl (xB rfl rfl rfl) rfl ?_
    refine eN ?_
    refine tN ?_
    refine e2_ rfl (fun h14 => ?_) (fun h14 => ?_)
    · skip
      refine eI ?_
      refine tN ?_
      refine eS ?_
      refine eB ?_
      refine eS ?_
      refine eP (l := [(0, []), (1, []), (2, []), (3, []), (4, []), (5, []), (6, []), (7, []), (8, [])]) (by kernel_rfl) (by kernel_rfl) ?_
      refine pV rfl rfl (xM rfl) rfl ?_
      refine pV rfl rfl (xM rfl) rfl ?_
      obtain ⟨x19, hx19, hi19⟩ := at_lt h14
      refine pi (e := 45) (m := 5) h1 hx19 rfl rfl rfl (by kernel_rfl) (by kernel_rfl) rfl rfl (fun _ => rfl) (fun p19 vs19 hp19 hl19 hr19 => ?_)
      obtain rfl := hr19
      refine pV rfl rfl (xw hst hp19 rfl (by kernel_rfl) rfl) rfl ?_
      refine pV rfl rfl (xM rfl) rfl ?_
      refine pV rfl rfl (xM rfl) rfl ?_
      obtain ⟨x23, hx23⟩ := at_of (show _ < l2.length from by rw [← len_of (notB_f h10)]; exact hi19)
      refine pi (e := 45) (m := 5) h2 hx23 rfl rfl rfl (by kernel_rfl) (by kernel_rfl) rfl rfl (fun _ => rfl) (fun p23 vs23 hp23 hl23 hr23 => ?_)
      obtain rfl := hr23
      refine pV rfl rfl (xw hst hp23 rfl (by kernel_rfl) rfl) rfl ?_
      refine pV rfl rfl (x_neS (n := 5) (ca := [_, _, _, _, _]) (cb := [_, _, _, _, _]) (by kernel_rfl) rfl rfl rfl rfl) rfl ?_
      refine pN ?_
      refine tN ?_
      refine e2_ rfl (fun h25 => ?_) (fun h25 => ?_)
      · skip
        refine eS ?_
        refine eR rfl ?_
        refine eV rfl (xA rfl) rfl ?_
        refine eN ?_
        refine tN ?_
        refine eT ?_
        refine bR (tR (lR (bR (tR (?_)))))
        exact r1_ rfl rfl ⟨by first | rw [sameX_len (notB_t h10)] | (rw [sameX_at hx19 hx23 (by exact (XEv.same (x := x19) (y := x23)).symm.trans (notB_t h25))]) | rw [sameX_all (len_of (notB_f h10)) (lt_no h14) hsame], hst⟩
      · skip
        refine eI ?_
        refine bN ?_
        refine tN ?_
        refine eR rfl ?_
        refine eV rfl (xM rfl) rfl ?_
        refine eV rfl (xB rfl rfl rfl) rfl ?_
        refine eV rfl (xA rfl) rfl ?_
        refine eN ?_
        refine lN ⟨j4 - 1, by omega, (by (iterate 33 refine OffW.put rfl ?_); exact OffW.refl _ _), i + 1, by omega, same_step hsame hx19 hx23 (by exact (XEv.same (x := x19) (y := x23)).symm.trans (notB_f h25)), congrArg (fun z => some (AV.int .i64 z)) (wr_succ (by have := h1.len_le; omega)), hst⟩
    · skip
      refine eX ?_
      refine tX ?_
      refine lX ?_
      refine bX ?_
      refine tN ?_
      refine eS ?_
      refine eR rfl ?_
      refine eV rfl (xA rfl) rfl ?_
      refine eN ?_
      refine tN ?_
      refine eT ?_
      exact r1_ rfl rfl ⟨by first | rw [sameX_len (notB_t h10)] | (rw [sameX_at hx19 hx23 (by exact (XEv.same (x := x19) (y := x23)).symm.trans (notB_t h25))]) | rw [sameX_all (len_of (notB_f h10)) (lt_no h14) hsame], hst⟩
theorem w_Ids {G : Cx} (hG : Plain G) {K : KP}  {l1 l2 : List XId} {v1 v2 : AV} {σ : AHeap} {L : Own} (hst : St σ K L) (h1 : HasS K 2 (RId) l1 v1) (h2 : HasS K 2 (RId) l2 v2)
     : EvCall Try.prog G 29 [v1, v2] σ fun v σ' => v = .bool (sameX l1 l2) ∧ St σ' K L := by
  refine eY hG Try.func29 rfl (t := (PT.leaf.put (some (v1)) 0).put (some (v2)) 1) (by rfl) ?_
  refine eS ?_
  refine eR rfl ?_
  refine eV rfl (xA rfl) rfl ?_
  refine eN ?_
  refine tN ?_
  refine eS ?_
  refine eS ?_
  refine eR rfl ?_
  refine eV rfl (xM rfl) rfl ?_
  refine eV rfl (x_len' h1 rfl rfl rfl (e := 47) (by kernel_rfl) rfl) rfl ?_
  refine eV rfl (xM rfl) rfl ?_
  refine eV rfl (x_len' h2 rfl rfl rfl (e := 47) (by kernel_rfl) rfl) rfl ?_
  refine eV rfl (xB rfl rfl rfl) rfl ?_
  refine eN ?_
  refine tN ?_
  refine e2_ rfl (fun h10 => ?_) (fun h10 => ?_)
  · skip
    refine eS ?_
    refine eR rfl ?_
    refine eV rfl (xA rfl) rfl ?_
    refine eN ?_
    refine tN ?_
    refine eT ?_
    refine tR (?_)
    exact r1_ rfl rfl ⟨by first | rw [sameX_len (notB_t h10)] | (rw [sameX_at hx19 hx23 (by exact (XId.same (x := x19) (y := x23)).symm.trans (notB_t h25))]) | rw [sameX_all (len_of (notB_f h10)) (lt_no h14) hsame], hst⟩
  · skip
    refine eI ?_
    refine tN ?_
    refine eS ?_
    refine eS ?_
    refine eR rfl ?_
    refine eV rfl (xA rfl) rfl ?_
    refine eN ?_
    refine tN ?_
    refine eB ?_
    obtain ⟨LL1, hst, hLL1⟩ := hst.named
    refine eW [4, 5, 11, 12, 13, 14, 15, 16, 17, 18, 19, 20, 21, 22, 23, 24, 25] (fun j t σ => ∃ (i : Nat), j + i = l1.length ∧ (∀ k, k < i → l1[k]? = l2[k]?) ∧ t.get 5 = some (.int .i64 (.ofNat i)) ∧ St σ K LL1) (l1.length) ⟨0, rfl, fun k hk => absurd hk (Nat.not_lt_zero _), rfl, hst⟩ ?_
    clear hst; intro j4 t σ hoff hI; obtain ⟨i, hj, hsame, hv5, hst⟩ := hI
    subst hLL1
    obtain ⟨o4, o5, o11, o12, o13, o14, o15, o16, hoff⟩ := hoff.ex8 rfl rfl
    obtain ⟨o17, o18, o19, o20, o21, o22, o23, o24, hoff⟩ := hoff.ex8 rfl rfl
    obtain ⟨o25, hoff⟩ := hoff.ex1 rfl
    obtain rfl := hoff.nil; clear hoff
    replace hv5 : o5 = some _ := hv5; subst hv5
    refine eS ?_
    refine eS ?_
    refine eR rfl ?_
    refine eV rfl (xM rfl) rfl ?_
    refine eV rfl (xM rfl) rfl ?_
    refine eV rfl (x_len' h1 rfl rfl rfl (e := 47) (by kernel_rfl) rfl) rfl ?_
    refine eV rfl (xB rfl rfl rfl) rfl ?_
    refine eN ?_
    refine tN ?_
    refine e2_ rfl (fun h14 => ?_) (fun h14 => ?_)
    · skip
      refine eI ?_
      refine tN ?_
      refine eS ?_
      refine eB ?_
      refine eS ?_
      refine eP (l := [(0, []), (1, []), (2, []), (3, []), (4, []), (5, []), (6, []), (7, []), (8, [])]) (by kernel_rfl) (by kernel_rfl) ?_
      refine pV rfl rfl (xM rfl) rfl ?_
      refine pV rfl rfl (xM rfl) rfl ?_
      obtain ⟨x19, hx19, hi19⟩ := at_lt h14
      refine pi (e := 47) (m := 2) h1 hx19 rfl rfl rfl (by kernel_rfl) (by kernel_rfl) rfl rfl (fun _ => rfl) (fun p19 vs19 hp19 hl19 hr19 => ?_)
      obtain rfl := hr19
      refine pV rfl rfl (xw hst hp19 rfl (by kernel_rfl) rfl) rfl ?_
      refine pV rfl rfl (xM rfl) rfl ?_
      refine pV rfl rfl (xM rfl) rfl ?_
      obtain ⟨x23, hx23⟩ := at_of (show _ < l2.length from by rw [← len_of (notB_f h10)]; exact hi19)
      refine pi (e := 47) (m := 2) h2 hx23 rfl rfl rfl (by kernel_rfl) (by kernel_rfl) rfl rfl (fun _ => rfl) (fun p23 vs23 hp23 hl23 hr23 => ?_)
      obtain rfl := hr23
      refine pV rfl rfl (xw hst hp23 rfl (by kernel_rfl) rfl) rfl ?_
      refine pV rfl rfl (x_neS (n := 2) (ca := [_, _]) (cb := [_, _]) (by kernel_rfl) rfl rfl rfl rfl) rfl ?_
      refine pN ?_
      refine tN ?_
      refine e2_ rfl (fun h25 => ?_) (fun h25 => ?_)
      · skip
        refine eS ?_
        refine eR rfl ?_
        refine eV rfl (xA rfl) rfl ?_
        refine eN ?_
        refine tN ?_
        refine eT ?_
        refine bR (tR (lR (bR (tR (?_)))))
        exact r1_ rfl rfl ⟨by first | rw [sameX_len (notB_t h10)] | (rw [sameX_at hx19 hx23 (by exact (XId.same (x := x19) (y := x23)).symm.trans (notB_t h25))]) | rw [sameX_all (len_of (notB_f h10)) (lt_no h14) hsame], hst⟩
      · skip
        refine eI ?_
        refine bN ?_
        refine tN ?_
        refine eR rfl ?_
        refine eV rfl (xM rfl) rfl ?_
        refine eV rfl (xB rfl rfl rfl) rfl ?_
        refine eV rfl (xA rfl) rfl ?_
        refine eN ?_
        refine lN ⟨j4 - 1, by omega, (by (iterate 33 refine OffW.put rfl ?_); exact OffW.refl _ _), i + 1, by omega, same_step hsame hx19 hx23 (by exact (XId.same (x := x19) (y := x23)).symm.trans (notB_f h25)), congrArg (fun z => some (AV.int .i64 z)) (wr_succ (by have := h1.len_le; omega)), hst⟩
    · skip
      refine eX ?_
      refine tX ?_
      refine lX ?_
      refine bX ?_
      refine tN ?_
      refine eS ?_
      refine eR rfl ?_
      refine eV rfl (xA rfl) rfl ?_
      refine eN ?_
      refine tN ?_
      refine eT ?_
      exact r1_ rfl rfl ⟨by first | rw [sameX_len (notB_t h10)] | (rw [sameX_at hx19 hx23 (by exact (XId.same (x := x19) (y := x23)).symm.trans (notB_t h25))]) | rw [sameX_all (len_of (notB_f h10)) (lt_no h14) hsame], hst⟩
end Go.Ev

namespace Go.Ev
variable [Env]
open Go.Proofs
set_option maxRecDepth 4000
set_option maxHeartbeats 8000000

theorem w_Graph {G : Cx} (hG : Plain G) {K : KP} {g1 g2 : XG} {a1 b1 c1 d1 a2 b2 c2 d2 : AV} {σ : AHeap} {L : Own} (hst : St σ K L) (h1 : HasG K g1 a1 b1 c1 d1) (h2 : HasG K g2 a2 b2 c2 d2) :
  EvCall Try.prog G 19 [.agg [a1, b1, c1, d1], .agg [a2, b2, c2, d2]] σ fun v σ' => v = .bool (sameX g1 g2) ∧ St σ' K L := by
 obtain ⟨hi1, ht1, hf1, ho1⟩ := h1
 obtain ⟨hi2, ht2, hf2, ho2⟩ := h2
 refine eY hG Try.func19 rfl (t := (PT.leaf.put (some (.agg [a1, b1, c1, d1])) 0).put (some (.agg [a2, b2, c2, d2])) 1) (by rfl) ?_
 refine eS ?_
 refine eR rfl ?_
 refine oP hst rfl (xo_ rfl rfl) (fun _ => rfl) (fun σ b1 hst => ?_)
 refine oP hst rfl (xo_ rfl rfl) (fun _ => rfl) (fun σ b2 hst => ?_)
 refine eV rfl (xA rfl) rfl ?_
 refine eN ?_
 refine tN ?_
 refine eS ?_
 refine eS ?_
 refine eR rfl ?_
 refine eV rfl (xF rfl (k := 0) (by kernel_rfl)) rfl ?_
 refine eV rfl (x1_ rfl (hst.get 1 rfl) (by kernel_rfl) rfl) rfl ?_
 refine eV rfl (xF rfl (k := 0) (by kernel_rfl)) rfl ?_
 refine eV rfl (x1_ rfl (hst.get 0 rfl) (by kernel_rfl) rfl) rfl ?_
 refine oV rfl (xC rfl rfl rfl (by kernel_rfl)) (fun _ => rfl) (w_Longs hG hst hi1 hi2) (fun σ hst => ?_)
 refine eV rfl (xn rfl) rfl ?_
 refine oS rfl (xM rfl) (fun _ => rfl) (fun h14 => ?_) (fun h14 => ?_)
 ·refine eU rfl rfl ?_
  refine eU rfl rfl ?_
  refine eU rfl rfl ?_
  refine eU rfl rfl ?_
  refine eU rfl rfl ?_
  refine eU rfl rfl ?_
  refine eU rfl rfl ?_
  refine eV rfl (xP rfl rfl) rfl ?_
  refine eV rfl (xM rfl) rfl ?_
  refine eU rfl rfl ?_
  refine eU rfl rfl ?_
  refine eU rfl rfl ?_
  refine eU rfl rfl ?_
  refine eU rfl rfl ?_
  refine eU rfl rfl ?_
  refine eU rfl rfl ?_
  refine eV rfl (xP rfl rfl) rfl ?_
  refine eV rfl (xM rfl) rfl ?_
  refine eU rfl rfl ?_
  refine eU rfl rfl ?_
  refine eU rfl rfl ?_
  refine eU rfl rfl ?_
  refine eU rfl rfl ?_
  refine eU rfl rfl ?_
  refine eU rfl rfl ?_
  refine eV rfl (xP rfl rfl) rfl ?_
  refine eN ?_
  refine tN ?_
  refine eA rfl ?_
  refine eS ?_
  refine eR rfl ?_
  refine eV rfl (xA rfl) rfl ?_
  refine eN ?_
  refine tN ?_
  refine eT ?_
  refine tR (?_)
  exact r1_ rfl rfl ⟨congrArg AV.bool (by have e0 : sameX g1.init g2.init = false := (by simpa using h14); rw [sameX_G]; simp only [e0, Bool.and_true, Bool.true_and, Bool.and_false, Bool.false_and]), hst.pop.pop⟩
 ·refine eV rfl (xF rfl (k := 1) (by kernel_rfl)) rfl ?_
  refine eV rfl (x1_ rfl (hst.get 1 rfl) (by kernel_rfl) rfl) rfl ?_
  refine eV rfl (x_len' ht1 rfl rfl rfl (e := 61) (by kernel_rfl) rfl) rfl ?_
  refine eV rfl (xF rfl (k := 1) (by kernel_rfl)) rfl ?_
  refine eV rfl (x1_ rfl (hst.get 0 rfl) (by kernel_rfl) rfl) rfl ?_
  refine eV rfl (x_len' ht2 rfl rfl rfl (e := 61) (by kernel_rfl) rfl) rfl ?_
  refine eV rfl (xB rfl rfl rfl) rfl ?_
  refine eV rfl (xP rfl rfl) rfl ?_
  refine oS rfl (xM rfl) (fun _ => rfl) (fun h23 => ?_) (fun h23 => ?_)
  ·refine eU rfl rfl ?_
   refine eU rfl rfl ?_
   refine eU rfl rfl ?_
   refine eU rfl rfl ?_
   refine eU rfl rfl ?_
   refine eU rfl rfl ?_
   refine eU rfl rfl ?_
   refine eV rfl (xP rfl rfl) rfl ?_
   refine eV rfl (xM rfl) rfl ?_
   refine eU rfl rfl ?_
   refine eU rfl rfl ?_
   refine eU rfl rfl ?_
   refine eU rfl rfl ?_
   refine eU rfl rfl ?_
   refine eU rfl rfl ?_
   refine eU rfl rfl ?_
   refine eV rfl (xP rfl rfl) rfl ?_
   refine eN ?_
   refine tN ?_
   refine eA rfl ?_
   refine eS ?_
   refine eR rfl ?_
   refine eV rfl (xA rfl) rfl ?_
   refine eN ?_
   refine tN ?_
   refine eT ?_
   refine tR (?_)
   exact r1_ rfl rfl ⟨congrArg AV.bool (by have e0 : sameX g1.init g2.init = true := (by simpa using h14); have e1 := sameX_len (notB_t h23); rw [sameX_G]; simp only [e0, e1, Bool.and_true, Bool.true_and, Bool.and_false, Bool.false_and]), hst.pop.pop⟩
  ·refine eV rfl (xF rfl (k := 2) (by kernel_rfl)) rfl ?_
   refine eV rfl (x1_ rfl (hst.get 1 rfl) (by kernel_rfl) rfl) rfl ?_
   refine eV rfl (x_len' hf1 rfl rfl rfl (e := 62) (by kernel_rfl) rfl) rfl ?_
   refine eV rfl (xF rfl (k := 2) (by kernel_rfl)) rfl ?_
   refine eV rfl (x1_ rfl (hst.get 0 rfl) (by kernel_rfl) rfl) rfl ?_
   refine eV rfl (x_len' hf2 rfl rfl rfl (e := 62) (by kernel_rfl) rfl) rfl ?_
   refine eV rfl (xB rfl rfl rfl) rfl ?_
   refine eV rfl (xP rfl rfl) rfl ?_
   refine oS rfl (xM rfl) (fun _ => rfl) (fun h32 => ?_) (fun h32 => ?_)
   ·refine eU rfl rfl ?_
    refine eU rfl rfl ?_
    refine eU rfl rfl ?_
    refine eU rfl rfl ?_
    refine eU rfl rfl ?_
    refine eU rfl rfl ?_
    refine eU rfl rfl ?_
    refine eV rfl (xP rfl rfl) rfl ?_
    refine eN ?_
    refine tN ?_
    refine eA rfl ?_
    refine eS ?_
    refine eR rfl ?_
    refine eV rfl (xA rfl) rfl ?_
    refine eN ?_
    refine tN ?_
    refine eT ?_
    refine tR (?_)
    exact r1_ rfl rfl ⟨congrArg AV.bool (by have e0 : sameX g1.init g2.init = true := (by simpa using h14); have e2 := sameX_len (notB_t h32); rw [sameX_G]; simp only [e0, e2, Bool.and_true, Bool.true_and, Bool.and_false, Bool.false_and]), hst.pop.pop⟩
   ·refine eV rfl (xF rfl (k := 3) (by kernel_rfl)) rfl ?_
    refine eV rfl (x1_ rfl (hst.get 1 rfl) (by kernel_rfl) rfl) rfl ?_
    refine eV rfl (x_len' ho1 rfl rfl rfl (e := 62) (by kernel_rfl) rfl) rfl ?_
    refine eV rfl (xF rfl (k := 3) (by kernel_rfl)) rfl ?_
    refine eV rfl (x1_ rfl (hst.get 0 rfl) (by kernel_rfl) rfl) rfl ?_
    refine eV rfl (x_len' ho2 rfl rfl rfl (e := 62) (by kernel_rfl) rfl) rfl ?_
    refine eV rfl (xB rfl rfl rfl) rfl ?_
    refine eV rfl (xP rfl rfl) rfl ?_
    refine eN ?_
    refine tN ?_
    refine e2_ rfl (fun h40 => ?_) (fun h40 => ?_)
    ·refine eS ?_
     refine eR rfl ?_
     refine eV rfl (xA rfl) rfl ?_
     refine eN ?_
     refine tN ?_
     refine eT ?_
     refine tR (?_)
     exact r1_ rfl rfl ⟨congrArg AV.bool (by have e0 : sameX g1.init g2.init = true := (by simpa using h14); have e3 := sameX_len (notB_t h40); rw [sameX_G]; simp only [e0, e3, Bool.and_true, Bool.true_and, Bool.and_false, Bool.false_and]), hst.pop.pop⟩
    ·refine eI ?_
     refine tN ?_
     refine eS ?_
     refine eS ?_
     refine eR rfl ?_
     refine eV rfl (xA rfl) rfl ?_
     refine eN ?_
     refine tN ?_
     refine eB ?_
     obtain ⟨LL1, hst, hLL1⟩ := hst.named
     refine eW [4, 5, 41, 42, 43, 44, 45, 46, 47, 48, 49, 50, 51, 52, 53, 54, 55, 56, 57, 58, 59] (fun j t σ => ∃ (i : Nat), j + i = g1.threads.length ∧ (∀ k, k < i → g1.threads[k]? = g2.threads[k]?) ∧ t.get 5 = some (.int .i64 (.ofNat i)) ∧ St σ K LL1) (g1.threads.length) ⟨0, rfl, fun k hk => absurd hk (Nat.not_lt_zero _), rfl, hst⟩ ?_
     clear hst; intro j4 t σ hoff hI; obtain ⟨i, hj4, hs4, hv5, hst⟩ := hI
     subst hLL1
     obtain ⟨o4, o5, o41, o42, o43, o44, o45, o46, hoff⟩ := hoff.ex8 rfl rfl
     obtain ⟨o47, o48, o49, o50, o51, o52, o53, o54, hoff⟩ := hoff.ex8 rfl rfl
     obtain ⟨o55, o56, o57, o58, hoff⟩ := hoff.ex4 rfl
     obtain ⟨o59, hoff⟩ := hoff.ex1 rfl
     obtain rfl := hoff.nil; clear hoff
     replace hv5 : o5 = some _ := hv5; subst hv5
     refine eS ?_
     refine eS ?_
     refine eR rfl ?_
     refine eV rfl (xM rfl) rfl ?_
     refine eV rfl (xF rfl (k := 1) (by kernel_rfl)) rfl ?_
     refine eV rfl (x1_ rfl (hst.get 1 rfl) (by kernel_rfl) rfl) rfl ?_
     refine eV rfl (x_len' ht1 rfl rfl rfl (e := 61) (by kernel_rfl) rfl) rfl ?_
     refine eV rfl (xB rfl rfl rfl) rfl ?_
     refine eN ?_
     refine tN ?_
     refine e2_ rfl (fun h45 => ?_) (fun h45 => ?_)
     ·refine eI ?_
      refine tN ?_
      refine eS ?_
      refine eB ?_
      refine eS ?_
      refine eP (l := [(0, []), (1, []), (2, []), (3, []), (4, []), (5, []), (6, []), (7, []), (8, []), (9, []), (10, []), (11, [])]) (by kernel_rfl) (by kernel_rfl) ?_
      refine pV rfl rfl (xF rfl (k := 1) (by kernel_rfl)) rfl ?_
      refine pV rfl rfl (x1_ rfl (hst.get 1 rfl) (by kernel_rfl) rfl) rfl ?_
      refine pV rfl rfl (xM rfl) rfl ?_
      obtain ⟨x51, hx51, hi51⟩ := at_lt h45
      refine pi (e := 61) (m := 1) ht1 hx51 rfl rfl rfl (by kernel_rfl) (by kernel_rfl) rfl rfl (fun _ => rfl) (fun p51 vs51 hp51 hl51 hr51 => ?_)
      have hr51' := hr51; obtain ⟨v51, rfl, hk51⟩ := hr51'
      refine pV rfl rfl (xp hst hp51 rfl (by kernel_rfl) rfl) rfl ?_
      refine pV rfl rfl (xF rfl (k := 1) (by kernel_rfl)) rfl ?_
      refine pV rfl rfl (x1_ rfl (hst.get 0 rfl) (by kernel_rfl) rfl) rfl ?_
      refine pV rfl rfl (xM rfl) rfl ?_
      obtain ⟨x56, hx56⟩ := at_of (show _ < g2.threads.length from by rw [← len_of (notB_f h23)]; exact hi51)
      refine pi (e := 61) (m := 1) ht2 hx56 rfl rfl rfl (by kernel_rfl) (by kernel_rfl) rfl rfl (fun _ => rfl) (fun p56 vs56 hp56 hl56 hr56 => ?_)
      have hr56' := hr56; obtain ⟨v56, rfl, hk56⟩ := hr56'
      refine pV rfl rfl (xp hst hp56 rfl (by kernel_rfl) rfl) rfl ?_
      refine pv_ rfl rfl (xC rfl rfl rfl (by kernel_rfl)) (fun _ => rfl) (w_Events hG hst hk51 hk56) (fun σ hst => ?_)
      refine ⟨s0, ?_⟩
      refine pV rfl rfl (xn rfl) rfl ?_
      refine pN ?_
      refine tN ?_
      refine e2_ rfl (fun h59 => ?_) (fun h59 => ?_)
      ·refine eS ?_
       refine eR rfl ?_
       refine eV rfl (xA rfl) rfl ?_
       refine eN ?_
       refine tN ?_
       refine eT ?_
       refine bR (tR (lR (bR (tR (?_)))))
       exact r1_ rfl rfl ⟨congrArg AV.bool (by have e0 : sameX g1.init g2.init = true := (by simpa using h14); have e1 := sameX_at hx51 hx56 (by simpa using h59); rw [sameX_G]; simp only [e0, e1, Bool.and_true, Bool.true_and, Bool.and_false, Bool.false_and]), hst.pop.pop⟩
      ·refine eI ?_
       refine bN ?_
       refine tN ?_
       refine eR rfl ?_
       refine eV rfl (xM rfl) rfl ?_
       refine eV rfl (xB rfl rfl rfl) rfl ?_
       refine eV rfl (xA rfl) rfl ?_
       refine eN ?_
       refine lN ⟨j4 - 1, by omega, (by (iterate 41 refine OffW.put rfl ?_); exact OffW.refl _ _), i + 1, by omega, same_step hs4 hx51 hx56 (by simpa using h59), congrArg (fun z => some (AV.int .i64 z)) (wr_succ (by have := ht1.len_le; omega)), hst⟩
     ·refine eX ?_
      refine tX ?_
      refine lX ?_
      refine bX ?_
      refine tN ?_
      refine eS ?_
      refine eS ?_
      refine eR rfl ?_
      refine eV rfl (xA rfl) rfl ?_
      refine eN ?_
      refine tN ?_
      refine eB ?_
      obtain ⟨LL2, hst, hLL2⟩ := hst.named
      refine eW [4, 6, 60, 61, 62, 63, 64, 65, 66, 67, 68, 69, 70, 71, 72, 73, 74, 75, 76, 77, 78] (fun j t σ => ∃ (i2 : Nat), j + i2 = g1.from_.length ∧ (∀ k, k < i2 → g1.from_[k]? = g2.from_[k]?) ∧ t.get 6 = some (.int .i64 (.ofNat i2)) ∧ St σ K LL2) (g1.from_.length) ⟨0, rfl, fun k hk => absurd hk (Nat.not_lt_zero _), rfl, hst⟩ ?_
      clear hst; intro j9 t σ hoff hI; obtain ⟨i2, hj9, hs9, hv6, hst⟩ := hI
      subst hLL2
      obtain ⟨o4, o6, o60, o61, o62, o63, o64, o65, hoff⟩ := hoff.ex8 rfl rfl
      obtain ⟨o66, o67, o68, o69, o70, o71, o72, o73, hoff⟩ := hoff.ex8 rfl rfl
      obtain ⟨o74, o75, o76, o77, hoff⟩ := hoff.ex4 rfl
      obtain ⟨o78, hoff⟩ := hoff.ex1 rfl
      obtain rfl := hoff.nil; clear hoff
      replace hv6 : o6 = some _ := hv6; subst hv6
      refine eS ?_
      refine eS ?_
      refine eR rfl ?_
      refine eV rfl (xM rfl) rfl ?_
      refine eV rfl (xF rfl (k := 2) (by kernel_rfl)) rfl ?_
      refine eV rfl (x1_ rfl (hst.get 1 rfl) (by kernel_rfl) rfl) rfl ?_
      refine eV rfl (x_len' hf1 rfl rfl rfl (e := 62) (by kernel_rfl) rfl) rfl ?_
      refine eV rfl (xB rfl rfl rfl) rfl ?_
      refine eN ?_
      refine tN ?_
      refine e2_ rfl (fun h64 => ?_) (fun h64 => ?_)
      ·refine eI ?_
       refine tN ?_
       refine eS ?_
       refine eB ?_
       refine eS ?_
       refine eP (l := [(0, []), (1, []), (2, []), (3, []), (4, []), (5, []), (6, []), (7, []), (8, []), (9, []), (10, []), (11, [])]) (by kernel_rfl) (by kernel_rfl) ?_
       refine pV rfl rfl (xF rfl (k := 2) (by kernel_rfl)) rfl ?_
       refine pV rfl rfl (x1_ rfl (hst.get 1 rfl) (by kernel_rfl) rfl) rfl ?_
       refine pV rfl rfl (xM rfl) rfl ?_
       obtain ⟨x70, hx70, hi70⟩ := at_lt h64
       refine pi (e := 62) (m := 1) hf1 hx70 rfl rfl rfl (by kernel_rfl) (by kernel_rfl) rfl rfl (fun _ => rfl) (fun p70 vs70 hp70 hl70 hr70 => ?_)
       have hr70' := hr70; obtain ⟨v70, rfl, hk70⟩ := hr70'
       refine pV rfl rfl (xp hst hp70 rfl (by kernel_rfl) rfl) rfl ?_
       refine pV rfl rfl (xF rfl (k := 2) (by kernel_rfl)) rfl ?_
       refine pV rfl rfl (x1_ rfl (hst.get 0 rfl) (by kernel_rfl) rfl) rfl ?_
       refine pV rfl rfl (xM rfl) rfl ?_
       obtain ⟨x75, hx75⟩ := at_of (show _ < g2.from_.length from by rw [← len_of (notB_f h32)]; exact hi70)
       refine pi (e := 62) (m := 1) hf2 hx75 rfl rfl rfl (by kernel_rfl) (by kernel_rfl) rfl rfl (fun _ => rfl) (fun p75 vs75 hp75 hl75 hr75 => ?_)
       have hr75' := hr75; obtain ⟨v75, rfl, hk75⟩ := hr75'
       refine pV rfl rfl (xp hst hp75 rfl (by kernel_rfl) rfl) rfl ?_
       refine pv_ rfl rfl (xC rfl rfl rfl (by kernel_rfl)) (fun _ => rfl) (w_Ids hG hst hk70 hk75) (fun σ hst => ?_)
       refine ⟨s0, ?_⟩
       refine pV rfl rfl (xn rfl) rfl ?_
       refine pN ?_
       refine tN ?_
       refine e2_ rfl (fun h78 => ?_) (fun h78 => ?_)
       ·refine eS ?_
        refine eR rfl ?_
        refine eV rfl (xA rfl) rfl ?_
        refine eN ?_
        refine tN ?_
        refine eT ?_
        refine bR (tR (lR (bR (tR (?_)))))
        exact r1_ rfl rfl ⟨congrArg AV.bool (by have e0 : sameX g1.init g2.init = true := (by simpa using h14); have e1 := sameX_all (len_of (notB_f h23)) (lt_no h45) hs4; have e2 := sameX_at hx70 hx75 (by simpa using h78); rw [sameX_G]; simp only [e0, e1, e2, Bool.and_true, Bool.true_and, Bool.and_false, Bool.false_and]), hst.pop.pop⟩
       ·refine eI ?_
        refine bN ?_
        refine tN ?_
        refine eR rfl ?_
        refine eV rfl (xM rfl) rfl ?_
        refine eV rfl (xB rfl rfl rfl) rfl ?_
        refine eV rfl (xA rfl) rfl ?_
        refine eN ?_
        refine lN ⟨j9 - 1, by omega, (by (iterate 41 refine OffW.put rfl ?_); exact OffW.refl _ _), i2 + 1, by omega, same_step hs9 hx70 hx75 (by simpa using h78), congrArg (fun z => some (AV.int .i64 z)) (wr_succ (by have := hf1.len_le; omega)), hst⟩
      ·refine eX ?_
       refine tX ?_
       refine lX ?_
       refine bX ?_
       refine tN ?_
       refine eS ?_
       refine eS ?_
       refine eR rfl ?_
       refine eV rfl (xA rfl) rfl ?_
       refine eN ?_
       refine tN ?_
       refine eB ?_
       obtain ⟨LL3, hst, hLL3⟩ := hst.named
       refine eW [4, 7, 79, 80, 81, 82, 83, 84, 85, 86, 87, 88, 89, 90, 91, 92, 93, 94, 95, 96, 97] (fun j t σ => ∃ (i3 : Nat), j + i3 = g1.order.length ∧ (∀ k, k < i3 → g1.order[k]? = g2.order[k]?) ∧ t.get 7 = some (.int .i64 (.ofNat i3)) ∧ St σ K LL3) (g1.order.length) ⟨0, rfl, fun k hk => absurd hk (Nat.not_lt_zero _), rfl, hst⟩ ?_
       clear hst; intro j14 t σ hoff hI; obtain ⟨i3, hj14, hs14, hv7, hst⟩ := hI
       subst hLL3
       obtain ⟨o4, o7, o79, o80, o81, o82, o83, o84, hoff⟩ := hoff.ex8 rfl rfl
       obtain ⟨o85, o86, o87, o88, o89, o90, o91, o92, hoff⟩ := hoff.ex8 rfl rfl
       obtain ⟨o93, o94, o95, o96, hoff⟩ := hoff.ex4 rfl
       obtain ⟨o97, hoff⟩ := hoff.ex1 rfl
       obtain rfl := hoff.nil; clear hoff
       replace hv7 : o7 = some _ := hv7; subst hv7
       refine eS ?_
       refine eS ?_
       refine eR rfl ?_
       refine eV rfl (xM rfl) rfl ?_
       refine eV rfl (xF rfl (k := 3) (by kernel_rfl)) rfl ?_
       refine eV rfl (x1_ rfl (hst.get 1 rfl) (by kernel_rfl) rfl) rfl ?_
       refine eV rfl (x_len' ho1 rfl rfl rfl (e := 62) (by kernel_rfl) rfl) rfl ?_
       refine eV rfl (xB rfl rfl rfl) rfl ?_
       refine eN ?_
       refine tN ?_
       refine e2_ rfl (fun h83 => ?_) (fun h83 => ?_)
       ·refine eI ?_
        refine tN ?_
        refine eS ?_
        refine eB ?_
        refine eS ?_
        refine eP (l := [(0, []), (1, []), (2, []), (3, []), (4, []), (5, []), (6, []), (7, []), (8, []), (9, []), (10, []), (11, [])]) (by kernel_rfl) (by kernel_rfl) ?_
        refine pV rfl rfl (xF rfl (k := 3) (by kernel_rfl)) rfl ?_
        refine pV rfl rfl (x1_ rfl (hst.get 1 rfl) (by kernel_rfl) rfl) rfl ?_
        refine pV rfl rfl (xM rfl) rfl ?_
        obtain ⟨x89, hx89, hi89⟩ := at_lt h83
        refine pi (e := 62) (m := 1) ho1 hx89 rfl rfl rfl (by kernel_rfl) (by kernel_rfl) rfl rfl (fun _ => rfl) (fun p89 vs89 hp89 hl89 hr89 => ?_)
        have hr89' := hr89; obtain ⟨v89, rfl, hk89⟩ := hr89'
        refine pV rfl rfl (xp hst hp89 rfl (by kernel_rfl) rfl) rfl ?_
        refine pV rfl rfl (xF rfl (k := 3) (by kernel_rfl)) rfl ?_
        refine pV rfl rfl (x1_ rfl (hst.get 0 rfl) (by kernel_rfl) rfl) rfl ?_
        refine pV rfl rfl (xM rfl) rfl ?_
        obtain ⟨x94, hx94⟩ := at_of (show _ < g2.order.length from by rw [← len_of (notB_f h40)]; exact hi89)
        refine pi (e := 62) (m := 1) ho2 hx94 rfl rfl rfl (by kernel_rfl) (by kernel_rfl) rfl rfl (fun _ => rfl) (fun p94 vs94 hp94 hl94 hr94 => ?_)
        have hr94' := hr94; obtain ⟨v94, rfl, hk94⟩ := hr94'
        refine pV rfl rfl (xp hst hp94 rfl (by kernel_rfl) rfl) rfl ?_
        refine pv_ rfl rfl (xC rfl rfl rfl (by kernel_rfl)) (fun _ => rfl) (w_Ids hG hst hk89 hk94) (fun σ hst => ?_)
        refine ⟨s0, ?_⟩
        refine pV rfl rfl (xn rfl) rfl ?_
        refine pN ?_
        refine tN ?_
        refine e2_ rfl (fun h97 => ?_) (fun h97 => ?_)
        ·refine eS ?_
         refine eR rfl ?_
         refine eV rfl (xA rfl) rfl ?_
         refine eN ?_
         refine tN ?_
         refine eT ?_
         refine bR (tR (lR (bR (tR (?_)))))
         exact r1_ rfl rfl ⟨congrArg AV.bool (by have e0 : sameX g1.init g2.init = true := (by simpa using h14); have e1 := sameX_all (len_of (notB_f h23)) (lt_no h45) hs4; have e2 := sameX_all (len_of (notB_f h32)) (lt_no h64) hs9; have e3 := sameX_at hx89 hx94 (by simpa using h97); rw [sameX_G]; simp only [e0, e1, e2, e3, Bool.and_true, Bool.true_and, Bool.and_false, Bool.false_and]), hst.pop.pop⟩
        ·refine eI ?_
         refine bN ?_
         refine tN ?_
         refine eR rfl ?_
         refine eV rfl (xM rfl) rfl ?_
         refine eV rfl (xB rfl rfl rfl) rfl ?_
         refine eV rfl (xA rfl) rfl ?_
         refine eN ?_
         refine lN ⟨j14 - 1, by omega, (by (iterate 41 refine OffW.put rfl ?_); exact OffW.refl _ _), i3 + 1, by omega, same_step hs14 hx89 hx94 (by simpa using h97), congrArg (fun z => some (AV.int .i64 z)) (wr_succ (by have := ho1.len_le; omega)), hst⟩
       ·refine eX ?_
        refine tX ?_
        refine lX ?_
        refine bX ?_
        refine tN ?_
        refine eS ?_
        refine eR rfl ?_
        refine eV rfl (xA rfl) rfl ?_
        refine eN ?_
        refine tN ?_
        refine eT ?_
        exact r1_ rfl rfl ⟨congrArg AV.bool (by have e0 : sameX g1.init g2.init = true := (by simpa using h14); have e1 := sameX_all (len_of (notB_f h23)) (lt_no h45) hs4; have e2 := sameX_all (len_of (notB_f h32)) (lt_no h64) hs9; have e3 := sameX_all (len_of (notB_f h40)) (lt_no h83) hs14; rw [sameX_G]; simp only [e0, e1, e2, e3, Bool.and_true, Bool.true_and, Bool.and_false, Bool.false_and]), hst.pop.pop⟩
end Go.Ev

namespace Go.Ev
variable [Env]
open Go.Proofs
set_option maxRecDepth 4000
set_option maxHeartbeats 8000000

theorem w_reads {G : Cx} (hG : Plain G) {K : KP} (e : XEv) {σ : AHeap} {L : Own} (hst : St σ K L) : EvCall Try.prog G 97 [.agg (ints e.ints)] σ fun v σ' => v = .bool (readsB e) ∧ St σ' K L := by
 refine eY hG Try.func97 rfl (t := PT.leaf.put (some (.agg (ints e.ints))) 0) (by rfl) ?_
 refine eS ?_
 refine eR rfl ?_
 refine oP hst rfl (xo_ rfl rfl) (fun _ => rfl) (fun σ b1 hst => ?_)
 refine eV rfl (xA rfl) rfl ?_
 refine eN ?_
 refine tN ?_
 refine eS ?_
 refine eR rfl ?_
 refine eV rfl (xF rfl (k := 0) (by kernel_rfl)) rfl ?_
 refine eV rfl (x1_ rfl (hst.get 0 rfl) (by kernel_rfl) rfl) rfl ?_
 refine eV rfl (xB rfl rfl rfl) rfl ?_
 refine oS rfl (xM rfl) (fun _ => rfl) (fun h6 => ?_) (fun h6 => ?_)
 ·refine eU rfl rfl ?_
  refine eU rfl rfl ?_
  refine eU rfl rfl ?_
  refine eV rfl (xP rfl rfl) rfl ?_
  refine eV rfl (xA rfl) rfl ?_
  refine eN ?_
  refine tN ?_
  refine eT ?_
  exact r1_ rfl rfl ⟨congrArg AV.bool (by unfold readsB; simp only [h6, cond_true, cond_false]), hst.pop⟩
 ·refine eV rfl (xF rfl (k := 0) (by kernel_rfl)) rfl ?_
  refine eV rfl (x1_ rfl (hst.get 0 rfl) (by kernel_rfl) rfl) rfl ?_
  refine eV rfl (xB rfl rfl rfl) rfl ?_
  refine eV rfl (xP rfl rfl) rfl ?_
  refine eV rfl (xA rfl) rfl ?_
  refine eN ?_
  refine tN ?_
  refine eT ?_
  exact r1_ rfl rfl ⟨congrArg AV.bool (by unfold readsB; simp only [h6, cond_true, cond_false]), hst.pop⟩
theorem w_writes {G : Cx} (hG : Plain G) {K : KP} (e : XEv) {σ : AHeap} {L : Own} (hst : St σ K L) : EvCall Try.prog G 47 [.agg (ints e.ints)] σ fun v σ' => v = .bool (writesB e) ∧ St σ' K L := by
 refine eY hG Try.func47 rfl (t := PT.leaf.put (some (.agg (ints e.ints))) 0) (by rfl) ?_
 refine eS ?_
 refine eR rfl ?_
 refine oP hst rfl (xo_ rfl rfl) (fun _ => rfl) (fun σ b1 hst => ?_)
 refine eV rfl (xA rfl) rfl ?_
 refine eN ?_
 refine tN ?_
 refine eS ?_
 refine eR rfl ?_
 refine eV rfl (xF rfl (k := 0) (by kernel_rfl)) rfl ?_
 refine eV rfl (x1_ rfl (hst.get 0 rfl) (by kernel_rfl) rfl) rfl ?_
 refine eV rfl (xB rfl rfl rfl) rfl ?_
 refine oS rfl (xM rfl) (fun _ => rfl) (fun h6 => ?_) (fun h6 => ?_)
 ·refine eU rfl rfl ?_
  refine eU rfl rfl ?_
  refine eU rfl rfl ?_
  refine eV rfl (xP rfl rfl) rfl ?_
  refine eV rfl (xA rfl) rfl ?_
  refine eN ?_
  refine tN ?_
  refine eT ?_
  exact r1_ rfl rfl ⟨congrArg AV.bool (by unfold writesB; simp only [h6, cond_true, cond_false]), hst.pop⟩
 ·refine eV rfl (xF rfl (k := 0) (by kernel_rfl)) rfl ?_
  refine eV rfl (x1_ rfl (hst.get 0 rfl) (by kernel_rfl) rfl) rfl ?_
  refine eV rfl (xB rfl rfl rfl) rfl ?_
  refine eV rfl (xP rfl rfl) rfl ?_
  refine eV rfl (xA rfl) rfl ?_
  refine eN ?_
  refine tN ?_
  refine eT ?_
  exact r1_ rfl rfl ⟨congrArg AV.bool (by unfold writesB; simp only [h6, cond_true, cond_false]), hst.pop⟩
theorem w_event {G : Cx} (hG : Plain G) {K : KP} {g : XG} {a b c d : AV} (h : HasG K g a b c d) (th ix : Int) {σ : AHeap} {L : Own} (hst : St σ K L) : EvCall Try.prog G 65 [.agg [a, b, c, d], .agg [.int .i64 th, .int .i64 ix]] σ fun v σ' => v = .tuple [.agg (ints (evD (evAt g ⟨th, ix⟩)).ints), .bool (evAt g ⟨th, ix⟩).isSome] ∧ St σ' K L := by
 have h' := h; obtain ⟨hi, ht, hf, ho⟩ := h'
 refine eY hG Try.func65 rfl (t := (PT.leaf.put (some (.agg [a, b, c, d])) 0).put (some (.agg [.int .i64 th, .int .i64 ix])) 1) (by rfl) ?_
 refine eS ?_
 refine eR rfl ?_
 refine oP hst rfl (xo_ rfl rfl) (fun _ => rfl) (fun σ b1 hst => ?_)
 refine oP hst rfl (xo_ rfl rfl) (fun _ => rfl) (fun σ b2 hst => ?_)
 refine oP hst rfl (xe (cs := [.int .i64 0, .int .i64 0, .int .i64 0, .int .i64 0, .int .i64 0]) (by kernel_rfl) (by kernel_rfl)) (fun _ => rfl) (fun σ b3 hst => ?_)
 refine eV rfl (xA rfl) rfl ?_
 refine eN ?_
 refine tN ?_
 refine eS ?_
 refine eS ?_
 refine eR rfl ?_
 refine eV rfl (xF rfl (k := 0) (by kernel_rfl)) rfl ?_
 refine eV rfl (x1_ rfl (hst.get 1 rfl) (by kernel_rfl) rfl) rfl ?_
 refine eV rfl (xB rfl rfl rfl) rfl ?_
 refine oS rfl (xM rfl) (fun _ => rfl) (fun h9 => ?_) (fun h9 => ?_)
 ·refine eU rfl rfl ?_
  refine eU rfl rfl ?_
  refine eU rfl rfl ?_
  refine eU rfl rfl ?_
  refine eU rfl rfl ?_
  refine eU rfl rfl ?_
  refine eV rfl (xP rfl rfl) rfl ?_
  refine eV rfl (xM rfl) rfl ?_
  refine eU rfl rfl ?_
  refine eU rfl rfl ?_
  refine eU rfl rfl ?_
  refine eV rfl (xP rfl rfl) rfl ?_
  refine eN ?_
  refine tN ?_
  refine eA rfl ?_
  refine eS ?_
  refine eR rfl ?_
  refine eV rfl (xb_ (places := [(0, 1), (1, 1), (2, 1), (3, 1), (4, 1)]) (zero := [.int .i64 0, .int .i64 0, .int .i64 0, .int .i64 0, .int .i64 0]) (cs := [_, _, _, _, _]) (by kernel_rfl) (by kernel_rfl) (by kernel_rfl) rfl (by kernel_rfl)) rfl ?_
  refine o_set0 hst rfl (xS rfl rfl rfl (hst.get 0 rfl) (m := 5) (by kernel_rfl) rfl (Nat.le_of_ble_eq_true rfl) (lC rfl (lC rfl (lC rfl (lC rfl (lC rfl l0_))))) (cells' := [_, _, _, _, _]) rfl) rfl (fun σ hst => ?_)
  refine eV rfl (xA rfl) rfl ?_
  refine eN ?_
  refine tN ?_
  refine eT ?_
  refine tR (?_)
  exact rc_ rfl rfl (hst.get 0 rfl) (m := 5) (by kernel_rfl) rfl rfl ⟨by rw [evAt_neg1 h9]; rfl, hst.pop.pop.pop⟩
 ·refine eV rfl (xF rfl (k := 0) (by kernel_rfl)) rfl ?_
  refine eV rfl (x1_ rfl (hst.get 1 rfl) (by kernel_rfl) rfl) rfl ?_
  refine eV rfl (xF rfl (k := 1) (by kernel_rfl)) rfl ?_
  refine eV rfl (x1_ rfl (hst.get 2 rfl) (by kernel_rfl) rfl) rfl ?_
  refine eV rfl (x_len' ht rfl rfl rfl (e := 61) (by kernel_rfl) rfl) rfl ?_
  refine eV rfl (xB rfl rfl rfl) rfl ?_
  refine eV rfl (xP rfl rfl) rfl ?_
  refine oS rfl (xM rfl) (fun _ => rfl) (fun h17 => ?_) (fun h17 => ?_)
  ·refine eU rfl rfl ?_
   refine eU rfl rfl ?_
   refine eU rfl rfl ?_
   refine eV rfl (xP rfl rfl) rfl ?_
   refine eN ?_
   refine tN ?_
   refine eA rfl ?_
   refine eS ?_
   refine eR rfl ?_
   refine eV rfl (xb_ (places := [(0, 1), (1, 1), (2, 1), (3, 1), (4, 1)]) (zero := [.int .i64 0, .int .i64 0, .int .i64 0, .int .i64 0, .int .i64 0]) (cs := [_, _, _, _, _]) (by kernel_rfl) (by kernel_rfl) (by kernel_rfl) rfl (by kernel_rfl)) rfl ?_
   refine o_set0 hst rfl (xS rfl rfl rfl (hst.get 0 rfl) (m := 5) (by kernel_rfl) rfl (Nat.le_of_ble_eq_true rfl) (lC rfl (lC rfl (lC rfl (lC rfl (lC rfl l0_))))) (cells' := [_, _, _, _, _]) rfl) rfl (fun σ hst => ?_)
   refine eV rfl (xA rfl) rfl ?_
   refine eN ?_
   refine tN ?_
   refine eT ?_
   refine tR (?_)
   exact rc_ rfl rfl (hst.get 0 rfl) (m := 5) (by kernel_rfl) rfl rfl ⟨by rw [evAt_big h17]; rfl, hst.pop.pop.pop⟩
  ·refine eV rfl (xF rfl (k := 1) (by kernel_rfl)) rfl ?_
   refine eV rfl (x1_ rfl (hst.get 1 rfl) (by kernel_rfl) rfl) rfl ?_
   refine eV rfl (xB rfl rfl rfl) rfl ?_
   refine eV rfl (xP rfl rfl) rfl ?_
   refine eN ?_
   refine tN ?_
   refine e2_ rfl (fun h21 => ?_) (fun h21 => ?_)
   ·refine eS ?_
    refine eR rfl ?_
    refine eV rfl (xb_ (places := [(0, 1), (1, 1), (2, 1), (3, 1), (4, 1)]) (zero := [.int .i64 0, .int .i64 0, .int .i64 0, .int .i64 0, .int .i64 0]) (cs := [_, _, _, _, _]) (by kernel_rfl) (by kernel_rfl) (by kernel_rfl) rfl (by kernel_rfl)) rfl ?_
    refine o_set0 hst rfl (xS rfl rfl rfl (hst.get 0 rfl) (m := 5) (by kernel_rfl) rfl (Nat.le_of_ble_eq_true rfl) (lC rfl (lC rfl (lC rfl (lC rfl (lC rfl l0_))))) (cells' := [_, _, _, _, _]) rfl) rfl (fun σ hst => ?_)
    refine eV rfl (xA rfl) rfl ?_
    refine eN ?_
    refine tN ?_
    refine eT ?_
    refine tR (?_)
    exact rc_ rfl rfl (hst.get 0 rfl) (m := 5) (by kernel_rfl) rfl rfl ⟨by rw [evAt_neg2 h21]; rfl, hst.pop.pop.pop⟩
   ·obtain ⟨tn, rfl⟩ := nat_of h9; obtain ⟨ixn, rfl⟩ := nat_of h21
    refine eI ?_
    refine tN ?_
    refine eS ?_
    refine eS ?_
    refine eR rfl ?_
    refine eV rfl (xF rfl (k := 0) (by kernel_rfl)) rfl ?_
    refine eV rfl (x1_ rfl (hst.get 1 rfl) (by kernel_rfl) rfl) rfl ?_
    refine eV rfl (xB rfl rfl rfl) rfl ?_
    refine eN ?_
    refine tN ?_
    refine e2_ rfl (fun h25 => ?_) (fun h25 => ?_)
    ·obtain rfl : tn = 0 := by rw [eqI_eq] at h25; simpa using h25
     refine eS ?_
     refine eS ?_
     refine eR rfl ?_
     refine eV rfl (xF rfl (k := 1) (by kernel_rfl)) rfl ?_
     refine eV rfl (x1_ rfl (hst.get 1 rfl) (by kernel_rfl) rfl) rfl ?_
     refine eV rfl (xF rfl (k := 0) (by kernel_rfl)) rfl ?_
     refine eV rfl (x1_ rfl (hst.get 2 rfl) (by kernel_rfl) rfl) rfl ?_
     refine eV rfl (x_len' hi rfl rfl rfl (e := 2) (by kernel_rfl) rfl) rfl ?_
     refine eV rfl (xB rfl rfl rfl) rfl ?_
     refine eN ?_
     refine tN ?_
     refine e2_ rfl (fun h31 => ?_) (fun h31 => ?_)
     ·refine eS ?_
      refine eR rfl ?_
      refine eV rfl (xb_ (places := [(0, 1), (1, 1), (2, 1), (3, 1), (4, 1)]) (zero := [.int .i64 0, .int .i64 0, .int .i64 0, .int .i64 0, .int .i64 0]) (cs := [_, _, _, _, _]) (by kernel_rfl) (by kernel_rfl) (by kernel_rfl) rfl (by kernel_rfl)) rfl ?_
      refine o_set0 hst rfl (xS rfl rfl rfl (hst.get 0 rfl) (m := 5) (by kernel_rfl) rfl (Nat.le_of_ble_eq_true rfl) (lC rfl (lC rfl (lC rfl (lC rfl (lC rfl l0_))))) (cells' := [_, _, _, _, _]) rfl) rfl (fun σ hst => ?_)
      refine eV rfl (xA rfl) rfl ?_
      refine eN ?_
      refine tN ?_
      refine eT ?_
      refine tR (tR (?_))
      exact rc_ rfl rfl (hst.get 0 rfl) (m := 5) (by kernel_rfl) rfl rfl ⟨by rw [show evAt g _ = none from by show (g.init[ixn]?).map _ = _; rw [List.getElem?_eq_none (ge_of_ge h31)]; rfl]; rfl, hst.pop.pop.pop⟩
     ·refine eI ?_
      refine tN ?_
      refine eS ?_
      refine eP (l := [(0, []), (1, []), (2, []), (3, []), (4, []), (5, []), (6, []), (7, []), (8, []), (9, []), (10, [])]) (by kernel_rfl) (by kernel_rfl) ?_
      refine pV rfl rfl (xF rfl (k := 1) (by kernel_rfl)) rfl ?_
      refine pV rfl rfl (x1_ rfl (hst.get 1 rfl) (by kernel_rfl) rfl) rfl ?_
      refine pV rfl rfl (xF rfl (k := 0) (by kernel_rfl)) rfl ?_
      refine pV rfl rfl (x1_ rfl (hst.get 2 rfl) (by kernel_rfl) rfl) rfl ?_
      refine pV rfl rfl (xF rfl (k := 1) (by kernel_rfl)) rfl ?_
      refine pV rfl rfl (x1_ rfl (hst.get 1 rfl) (by kernel_rfl) rfl) rfl ?_
      obtain ⟨x39, hx39⟩ := at_of (lt_of_ge h31)
      refine pi (e := 2) (m := 1) hi hx39 rfl rfl rfl (by kernel_rfl) (by kernel_rfl) rfl rfl (fun _ => rfl) (fun p39 vs39 hp39 hl39 hr39 => ?_)
      obtain rfl := hr39
      refine pV rfl rfl (xp hst hp39 rfl (by kernel_rfl) rfl) rfl ?_
      refine pV rfl rfl (xb_ (places := [(0, 1), (1, 1), (2, 1), (3, 1), (4, 1)]) (zero := [.int .i64 0, .int .i64 0, .int .i64 0, .int .i64 0, .int .i64 0]) (cs := [_, _, _, _, _]) (by kernel_rfl) (by kernel_rfl) (by kernel_rfl) rfl (by kernel_rfl)) rfl ?_
      refine p_set0 hst rfl rfl (xS rfl rfl rfl (hst.get 0 rfl) (m := 5) (by kernel_rfl) rfl (Nat.le_of_ble_eq_true rfl) (lC rfl (lC rfl (lC rfl (lC rfl (lC rfl l0_))))) (cells' := [_, _, _, _, _]) rfl) rfl (fun σ hst => ?_)
      refine ⟨s0, ?_⟩
      refine pV rfl rfl (xA rfl) rfl ?_
      refine pN ?_
      refine tN ?_
      refine eT ?_
      refine tR (?_)
      exact rc_ rfl rfl (hst.get 0 rfl) (m := 5) (by kernel_rfl) rfl rfl ⟨by rw [show evAt g _ = some _ from by show (g.init[ixn]?).map _ = _; rw [hx39]; rfl]; rfl, hst.pop.pop.pop⟩
    ·obtain ⟨tm, rfl⟩ := succ_of h25
     refine eI ?_
     refine tN ?_
     refine eS ?_
     refine eS ?_
     refine eP (l := [(0, []), (1, []), (2, []), (3, []), (4, []), (5, []), (6, []), (7, []), (8, []), (9, []), (10, [])]) (by kernel_rfl) (by kernel_rfl) ?_
     refine pV rfl rfl (xF rfl (k := 1) (by kernel_rfl)) rfl ?_
     refine pV rfl rfl (x1_ rfl (hst.get 1 rfl) (by kernel_rfl) rfl) rfl ?_
     refine pV rfl rfl (xF rfl (k := 1) (by kernel_rfl)) rfl ?_
     refine pV rfl rfl (x1_ rfl (hst.get 2 rfl) (by kernel_rfl) rfl) rfl ?_
     refine pV rfl rfl (xF rfl (k := 0) (by kernel_rfl)) rfl ?_
     refine pV rfl rfl (x1_ rfl (hst.get 1 rfl) (by kernel_rfl) rfl) rfl ?_
     refine pV rfl rfl (xB rfl rfl rfl) rfl ?_
     obtain ⟨x49, hx49⟩ := at_of (show tm < g.threads.length from by have := le_of_no h17; omega)
     refine pi (e := 61) (m := 1) ht hx49 rfl rfl rfl (by kernel_rfl) (by kernel_rfl) rfl (congrArg (fun z => some (AV.int .i64 z)) (wr_pred (by have := le_of_no h17; have := ht.len_le; omega))) (fun _ => rfl) (fun p49 vs49 hp49 hl49 hr49 => ?_)
     have hr49' := hr49; obtain ⟨v49, rfl, hk49⟩ := hr49'
     refine pV rfl rfl (xp hst hp49 rfl (by kernel_rfl) rfl) rfl ?_
     refine pV rfl rfl (x_len' hk49 rfl rfl rfl (e := 45) (by kernel_rfl) rfl) rfl ?_
     refine pV rfl rfl (xB rfl rfl rfl) rfl ?_
     refine pN ?_
     refine tN ?_
     refine e2_ rfl (fun h52 => ?_) (fun h52 => ?_)
     ·refine eS ?_
      refine eR rfl ?_
      refine eV rfl (xb_ (places := [(0, 1), (1, 1), (2, 1), (3, 1), (4, 1)]) (zero := [.int .i64 0, .int .i64 0, .int .i64 0, .int .i64 0, .int .i64 0]) (cs := [_, _, _, _, _]) (by kernel_rfl) (by kernel_rfl) (by kernel_rfl) rfl (by kernel_rfl)) rfl ?_
      refine o_set0 hst rfl (xS rfl rfl rfl (hst.get 0 rfl) (m := 5) (by kernel_rfl) rfl (Nat.le_of_ble_eq_true rfl) (lC rfl (lC rfl (lC rfl (lC rfl (lC rfl l0_))))) (cells' := [_, _, _, _, _]) rfl) rfl (fun σ hst => ?_)
      refine eV rfl (xA rfl) rfl ?_
      refine eN ?_
      refine tN ?_
      refine eT ?_
      refine tR (?_)
      exact rc_ rfl rfl (hst.get 0 rfl) (m := 5) (by kernel_rfl) rfl rfl ⟨by rw [show evAt g _ = none from by show (g.threads[tm]?).bind _ = _; rw [hx49]; exact List.getElem?_eq_none (ge_of_ge h52)]; rfl, hst.pop.pop.pop⟩
     ·refine eI ?_
      refine tN ?_
      refine eS ?_
      refine eP (l := [(0, []), (1, []), (2, []), (3, []), (4, []), (5, []), (6, []), (7, []), (8, []), (9, []), (10, []), (11, []), (12, [])]) (by kernel_rfl) (by kernel_rfl) ?_
      refine pV rfl rfl (xF rfl (k := 1) (by kernel_rfl)) rfl ?_
      refine pV rfl rfl (x1_ rfl (hst.get 2 rfl) (by kernel_rfl) rfl) rfl ?_
      refine pV rfl rfl (xF rfl (k := 0) (by kernel_rfl)) rfl ?_
      refine pV rfl rfl (x1_ rfl (hst.get 1 rfl) (by kernel_rfl) rfl) rfl ?_
      refine pV rfl rfl (xB rfl rfl rfl) rfl ?_
      refine pi (e := 61) (m := 1) ht hx49 rfl rfl rfl (by kernel_rfl) (by kernel_rfl) rfl (congrArg (fun z => some (AV.int .i64 z)) (wr_pred (by have := le_of_no h17; have := ht.len_le; omega))) (fun _ => rfl) (fun p59 vs59 hp59 hl59 hr59 => ?_)
      have hr59' := hr59; obtain ⟨v59, rfl, hk59⟩ := hr59'
      refine pV rfl rfl (xp hst hp59 rfl (by kernel_rfl) rfl) rfl ?_
      refine pV rfl rfl (xF rfl (k := 1) (by kernel_rfl)) rfl ?_
      refine pV rfl rfl (x1_ rfl (hst.get 1 rfl) (by kernel_rfl) rfl) rfl ?_
      obtain ⟨x63, hx63⟩ := at_of (lt_of_ge h52)
      refine pi (e := 45) (m := 5) hk59 hx63 rfl rfl rfl (by kernel_rfl) (by kernel_rfl) rfl rfl (fun _ => rfl) (fun p63 vs63 hp63 hl63 hr63 => ?_)
      obtain rfl := hr63
      refine pV rfl rfl (xw hst hp63 rfl (by kernel_rfl) rfl) rfl ?_
      refine p_set0 hst rfl rfl (xS rfl rfl rfl (hst.get 0 rfl) (m := 5) (by kernel_rfl) rfl (Nat.le_of_ble_eq_true rfl) (lC rfl (lC rfl (lC rfl (lC rfl (lC rfl l0_))))) (cells' := [_, _, _, _, _]) rfl) rfl (fun σ hst => ?_)
      refine ⟨s0, ?_⟩
      refine pV rfl rfl (xA rfl) rfl ?_
      refine pN ?_
      refine tN ?_
      refine eT ?_
      exact rc_ rfl rfl (hst.get 0 rfl) (m := 5) (by kernel_rfl) rfl rfl ⟨by rw [show evAt g _ = some _ from by show (g.threads[tm]?).bind _ = _; rw [hx49]; exact hx63]; rfl, hst.pop.pop.pop⟩
theorem w_rightEvent {G : Cx} (hG : Plain G) {K : KP} (e : XEv) (n : Int) {σ : AHeap} {L : Own} (hst : St σ K L) : EvCall Try.prog G 67 [.agg (ints e.ints), .int .i64 n] σ fun v σ' => v = .bool (rightEvB e n) ∧ St σ' K L := by
 refine eY hG Try.func67 rfl (t := (PT.leaf.put (some (.agg (ints e.ints))) 0).put (some (.int .i64 n)) 1) (by rfl) ?_
 refine eS ?_
 refine eR rfl ?_
 refine oP hst rfl (xo_ rfl rfl) (fun _ => rfl) (fun σ b1 hst => ?_)
 refine eV rfl (xA rfl) rfl ?_
 refine eN ?_
 refine tN ?_
 refine eS ?_
 refine eS ?_
 refine eR rfl ?_
 refine eV rfl (xF rfl (k := 0) (by kernel_rfl)) rfl ?_
 refine eV rfl (x1_ rfl (hst.get 0 rfl) (by kernel_rfl) rfl) rfl ?_
 refine eV rfl (xB rfl rfl rfl) rfl ?_
 refine oS rfl (xM rfl) (fun _ => rfl) (fun h8 => ?_) (fun h8 => ?_)
 ·refine eU rfl rfl ?_
  refine eU rfl rfl ?_
  refine eU rfl rfl ?_
  refine eV rfl (xP rfl rfl) rfl ?_
  refine eV rfl (xM rfl) rfl ?_
  refine eU rfl rfl ?_
  refine eU rfl rfl ?_
  refine eU rfl rfl ?_
  refine eV rfl (xP rfl rfl) rfl ?_
  refine eV rfl (xM rfl) rfl ?_
  refine eU rfl rfl ?_
  refine eU rfl rfl ?_
  refine eU rfl rfl ?_
  refine eV rfl (xP rfl rfl) rfl ?_
  refine eN ?_
  refine tN ?_
  refine eA rfl ?_
  refine eS ?_
  refine eR rfl ?_
  refine eV rfl (xA rfl) rfl ?_
  refine eN ?_
  refine tN ?_
  refine eT ?_
  refine tR (?_)
  exact r1_ rfl rfl ⟨congrArg AV.bool (by unfold rightEvB notB; simp only [h8, cond_true, cond_false]), hst.pop⟩
 ·refine eV rfl (xF rfl (k := 0) (by kernel_rfl)) rfl ?_
  refine eV rfl (x1_ rfl (hst.get 0 rfl) (by kernel_rfl) rfl) rfl ?_
  refine eV rfl (xB rfl rfl rfl) rfl ?_
  refine eV rfl (xP rfl rfl) rfl ?_
  refine oS rfl (xM rfl) (fun _ => rfl) (fun h13 => ?_) (fun h13 => ?_)
  ·refine eU rfl rfl ?_
   refine eU rfl rfl ?_
   refine eU rfl rfl ?_
   refine eV rfl (xP rfl rfl) rfl ?_
   refine eV rfl (xM rfl) rfl ?_
   refine eU rfl rfl ?_
   refine eU rfl rfl ?_
   refine eU rfl rfl ?_
   refine eV rfl (xP rfl rfl) rfl ?_
   refine eN ?_
   refine tN ?_
   refine eA rfl ?_
   refine eS ?_
   refine eR rfl ?_
   refine eV rfl (xA rfl) rfl ?_
   refine eN ?_
   refine tN ?_
   refine eT ?_
   refine tR (?_)
   exact r1_ rfl rfl ⟨congrArg AV.bool (by unfold rightEvB notB; simp only [h8, h13, cond_true, cond_false]), hst.pop⟩
  ·refine eV rfl (xF rfl (k := 2) (by kernel_rfl)) rfl ?_
   refine eV rfl (x1_ rfl (hst.get 0 rfl) (by kernel_rfl) rfl) rfl ?_
   refine eV rfl (xB rfl rfl rfl) rfl ?_
   refine eV rfl (xP rfl rfl) rfl ?_
   refine oS rfl (xM rfl) (fun _ => rfl) (fun h18 => ?_) (fun h18 => ?_)
   ·refine eU rfl rfl ?_
    refine eU rfl rfl ?_
    refine eU rfl rfl ?_
    refine eV rfl (xP rfl rfl) rfl ?_
    refine eN ?_
    refine tN ?_
    refine eA rfl ?_
    refine eS ?_
    refine eR rfl ?_
    refine eV rfl (xA rfl) rfl ?_
    refine eN ?_
    refine tN ?_
    refine eT ?_
    refine tR (?_)
    exact r1_ rfl rfl ⟨congrArg AV.bool (by unfold rightEvB notB; simp only [h8, h13, h18, cond_true, cond_false]), hst.pop⟩
   ·refine eV rfl (xF rfl (k := 2) (by kernel_rfl)) rfl ?_
    refine eV rfl (x1_ rfl (hst.get 0 rfl) (by kernel_rfl) rfl) rfl ?_
    refine eV rfl (xB rfl rfl rfl) rfl ?_
    refine eV rfl (xP rfl rfl) rfl ?_
    refine eN ?_
    refine tN ?_
    refine e2_ rfl (fun h22 => ?_) (fun h22 => ?_)
    ·refine eS ?_
     refine eR rfl ?_
     refine eV rfl (xA rfl) rfl ?_
     refine eN ?_
     refine tN ?_
     refine eT ?_
     refine tR (?_)
     exact r1_ rfl rfl ⟨congrArg AV.bool (by unfold rightEvB notB; simp only [h8, h13, h18, h22, cond_true, cond_false]), hst.pop⟩
    ·refine eI ?_
     refine tN ?_
     refine eS ?_
     refine eS ?_
     refine eR rfl ?_
     refine eV rfl (xN rfl (hst.get 0 rfl) (n := 5) (vs := [_, _, _, _, _]) (by kernel_rfl) (Nat.le_of_ble_eq_true rfl) rfl) rfl ?_
     refine oV rfl (xC rfl rfl rfl (by kernel_rfl)) (fun _ => rfl) (w_reads hG _ hst) (fun σ hst => ?_)
     refine eV rfl (xn rfl) rfl ?_
     refine oS rfl (xM rfl) (fun _ => rfl) (fun h26 => ?_) (fun h26 => ?_)
     ·refine eV rfl (xF rfl (k := 3) (by kernel_rfl)) rfl ?_
      refine eV rfl (x1_ rfl (hst.get 0 rfl) (by kernel_rfl) rfl) rfl ?_
      refine eV rfl (xB rfl rfl rfl) rfl ?_
      refine eV rfl (xP rfl rfl) rfl ?_
      refine oS rfl (xM rfl) (fun _ => rfl) (fun h31 => ?_) (fun h31 => ?_)
      ·refine eU rfl rfl ?_
       refine eU rfl rfl ?_
       refine eU rfl rfl ?_
       refine eU rfl rfl ?_
       refine eU rfl rfl ?_
       refine eU rfl rfl ?_
       refine eU rfl rfl ?_
       refine eU rfl rfl ?_
       refine eV rfl (xP rfl rfl) rfl ?_
       refine eN ?_
       refine tN ?_
       refine eA rfl ?_
       refine eS ?_
       refine eR rfl ?_
       refine eV rfl (xA rfl) rfl ?_
       refine eN ?_
       refine tN ?_
       refine eT ?_
       refine tR (?_)
       exact r1_ rfl rfl ⟨congrArg AV.bool (by unfold rightEvB notB; simp only [h8, h13, h18, h22, h26, h31, cond_true, cond_false]), hst.pop⟩
      ·refine eV rfl (xN rfl (hst.get 0 rfl) (n := 5) (vs := [_, _, _, _, _]) (by kernel_rfl) (Nat.le_of_ble_eq_true rfl) rfl) rfl ?_
       refine oV rfl (xC rfl rfl rfl (by kernel_rfl)) (fun _ => rfl) (w_writes hG _ hst) (fun σ hst => ?_)
       refine eV rfl (xn rfl) rfl ?_
       refine oS rfl (xM rfl) (fun _ => rfl) (fun h35 => ?_) (fun h35 => ?_)
       ·refine eV rfl (xF rfl (k := 4) (by kernel_rfl)) rfl ?_
        refine eV rfl (x1_ rfl (hst.get 0 rfl) (by kernel_rfl) rfl) rfl ?_
        refine eV rfl (xB rfl rfl rfl) rfl ?_
        refine eV rfl (xP rfl rfl) rfl ?_
        refine eV rfl (xP rfl rfl) rfl ?_
        refine eN ?_
        refine tN ?_
        refine e2_ rfl (fun h40 => ?_) (fun h40 => ?_)
        ·refine eS ?_
         refine eR rfl ?_
         refine eV rfl (xA rfl) rfl ?_
         refine eN ?_
         refine tN ?_
         refine eT ?_
         refine tR (?_)
         exact r1_ rfl rfl ⟨congrArg AV.bool (by unfold rightEvB notB; simp only [h8, h13, h18, h22, h26, h31, h35, h40, cond_true, cond_false]), hst.pop⟩
        ·refine eI ?_
         refine tN ?_
         refine eS ?_
         refine eS ?_
         refine eR rfl ?_
         refine eV rfl (xF rfl (k := 0) (by kernel_rfl)) rfl ?_
         refine eV rfl (x1_ rfl (hst.get 0 rfl) (by kernel_rfl) rfl) rfl ?_
         refine eV rfl (xB rfl rfl rfl) rfl ?_
         refine eN ?_
         refine tN ?_
         refine e2_ rfl (fun h43 => ?_) (fun h43 => ?_)
         ·refine eS ?_
          refine eR rfl ?_
          refine eV rfl (xF rfl (k := 1) (by kernel_rfl)) rfl ?_
          refine eV rfl (x1_ rfl (hst.get 0 rfl) (by kernel_rfl) rfl) rfl ?_
          refine eV rfl (xB rfl rfl rfl) rfl ?_
          refine eV rfl (xA rfl) rfl ?_
          refine eN ?_
          refine tN ?_
          refine eT ?_
          refine tR (?_)
          exact r1_ rfl rfl ⟨congrArg AV.bool (by unfold rightEvB notB; simp only [h8, h13, h18, h22, h26, h31, h35, h40, h43, cond_true, cond_false]), hst.pop⟩
         ·refine eI ?_
          refine tN ?_
          refine eS ?_
          refine eR rfl ?_
          refine eV rfl (xF rfl (k := 1) (by kernel_rfl)) rfl ?_
          refine eV rfl (x1_ rfl (hst.get 0 rfl) (by kernel_rfl) rfl) rfl ?_
          refine eV rfl (xB rfl rfl rfl) rfl ?_
          refine oS rfl (xM rfl) (fun _ => rfl) (fun h50 => ?_) (fun h50 => ?_)
          ·refine eV rfl (xF rfl (k := 1) (by kernel_rfl)) rfl ?_
           refine eV rfl (x1_ rfl (hst.get 0 rfl) (by kernel_rfl) rfl) rfl ?_
           refine eV rfl (xM rfl) rfl ?_
           refine eV rfl (xB rfl rfl rfl) rfl ?_
           refine eV rfl (xP rfl rfl) rfl ?_
           refine eV rfl (xA rfl) rfl ?_
           refine eN ?_
           refine tN ?_
           refine eT ?_
           exact r1_ rfl rfl ⟨congrArg AV.bool (by unfold rightEvB notB; simp only [h8, h13, h18, h22, h26, h31, h35, h40, h43, h50, cond_true, cond_false]), hst.pop⟩
          ·refine eU rfl rfl ?_
           refine eU rfl rfl ?_
           refine eU rfl rfl ?_
           refine eU rfl rfl ?_
           refine eV rfl (xP rfl rfl) rfl ?_
           refine eV rfl (xA rfl) rfl ?_
           refine eN ?_
           refine tN ?_
           refine eT ?_
           exact r1_ rfl rfl ⟨congrArg AV.bool (by unfold rightEvB notB; simp only [h8, h13, h18, h22, h26, h31, h35, h40, h43, h50, cond_true, cond_false]), hst.pop⟩
       ·refine eU rfl rfl ?_
        refine eU rfl rfl ?_
        refine eU rfl rfl ?_
        refine eV rfl (xP rfl rfl) rfl ?_
        refine eV rfl (xP rfl rfl) rfl ?_
        refine eN ?_
        refine tN ?_
        refine eF rfl ?_
        refine eI ?_
        refine tN ?_
        refine eS ?_
        refine eS ?_
        refine eR rfl ?_
        refine eV rfl (xF rfl (k := 0) (by kernel_rfl)) rfl ?_
        refine eV rfl (x1_ rfl (hst.get 0 rfl) (by kernel_rfl) rfl) rfl ?_
        refine eV rfl (xB rfl rfl rfl) rfl ?_
        refine eN ?_
        refine tN ?_
        refine e2_ rfl (fun h43 => ?_) (fun h43 => ?_)
        ·refine eS ?_
         refine eR rfl ?_
         refine eV rfl (xF rfl (k := 1) (by kernel_rfl)) rfl ?_
         refine eV rfl (x1_ rfl (hst.get 0 rfl) (by kernel_rfl) rfl) rfl ?_
         refine eV rfl (xB rfl rfl rfl) rfl ?_
         refine eV rfl (xA rfl) rfl ?_
         refine eN ?_
         refine tN ?_
         refine eT ?_
         refine tR (?_)
         exact r1_ rfl rfl ⟨congrArg AV.bool (by unfold rightEvB notB; simp only [h8, h13, h18, h22, h26, h31, h35, h43, cond_true, cond_false]), hst.pop⟩
        ·refine eI ?_
         refine tN ?_
         refine eS ?_
         refine eR rfl ?_
         refine eV rfl (xF rfl (k := 1) (by kernel_rfl)) rfl ?_
         refine eV rfl (x1_ rfl (hst.get 0 rfl) (by kernel_rfl) rfl) rfl ?_
         refine eV rfl (xB rfl rfl rfl) rfl ?_
         refine oS rfl (xM rfl) (fun _ => rfl) (fun h50 => ?_) (fun h50 => ?_)
         ·refine eV rfl (xF rfl (k := 1) (by kernel_rfl)) rfl ?_
          refine eV rfl (x1_ rfl (hst.get 0 rfl) (by kernel_rfl) rfl) rfl ?_
          refine eV rfl (xM rfl) rfl ?_
          refine eV rfl (xB rfl rfl rfl) rfl ?_
          refine eV rfl (xP rfl rfl) rfl ?_
          refine eV rfl (xA rfl) rfl ?_
          refine eN ?_
          refine tN ?_
          refine eT ?_
          exact r1_ rfl rfl ⟨congrArg AV.bool (by unfold rightEvB notB; simp only [h8, h13, h18, h22, h26, h31, h35, h43, h50, cond_true, cond_false]), hst.pop⟩
         ·refine eU rfl rfl ?_
          refine eU rfl rfl ?_
          refine eU rfl rfl ?_
          refine eU rfl rfl ?_
          refine eV rfl (xP rfl rfl) rfl ?_
          refine eV rfl (xA rfl) rfl ?_
          refine eN ?_
          refine tN ?_
          refine eT ?_
          exact r1_ rfl rfl ⟨congrArg AV.bool (by unfold rightEvB notB; simp only [h8, h13, h18, h22, h26, h31, h35, h43, h50, cond_true, cond_false]), hst.pop⟩
     ·refine eU rfl rfl ?_
      refine eU rfl rfl ?_
      refine eU rfl rfl ?_
      refine eV rfl (xP rfl rfl) rfl ?_
      refine eV rfl (xM rfl) rfl ?_
      refine eV rfl (xN rfl (hst.get 0 rfl) (n := 5) (vs := [_, _, _, _, _]) (by kernel_rfl) (Nat.le_of_ble_eq_true rfl) rfl) rfl ?_
      refine oV rfl (xC rfl rfl rfl (by kernel_rfl)) (fun _ => rfl) (w_writes hG _ hst) (fun σ hst => ?_)
      refine eV rfl (xn rfl) rfl ?_
      refine oS rfl (xM rfl) (fun _ => rfl) (fun h35 => ?_) (fun h35 => ?_)
      ·refine eV rfl (xF rfl (k := 4) (by kernel_rfl)) rfl ?_
       refine eV rfl (x1_ rfl (hst.get 0 rfl) (by kernel_rfl) rfl) rfl ?_
       refine eV rfl (xB rfl rfl rfl) rfl ?_
       refine eV rfl (xP rfl rfl) rfl ?_
       refine eV rfl (xP rfl rfl) rfl ?_
       refine eN ?_
       refine tN ?_
       refine e2_ rfl (fun h40 => ?_) (fun h40 => ?_)
       ·refine eS ?_
        refine eR rfl ?_
        refine eV rfl (xA rfl) rfl ?_
        refine eN ?_
        refine tN ?_
        refine eT ?_
        refine tR (?_)
        exact r1_ rfl rfl ⟨congrArg AV.bool (by unfold rightEvB notB; simp only [h8, h13, h18, h22, h26, h35, h40, cond_true, cond_false]), hst.pop⟩
       ·refine eI ?_
        refine tN ?_
        refine eS ?_
        refine eS ?_
        refine eR rfl ?_
        refine eV rfl (xF rfl (k := 0) (by kernel_rfl)) rfl ?_
        refine eV rfl (x1_ rfl (hst.get 0 rfl) (by kernel_rfl) rfl) rfl ?_
        refine eV rfl (xB rfl rfl rfl) rfl ?_
        refine eN ?_
        refine tN ?_
        refine e2_ rfl (fun h43 => ?_) (fun h43 => ?_)
        ·refine eS ?_
         refine eR rfl ?_
         refine eV rfl (xF rfl (k := 1) (by kernel_rfl)) rfl ?_
         refine eV rfl (x1_ rfl (hst.get 0 rfl) (by kernel_rfl) rfl) rfl ?_
         refine eV rfl (xB rfl rfl rfl) rfl ?_
         refine eV rfl (xA rfl) rfl ?_
         refine eN ?_
         refine tN ?_
         refine eT ?_
         refine tR (?_)
         exact r1_ rfl rfl ⟨congrArg AV.bool (by unfold rightEvB notB; simp only [h8, h13, h18, h22, h26, h35, h40, h43, cond_true, cond_false]), hst.pop⟩
        ·refine eI ?_
         refine tN ?_
         refine eS ?_
         refine eR rfl ?_
         refine eV rfl (xF rfl (k := 1) (by kernel_rfl)) rfl ?_
         refine eV rfl (x1_ rfl (hst.get 0 rfl) (by kernel_rfl) rfl) rfl ?_
         refine eV rfl (xB rfl rfl rfl) rfl ?_
         refine oS rfl (xM rfl) (fun _ => rfl) (fun h50 => ?_) (fun h50 => ?_)
         ·refine eV rfl (xF rfl (k := 1) (by kernel_rfl)) rfl ?_
          refine eV rfl (x1_ rfl (hst.get 0 rfl) (by kernel_rfl) rfl) rfl ?_
          refine eV rfl (xM rfl) rfl ?_
          refine eV rfl (xB rfl rfl rfl) rfl ?_
          refine eV rfl (xP rfl rfl) rfl ?_
          refine eV rfl (xA rfl) rfl ?_
          refine eN ?_
          refine tN ?_
          refine eT ?_
          exact r1_ rfl rfl ⟨congrArg AV.bool (by unfold rightEvB notB; simp only [h8, h13, h18, h22, h26, h35, h40, h43, h50, cond_true, cond_false]), hst.pop⟩
         ·refine eU rfl rfl ?_
          refine eU rfl rfl ?_
          refine eU rfl rfl ?_
          refine eU rfl rfl ?_
          refine eV rfl (xP rfl rfl) rfl ?_
          refine eV rfl (xA rfl) rfl ?_
          refine eN ?_
          refine tN ?_
          refine eT ?_
          exact r1_ rfl rfl ⟨congrArg AV.bool (by unfold rightEvB notB; simp only [h8, h13, h18, h22, h26, h35, h40, h43, h50, cond_true, cond_false]), hst.pop⟩
      ·refine eU rfl rfl ?_
       refine eU rfl rfl ?_
       refine eU rfl rfl ?_
       refine eV rfl (xP rfl rfl) rfl ?_
       refine eV rfl (xP rfl rfl) rfl ?_
       refine eN ?_
       refine tN ?_
       refine eF rfl ?_
       refine eI ?_
       refine tN ?_
       refine eS ?_
       refine eS ?_
       refine eR rfl ?_
       refine eV rfl (xF rfl (k := 0) (by kernel_rfl)) rfl ?_
       refine eV rfl (x1_ rfl (hst.get 0 rfl) (by kernel_rfl) rfl) rfl ?_
       refine eV rfl (xB rfl rfl rfl) rfl ?_
       refine eN ?_
       refine tN ?_
       refine e2_ rfl (fun h43 => ?_) (fun h43 => ?_)
       ·refine eS ?_
        refine eR rfl ?_
        refine eV rfl (xF rfl (k := 1) (by kernel_rfl)) rfl ?_
        refine eV rfl (x1_ rfl (hst.get 0 rfl) (by kernel_rfl) rfl) rfl ?_
        refine eV rfl (xB rfl rfl rfl) rfl ?_
        refine eV rfl (xA rfl) rfl ?_
        refine eN ?_
        refine tN ?_
        refine eT ?_
        refine tR (?_)
        exact r1_ rfl rfl ⟨congrArg AV.bool (by unfold rightEvB notB; simp only [h8, h13, h18, h22, h26, h35, h43, cond_true, cond_false]), hst.pop⟩
       ·refine eI ?_
        refine tN ?_
        refine eS ?_
        refine eR rfl ?_
        refine eV rfl (xF rfl (k := 1) (by kernel_rfl)) rfl ?_
        refine eV rfl (x1_ rfl (hst.get 0 rfl) (by kernel_rfl) rfl) rfl ?_
        refine eV rfl (xB rfl rfl rfl) rfl ?_
        refine oS rfl (xM rfl) (fun _ => rfl) (fun h50 => ?_) (fun h50 => ?_)
        ·refine eV rfl (xF rfl (k := 1) (by kernel_rfl)) rfl ?_
         refine eV rfl (x1_ rfl (hst.get 0 rfl) (by kernel_rfl) rfl) rfl ?_
         refine eV rfl (xM rfl) rfl ?_
         refine eV rfl (xB rfl rfl rfl) rfl ?_
         refine eV rfl (xP rfl rfl) rfl ?_
         refine eV rfl (xA rfl) rfl ?_
         refine eN ?_
         refine tN ?_
         refine eT ?_
         exact r1_ rfl rfl ⟨congrArg AV.bool (by unfold rightEvB notB; simp only [h8, h13, h18, h22, h26, h35, h43, h50, cond_true, cond_false]), hst.pop⟩
        ·refine eU rfl rfl ?_
         refine eU rfl rfl ?_
         refine eU rfl rfl ?_
         refine eU rfl rfl ?_
         refine eV rfl (xP rfl rfl) rfl ?_
         refine eV rfl (xA rfl) rfl ?_
         refine eN ?_
         refine tN ?_
         refine eT ?_
         exact r1_ rfl rfl ⟨congrArg AV.bool (by unfold rightEvB notB; simp only [h8, h13, h18, h22, h26, h35, h43, h50, cond_true, cond_false]), hst.pop⟩
theorem w_rightFrom {G : Cx} (hG : Plain G) {K : KP} {g : XG} {a b c d : AV} (h : HasG K g a b c d) (th ix fth fix_ : Int) {σ : AHeap} {L : Own} (hst : St σ K L) : EvCall Try.prog G 68 [.agg [a, b, c, d], .agg [.int .i64 th, .int .i64 ix], .agg [.int .i64 fth, .int .i64 fix_]] σ fun v σ' => v = .bool (rightFromB g ⟨th, ix⟩ ⟨fth, fix_⟩) ∧ St σ' K L := by
 have h' := h; obtain ⟨hi, ht, hf, ho⟩ := h'
 refine eY hG Try.func68 rfl (t := ((PT.leaf.put (some (.agg [a, b, c, d])) 0).put (some (.agg [.int .i64 th, .int .i64 ix])) 1).put (some (.agg [.int .i64 fth, .int .i64 fix_])) 2) (by rfl) ?_
 refine eS ?_
 refine eR rfl ?_
 refine oP hst rfl (xo_ rfl rfl) (fun _ => rfl) (fun σ b1 hst => ?_)
 refine oP hst rfl (xo_ rfl rfl) (fun _ => rfl) (fun σ b2 hst => ?_)
 refine oP hst rfl (xo_ rfl rfl) (fun _ => rfl) (fun σ b3 hst => ?_)
 refine eV rfl (xA rfl) rfl ?_
 refine eN ?_
 refine tN ?_
 refine eS ?_
 refine eR rfl ?_
 refine eV rfl (xN rfl (hst.get 2 rfl) (n := 4) (vs := [_, _, _, _]) (by kernel_rfl) (Nat.le_of_ble_eq_true rfl) rfl) rfl ?_
 refine eV rfl (xN rfl (hst.get 1 rfl) (n := 2) (vs := [_, _]) (by kernel_rfl) (Nat.le_of_ble_eq_true rfl) rfl) rfl ?_
 refine oV rfl (xC rfl rfl rfl (by kernel_rfl)) (fun _ => rfl) (w_event hG h _ _ hst) (fun σ hst => ?_)
 refine eV rfl (xM rfl) rfl ?_
 refine eV rfl (xU rfl rfl) rfl ?_
 refine eV rfl (xU rfl rfl) rfl ?_
 refine oP hst rfl (xe (cs := [.int .i64 0, .int .i64 0, .int .i64 0, .int .i64 0, .int .i64 0]) (by kernel_rfl) (by kernel_rfl)) (fun _ => rfl) (fun σ b4 hst => ?_)
 refine o_set0 hst rfl (xS rfl rfl rfl (hst.get 0 rfl) (m := 5) (by kernel_rfl) rfl (Nat.le_of_ble_eq_true rfl) (lC rfl (lC rfl (lC rfl (lC rfl (lC rfl l0_))))) (cells' := [_, _, _, _, _]) rfl) rfl (fun σ hst => ?_)
 refine eV rfl (xA rfl) rfl ?_
 refine eN ?_
 refine tN ?_
 refine eS ?_
 refine eS ?_
 refine eR rfl ?_
 refine eV rfl (xN rfl (hst.get 0 rfl) (n := 5) (vs := [_, _, _, _, _]) (by kernel_rfl) (Nat.le_of_ble_eq_true rfl) rfl) rfl ?_
 refine oV rfl (xC rfl rfl rfl (by kernel_rfl)) (fun _ => rfl) (w_reads hG _ hst) (fun σ hst => ?_)
 refine eV rfl (xn rfl) rfl ?_
 refine eN ?_
 refine tN ?_
 refine e2_ rfl (fun h19 => ?_) (fun h19 => ?_)
 ·refine eS ?_
  refine eR rfl ?_
  refine eV rfl (xN rfl (hst.get 1 rfl) (n := 2) (vs := [_, _]) (by kernel_rfl) (Nat.le_of_ble_eq_true rfl) rfl) rfl ?_
  refine eV rfl (xb_ (places := [(0, 1), (1, 1)]) (zero := [.int .i64 0, .int .i64 0]) (cs := [_, _]) (by kernel_rfl) (by kernel_rfl) (by kernel_rfl) rfl (by kernel_rfl)) rfl ?_
  refine eV rfl (x_eqS (n := 2) (ca := [_, _]) (cb := [_, _]) (by kernel_rfl) rfl rfl rfl rfl) rfl ?_
  refine eV rfl (xA rfl) rfl ?_
  refine eN ?_
  refine tN ?_
  refine eT ?_
  refine tR (?_)
  exact r1_ rfl rfl ⟨congrArg AV.bool (by unfold rightFromB; simp only [h19, cond_true, cond_false]), hst.pop.pop.pop.pop⟩
 ·refine eI ?_
  refine tN ?_
  refine eS ?_
  refine eR rfl ?_
  refine eV rfl (xN rfl (hst.get 3 rfl) (n := 4) (vs := [_, _, _, _]) (by kernel_rfl) (Nat.le_of_ble_eq_true rfl) rfl) rfl ?_
  refine eV rfl (xN rfl (hst.get 1 rfl) (n := 2) (vs := [_, _]) (by kernel_rfl) (Nat.le_of_ble_eq_true rfl) rfl) rfl ?_
  refine oV rfl (xC rfl rfl rfl (by kernel_rfl)) (fun _ => rfl) (w_event hG h _ _ hst) (fun σ hst => ?_)
  refine eV rfl (xM rfl) rfl ?_
  refine eV rfl (xU rfl rfl) rfl ?_
  refine eV rfl (xU rfl rfl) rfl ?_
  refine oP hst rfl (xe (cs := [.int .i64 0, .int .i64 0, .int .i64 0, .int .i64 0, .int .i64 0]) (by kernel_rfl) (by kernel_rfl)) (fun _ => rfl) (fun σ b5 hst => ?_)
  refine o_set0 hst rfl (xS rfl rfl rfl (hst.get 0 rfl) (m := 5) (by kernel_rfl) rfl (Nat.le_of_ble_eq_true rfl) (lC rfl (lC rfl (lC rfl (lC rfl (lC rfl l0_))))) (cells' := [_, _, _, _, _]) rfl) rfl (fun σ hst => ?_)
  refine eV rfl (xA rfl) rfl ?_
  refine eN ?_
  refine tN ?_
  refine eS ?_
  refine eR rfl ?_
  refine eV rfl (xM rfl) rfl ?_
  refine oS rfl (xM rfl) (fun _ => rfl) (fun h30 => ?_) (fun h30 => ?_)
  ·refine eV rfl (xN rfl (hst.get 2 rfl) (n := 2) (vs := [_, _]) (by kernel_rfl) (Nat.le_of_ble_eq_true rfl) rfl) rfl ?_
   refine eV rfl (xN rfl (hst.get 3 rfl) (n := 2) (vs := [_, _]) (by kernel_rfl) (Nat.le_of_ble_eq_true rfl) rfl) rfl ?_
   refine eV rfl (x_neS (n := 2) (ca := [_, _]) (cb := [_, _]) (by kernel_rfl) rfl rfl rfl rfl) rfl ?_
   refine eV rfl (xP rfl rfl) rfl ?_
   refine oS rfl (xM rfl) (fun _ => rfl) (fun h35 => ?_) (fun h35 => ?_)
   ·refine eV rfl (xN rfl (hst.get 0 rfl) (n := 5) (vs := [_, _, _, _, _]) (by kernel_rfl) (Nat.le_of_ble_eq_true rfl) rfl) rfl ?_
    refine oV rfl (xC rfl rfl rfl (by kernel_rfl)) (fun _ => rfl) (w_writes hG _ hst) (fun σ hst => ?_)
    refine eV rfl (xP rfl rfl) rfl ?_
    refine oS rfl (xM rfl) (fun _ => rfl) (fun h39 => ?_) (fun h39 => ?_)
    ·refine eV rfl (xF rfl (k := 1) (by kernel_rfl)) rfl ?_
     refine eV rfl (x1_ rfl (hst.get 0 rfl) (by kernel_rfl) rfl) rfl ?_
     refine eV rfl (xF rfl (k := 1) (by kernel_rfl)) rfl ?_
     refine eV rfl (x1_ rfl (hst.get 1 rfl) (by kernel_rfl) rfl) rfl ?_
     refine eV rfl (xB rfl rfl rfl) rfl ?_
     refine eV rfl (xP rfl rfl) rfl ?_
     refine oS rfl (xM rfl) (fun _ => rfl) (fun h46 => ?_) (fun h46 => ?_)
     ·refine eV rfl (xF rfl (k := 4) (by kernel_rfl)) rfl ?_
      refine eV rfl (x1_ rfl (hst.get 0 rfl) (by kernel_rfl) rfl) rfl ?_
      refine eV rfl (xF rfl (k := 3) (by kernel_rfl)) rfl ?_
      refine eV rfl (x1_ rfl (hst.get 1 rfl) (by kernel_rfl) rfl) rfl ?_
      refine eV rfl (xB rfl rfl rfl) rfl ?_
      refine eV rfl (xP rfl rfl) rfl ?_
      refine eV rfl (xA rfl) rfl ?_
      refine eN ?_
      refine tN ?_
      refine eT ?_
      exact r1_ rfl rfl ⟨congrArg AV.bool (by unfold rightFromB; simp only [h19, h30, h35, h39, h46, cond_true, cond_false]), hst.pop.pop.pop.pop.pop⟩
     ·refine eU rfl rfl ?_
      refine eU rfl rfl ?_
      refine eU rfl rfl ?_
      refine eU rfl rfl ?_
      refine eU rfl rfl ?_
      refine eV rfl (xP rfl rfl) rfl ?_
      refine eV rfl (xA rfl) rfl ?_
      refine eN ?_
      refine tN ?_
      refine eT ?_
      exact r1_ rfl rfl ⟨congrArg AV.bool (by unfold rightFromB; simp only [h19, h30, h35, h39, h46, cond_true, cond_false]), hst.pop.pop.pop.pop.pop⟩
    ·refine eU rfl rfl ?_
     refine eU rfl rfl ?_
     refine eU rfl rfl ?_
     refine eU rfl rfl ?_
     refine eU rfl rfl ?_
     refine eV rfl (xP rfl rfl) rfl ?_
     refine eV rfl (xM rfl) rfl ?_
     refine eU rfl rfl ?_
     refine eU rfl rfl ?_
     refine eU rfl rfl ?_
     refine eU rfl rfl ?_
     refine eU rfl rfl ?_
     refine eV rfl (xP rfl rfl) rfl ?_
     refine eV rfl (xA rfl) rfl ?_
     refine eN ?_
     refine tN ?_
     refine eT ?_
     exact r1_ rfl rfl ⟨congrArg AV.bool (by unfold rightFromB; simp only [h19, h30, h35, h39, cond_true, cond_false]), hst.pop.pop.pop.pop.pop⟩
   ·refine eU rfl rfl ?_
    refine eU rfl rfl ?_
    refine eV rfl (xP rfl rfl) rfl ?_
    refine eV rfl (xM rfl) rfl ?_
    refine eU rfl rfl ?_
    refine eU rfl rfl ?_
    refine eU rfl rfl ?_
    refine eU rfl rfl ?_
    refine eU rfl rfl ?_
    refine eV rfl (xP rfl rfl) rfl ?_
    refine eV rfl (xM rfl) rfl ?_
    refine eU rfl rfl ?_
    refine eU rfl rfl ?_
    refine eU rfl rfl ?_
    refine eU rfl rfl ?_
    refine eU rfl rfl ?_
    refine eV rfl (xP rfl rfl) rfl ?_
    refine eV rfl (xA rfl) rfl ?_
    refine eN ?_
    refine tN ?_
    refine eT ?_
    exact r1_ rfl rfl ⟨congrArg AV.bool (by unfold rightFromB; simp only [h19, h30, h35, cond_true, cond_false]), hst.pop.pop.pop.pop.pop⟩
  ·refine eU rfl rfl ?_
   refine eU rfl rfl ?_
   refine eU rfl rfl ?_
   refine eV rfl (xP rfl rfl) rfl ?_
   refine eV rfl (xM rfl) rfl ?_
   refine eU rfl rfl ?_
   refine eU rfl rfl ?_
   refine eV rfl (xP rfl rfl) rfl ?_
   refine eV rfl (xM rfl) rfl ?_
   refine eU rfl rfl ?_
   refine eU rfl rfl ?_
   refine eU rfl rfl ?_
   refine eU rfl rfl ?_
   refine eU rfl rfl ?_
   refine eV rfl (xP rfl rfl) rfl ?_
   refine eV rfl (xM rfl) rfl ?_
   refine eU rfl rfl ?_
   refine eU rfl rfl ?_
   refine eU rfl rfl ?_
   refine eU rfl rfl ?_
   refine eU rfl rfl ?_
   refine eV rfl (xP rfl rfl) rfl ?_
   refine eV rfl (xA rfl) rfl ?_
   refine eN ?_
   refine tN ?_
   refine eT ?_
   exact r1_ rfl rfl ⟨congrArg AV.bool (by unfold rightFromB; simp only [h19, h30, cond_true, cond_false]), hst.pop.pop.pop.pop.pop⟩
end Go.Ev

namespace Go.Ev
variable [Env]
open Go.Proofs
set_option maxRecDepth 4000
set_option maxHeartbeats 8000000
theorem mapT124 : MapT Try.prog 124 47 3 2 := ⟨by kernel_rfl, by kernel_rfl, by kernel_rfl, by kernel_rfl, fun k hk => by
 match k, hk with
 | [a, b], _ =>
  show keyShape Try.prog 47 (.agg (ints [a, b])) = true
  kernel_rfl⟩

theorem chk_no1 {ls : List (List XId)} {m1 m m0 : LM} {i i2 : Nat} {l : List XId} {x : XId} (h1 : chkO ls 0 m1 = chkO (ls.drop i) i m0) (hx : ls[i]? = some l) (h2 : chkL i l m0 = chkL i (l.drop i2) m) (hy : l[i2]? = some x) (h : (lmGet m x.ints).isSome = false) : chkO ls 0 m1 = none := by
 rw [h1, drop_at hx]
 show (chkL i l m0).bind _ = none
 rw [h2, drop_at hy]
 show (bif (lmGet m x.ints).isSome then _ else none).bind _ = none
 rw [h]; rfl
theorem chk_no2 {ls : List (List XId)} {m1 m m0 : LM} {i i2 : Nat} {l : List XId} {x : XId} (h1 : chkO ls 0 m1 = chkO (ls.drop i) i m0) (hx : ls[i]? = some l) (h2 : chkL i l m0 = chkL i (l.drop i2) m) (hy : l[i2]? = some x) (h : (lmGet m x.ints).isSome = true) (h' : eqI ((lmGet m x.ints).getD 0) (.ofNat i) = false) : chkO ls 0 m1 = none := by
 rw [h1, drop_at hx]
 show (chkL i l m0).bind _ = none
 rw [h2, drop_at hy]
 show (bif (lmGet m x.ints).isSome then (bif eqI ((lmGet m x.ints).getD 0) (.ofNat i) then _ else none) else none).bind _ = none
 rw [h, h']; rfl

theorem w_rightOrder {G : Cx} (hG : Plain G) {K : KP} {g : XG} {a b c d : AV} (h : HasG K g a b c d) {σ : AHeap} {L : Own} (hst : St σ K L) : EvCall Try.prog G 69 [.agg [a, b, c, d]] σ fun v σ' => v = .bool (rightOrderB g) ∧ St σ' K L := by
 have h' := h; obtain ⟨hi, ht, hf, ho⟩ := h'
 refine eY hG Try.func69 rfl (t := PT.leaf.put (some (.agg [a, b, c, d])) 0) (by rfl) ?_
 refine eS ?_
 refine eR rfl ?_
 refine oP hst rfl (xo_ rfl rfl) (fun _ => rfl) (fun σ b1 hst => ?_)
 refine eV rfl (xA rfl) rfl ?_
 refine eN ?_
 refine tN ?_
 refine eS ?_
 refine eR rfl ?_
 refine o_map hst rfl x_makeMap (fun _ => rfl) (fun σ b2 hst => ?_)
 refine eV rfl (xA rfl) rfl ?_
 refine eN ?_
 refine tN ?_
 refine eS ?_
 refine eS ?_
 refine eR rfl ?_
 refine eV rfl (xF rfl (k := 1) (by kernel_rfl)) rfl ?_
 refine eV rfl (x1_ rfl (hst.get 1 rfl) (by kernel_rfl) rfl) rfl ?_
 refine eV rfl (x_len' ht rfl rfl rfl (e := 61) (by kernel_rfl) rfl) rfl ?_
 refine eV rfl (xM rfl) rfl ?_
 refine eN ?_
 refine tN ?_
 refine eB ?_
 refine eW [4, 5, 6, 7, 18, 19, 20, 21, 22, 23, 24, 25, 26, 27, 28, 29, 30, 31, 32, 33, 34, 35, 36, 37, 38, 39, 40] (fun j t σ => ∃ (i : Nat) (es : List AEnt) (ck : Nat) (m : LM), j + i = g.threads.length ∧ MapIs 2 es m ∧ insT g.threads 0 [] = insT (g.threads.drop i) i m ∧ t.get 18 = some (.int .i64 (.ofNat i)) ∧ St σ K ((b2, .map es ck) :: (b1, .row [a, b, c, d] 43 false) :: L)) (g.threads.length) ⟨0, [], 0, [], rfl, .nil, rfl, rfl, hst⟩ ?_
 clear hst; intro j3 t σ hoff hI; obtain ⟨i, es, ck, m, hj3, hm, he3, hv18, hst⟩ := hI
 obtain ⟨o4, o5, o6, o7, o18, o19, o20, o21, hoff⟩ := hoff.ex8 rfl rfl
 obtain ⟨o22, o23, o24, o25, o26, o27, o28, o29, hoff⟩ := hoff.ex8 rfl rfl
 obtain ⟨o30, o31, o32, o33, o34, o35, o36, o37, hoff⟩ := hoff.ex8 rfl rfl
 obtain ⟨o38, hoff⟩ := hoff.ex1 rfl
 obtain ⟨o39, hoff⟩ := hoff.ex1 rfl
 obtain ⟨o40, hoff⟩ := hoff.ex1 rfl
 obtain rfl := hoff.nil; clear hoff
 replace hv18 : o18 = some _ := hv18; subst hv18
 refine eS ?_
 refine eR rfl ?_
 refine eV rfl (xB rfl rfl rfl) rfl ?_
 refine eN ?_
 refine tN ?_
 refine eS ?_
 refine e2_ rfl (fun h19 => ?_) (fun h19 => ?_)
 ·refine eI ?_
  refine tN ?_
  refine eS ?_
  refine eB ?_
  refine eS ?_
  refine eR rfl ?_
  refine eV rfl (xM rfl) rfl ?_
  obtain ⟨x21, hx21, hi21⟩ := at_lt h19
  refine oI (e := 61) (m := 1) ht hx21 rfl rfl (by kernel_rfl) (by kernel_rfl) rfl rfl (fun _ => rfl) (fun p21 vs21 hp21 hl21 hr21 => ?_)
  have hr21' := hr21; obtain ⟨v21, rfl, hk21⟩ := hr21'
  refine eV rfl (xp hst hp21 rfl (by kernel_rfl) rfl) rfl ?_
  refine eV rfl (xA rfl) rfl ?_
  refine eV rfl (xA rfl) rfl ?_
  refine eN ?_
  refine tN ?_
  refine eS ?_
  refine eR rfl ?_
  refine eV rfl (xM rfl) rfl ?_
  refine eV rfl (x_len' hk21 rfl rfl rfl (e := 45) (by kernel_rfl) rfl) rfl ?_
  refine eV rfl (xM rfl) rfl ?_
  generalize hm0 : m = m0 at hm he3; clear hm0
  refine eN ?_
  refine tN ?_
  refine eB ?_
  refine eW [6, 7, 25, 26, 27, 28, 29, 30, 31, 32, 33, 34, 35, 36, 37, 38, 39] (fun j t σ => ∃ (i2 : Nat) (es : List AEnt) (ck : Nat) (m : LM), j + i2 = x21.length ∧ MapIs 2 es m ∧ insL i x21 0 m0 = insL i (x21.drop i2) i2 m ∧ t.get 25 = some (.int .i64 (.ofNat i2)) ∧ St σ K ((b2, .map es ck) :: (b1, .row [a, b, c, d] 43 false) :: L)) (x21.length) ⟨0, es, ck, m0, rfl, hm, rfl, rfl, hst⟩ ?_
  clear hst; intro j6 t σ hoff hI; obtain ⟨i2, es, ck, m, hj6, hm, he6, hv25, hst⟩ := hI
  obtain ⟨o6, o7, o25, o26, o27, o28, o29, o30, hoff⟩ := hoff.ex8 rfl rfl
  obtain ⟨o31, o32, o33, o34, o35, o36, o37, o38, hoff⟩ := hoff.ex8 rfl rfl
  obtain ⟨o39, hoff⟩ := hoff.ex1 rfl
  obtain rfl := hoff.nil; clear hoff
  replace hv25 : o25 = some _ := hv25; subst hv25
  refine eS ?_
  refine eR rfl ?_
  refine eV rfl (xB rfl rfl rfl) rfl ?_
  refine eN ?_
  refine tN ?_
  refine eS ?_
  refine e2_ rfl (fun h26 => ?_) (fun h26 => ?_)
  ·refine eI ?_
   refine tN ?_
   refine eS ?_
   refine eB ?_
   refine eS ?_
   refine eR rfl ?_
   refine eV rfl (xM rfl) rfl ?_
   obtain ⟨x28, hx28, hi28⟩ := at_lt h26
   refine oI (e := 45) (m := 5) hk21 hx28 rfl rfl (by kernel_rfl) (by kernel_rfl) rfl rfl (fun _ => rfl) (fun p28 vs28 hp28 hl28 hr28 => ?_)
   obtain rfl := hr28
   refine eV rfl (xw hst hp28 rfl (by kernel_rfl) rfl) rfl ?_
   refine oP hst rfl (xe (cs := [.int .i64 0, .int .i64 0, .int .i64 0, .int .i64 0, .int .i64 0]) (by kernel_rfl) (by kernel_rfl)) (fun _ => rfl) (fun σ b3 hst => ?_)
   refine eV rfl (xA rfl) rfl ?_
   refine o_set0 hst rfl (xS rfl rfl rfl (hst.get 0 rfl) (m := 5) (by kernel_rfl) rfl (Nat.le_of_ble_eq_true rfl) (lC rfl (lC rfl (lC rfl (lC rfl (lC rfl l0_))))) (cells' := [_, _, _, _, _]) rfl) rfl (fun σ hst => ?_)
   refine eN ?_
   refine tN ?_
   refine eS ?_
   refine eR rfl ?_
   refine eV rfl (xN rfl (hst.get 0 rfl) (n := 5) (vs := [_, _, _, _, _]) (by kernel_rfl) (Nat.le_of_ble_eq_true rfl) rfl) rfl ?_
   refine oV rfl (xC rfl rfl rfl (by kernel_rfl)) (fun _ => rfl) (w_writes hG _ hst) (fun σ hst => ?_)
   refine eN ?_
   refine tN ?_
   refine e2_ rfl (fun h31 => ?_) (fun h31 => ?_)
   ·refine eR rfl ?_
    refine eV rfl (xM rfl) rfl ?_
    refine eV rfl (xM rfl) rfl ?_
    refine eV rfl (xB rfl rfl rfl) rfl ?_
    refine eV rfl (xM rfl) rfl ?_
    refine eV rfl (xb_ (places := [(0, 1), (1, 1)]) (zero := [.int .i64 0, .int .i64 0]) (cs := [_, _]) (by kernel_rfl) (by kernel_rfl) (by kernel_rfl) rfl (by kernel_rfl)) rfl ?_
    refine eV rfl (xF rfl (k := 1) (by kernel_rfl)) rfl ?_
    refine eV rfl (x1_ rfl (hst.get 0 rfl) (by kernel_rfl) rfl) rfl ?_
    refine o_mapUpd1 mapT124 hm hst (k := [_, _]) rfl rfl rfl rfl rfl rfl rfl (fun σ es ck hst hm => ?_)
    replace hm := (show MapIs 2 es (lmPut m [Int.ofNat (i + 1), Int.ofNat i2] x28.loc) from by rw [← wr_succ (i := i) (by have := ht.len_le; omega)]; exact hm)
    refine eN ?_
    refine bN ?_
    refine tN ?_
    refine eR rfl ?_
    refine eV rfl (xB rfl rfl rfl) rfl ?_
    refine eV rfl (xM rfl) rfl ?_
    refine eN ?_
    have hst := hst.pop
    refine lN ⟨j6 - 1, by omega, (by (iterate 34 refine OffW.put rfl ?_); exact OffW.refl _ _), i2 + 1, es, ck, _, by omega, hm, by rw [he6, drop_at hx28]; show insL i _ (i2 + 1) (insE i m i2 x28) = _; unfold insE; rw [h31]; rfl, congrArg (fun z => some (AV.int .i64 z)) (wr_succ (by have := hk21.len_le; omega)), hst⟩
   ·refine eI ?_
    refine bN ?_
    refine tN ?_
    refine eR rfl ?_
    refine eV rfl (xB rfl rfl rfl) rfl ?_
    refine eV rfl (xM rfl) rfl ?_
    refine eN ?_
    have hst := hst.pop
    refine lN ⟨j6 - 1, by omega, (by (iterate 27 refine OffW.put rfl ?_); exact OffW.refl _ _), i2 + 1, es, ck, _, by omega, hm, by rw [he6, drop_at hx28]; show insL i _ (i2 + 1) (insE i m i2 x28) = _; unfold insE; rw [h31]; rfl, congrArg (fun z => some (AV.int .i64 z)) (wr_succ (by have := hk21.len_le; omega)), hst⟩
  ·refine eX ?_
   refine tX ?_
   refine lX ?_
   refine bX ?_
   refine bN ?_
   refine tN ?_
   refine eR rfl ?_
   refine eV rfl (xB rfl rfl rfl) rfl ?_
   refine eV rfl (xM rfl) rfl ?_
   refine eN ?_
   refine lN ⟨j3 - 1, by omega, (by (iterate 56 refine OffW.put rfl ?_); exact OffW.refl _ _), i + 1, es, ck, m, by omega, hm, by rw [he3, drop_at hx21]; show insT _ (i + 1) (insL i x21 0 m0) = _; rw [he6, drop_end (lt_no h26)]; rfl, congrArg (fun z => some (AV.int .i64 z)) (wr_succ (by have := ht.len_le; omega)), hst⟩
 ·refine eX ?_
  refine tX ?_
  refine lX ?_
  refine bX ?_
  refine tN ?_
  refine eS ?_
  refine eS ?_
  refine eR rfl ?_
  refine eV rfl (xF rfl (k := 3) (by kernel_rfl)) rfl ?_
  refine eV rfl (x1_ rfl (hst.get 1 rfl) (by kernel_rfl) rfl) rfl ?_
  refine eV rfl (x_len' ho rfl rfl rfl (e := 62) (by kernel_rfl) rfl) rfl ?_
  refine eV rfl (xM rfl) rfl ?_
  have hm1 : insT g.threads 0 [] = m := by rw [he3, drop_end (lt_no h19)]; rfl
  generalize hmm : m = m1 at hm hm1; clear hmm
  refine eN ?_
  refine tN ?_
  refine eB ?_
  refine eW [2, 8, 9, 11, 12, 13, 44, 45, 46, 47, 48, 49, 50, 51, 52, 53, 54, 55, 56, 57, 58, 59, 60, 61, 62, 63, 64, 65, 66, 67, 68, 69, 70, 71] (fun j t σ => ∃ (i : Nat) (es : List AEnt) (ck : Nat) (m : LM), j + i = g.order.length ∧ MapIs 2 es m ∧ chkO g.order 0 m1 = chkO (g.order.drop i) i m ∧ t.get 44 = some (.int .i64 (.ofNat i)) ∧ St σ K ((b2, .map es ck) :: (b1, .row [a, b, c, d] 43 false) :: L)) (g.order.length) ⟨0, es, ck, m1, rfl, hm, rfl, rfl, hst⟩ ?_
  clear hst; intro j13 t σ hoff hI; obtain ⟨i, es, ck, m, hj13, hm, he13, hv44, hst⟩ := hI
  obtain ⟨o2, o8, o9, o11, o12, o13, o44, o45, hoff⟩ := hoff.ex8 rfl rfl
  obtain ⟨o46, o47, o48, o49, o50, o51, o52, o53, hoff⟩ := hoff.ex8 rfl rfl
  obtain ⟨o54, o55, o56, o57, o58, o59, o60, o61, hoff⟩ := hoff.ex8 rfl rfl
  obtain ⟨o62, o63, o64, o65, o66, o67, o68, o69, hoff⟩ := hoff.ex8 rfl rfl
  obtain ⟨o70, hoff⟩ := hoff.ex1 rfl
  obtain ⟨o71, hoff⟩ := hoff.ex1 rfl
  obtain rfl := hoff.nil; clear hoff
  replace hv44 : o44 = some _ := hv44; subst hv44
  refine eS ?_
  refine eR rfl ?_
  refine eV rfl (xB rfl rfl rfl) rfl ?_
  refine eN ?_
  refine tN ?_
  refine eS ?_
  refine e2_ rfl (fun h45 => ?_) (fun h45 => ?_)
  ·refine eI ?_
   refine tN ?_
   refine eS ?_
   refine eB ?_
   refine eS ?_
   refine eR rfl ?_
   refine eV rfl (xM rfl) rfl ?_
   obtain ⟨x47, hx47, hi47⟩ := at_lt h45
   refine oI (e := 62) (m := 1) ho hx47 rfl rfl (by kernel_rfl) (by kernel_rfl) rfl rfl (fun _ => rfl) (fun p47 vs47 hp47 hl47 hr47 => ?_)
   have hr47' := hr47; obtain ⟨v47, rfl, hk47⟩ := hr47'
   refine eV rfl (xp hst hp47 rfl (by kernel_rfl) rfl) rfl ?_
   refine eV rfl (xA rfl) rfl ?_
   refine eV rfl (xA rfl) rfl ?_
   refine eN ?_
   refine tN ?_
   refine eS ?_
   refine eR rfl ?_
   refine eV rfl (xM rfl) rfl ?_
   refine eV rfl (x_len' hk47 rfl rfl rfl (e := 47) (by kernel_rfl) rfl) rfl ?_
   refine eV rfl (xM rfl) rfl ?_
   generalize hm0 : m = m0 at hm he13; clear hm0
   refine eN ?_
   refine tN ?_
   refine eB ?_
   refine eW [2, 11, 12, 13, 51, 52, 53, 54, 55, 56, 57, 58, 59, 60, 61, 62, 63, 64, 65, 66, 67, 68, 69, 70] (fun j t σ => ∃ (i2 : Nat) (es : List AEnt) (ck : Nat) (m : LM), j + i2 = x47.length ∧ MapIs 2 es m ∧ chkL i x47 m0 = chkL i (x47.drop i2) m ∧ t.get 51 = some (.int .i64 (.ofNat i2)) ∧ St σ K ((b2, .map es ck) :: (b1, .row [a, b, c, d] 43 false) :: L)) (x47.length) ⟨0, es, ck, m0, rfl, hm, rfl, rfl, hst⟩ ?_
   clear hst; intro j16 t σ hoff hI; obtain ⟨i2, es, ck, m, hj16, hm, he16, hv51, hst⟩ := hI
   obtain ⟨o2, o11, o12, o13, o51, o52, o53, o54, hoff⟩ := hoff.ex8 rfl rfl
   obtain ⟨o55, o56, o57, o58, o59, o60, o61, o62, hoff⟩ := hoff.ex8 rfl rfl
   obtain ⟨o63, o64, o65, o66, o67, o68, o69, o70, hoff⟩ := hoff.ex8 rfl rfl
   obtain rfl := hoff.nil; clear hoff
   replace hv51 : o51 = some _ := hv51; subst hv51
   refine eS ?_
   refine eR rfl ?_
   refine eV rfl (xB rfl rfl rfl) rfl ?_
   refine eN ?_
   refine tN ?_
   refine eS ?_
   refine e2_ rfl (fun h52 => ?_) (fun h52 => ?_)
   ·refine eI ?_
    refine tN ?_
    refine eS ?_
    refine eB ?_
    refine eS ?_
    refine eR rfl ?_
    obtain ⟨x53, hx53, hi53⟩ := at_lt h52
    refine oI (e := 47) (m := 2) hk47 hx53 rfl rfl (by kernel_rfl) (by kernel_rfl) rfl rfl (fun _ => rfl) (fun p53 vs53 hp53 hl53 hr53 => ?_)
    obtain rfl := hr53
    refine eV rfl (xw hst hp53 rfl (by kernel_rfl) rfl) rfl ?_
    refine oP hst rfl (xe (cs := [.int .i64 0, .int .i64 0]) (by kernel_rfl) (by kernel_rfl)) (fun _ => rfl) (fun σ b3 hst => ?_)
    refine o_set0 hst rfl (xS rfl rfl rfl (hst.get 0 rfl) (m := 2) (by kernel_rfl) rfl (Nat.le_of_ble_eq_true rfl) (lC rfl (lC rfl l0_)) (cells' := [_, _]) rfl) rfl (fun σ hst => ?_)
    refine eN ?_
    refine tN ?_
    refine eS ?_
    refine eS ?_
    refine eR rfl ?_
    refine eV rfl (xM rfl) rfl ?_
    refine eV rfl (xN rfl (hst.get 0 rfl) (n := 2) (vs := [_, _]) (by kernel_rfl) (Nat.le_of_ble_eq_true rfl) rfl) rfl ?_
    refine eV rfl (x_lookup mapT124 hm (hst.get 1 rfl) (k := [_, _]) rfl rfl rfl) rfl ?_
    refine eV rfl (xM rfl) rfl ?_
    refine eV rfl (xU rfl rfl) rfl ?_
    refine eV rfl (xU rfl rfl) rfl ?_
    refine eV rfl (xA rfl) rfl ?_
    refine eV rfl (xA rfl) rfl ?_
    refine eN ?_
    refine tN ?_
    refine eS ?_
    refine eR rfl ?_
    refine eV rfl (xM rfl) rfl ?_
    refine eV rfl (xn rfl) rfl ?_
    refine oS rfl (xM rfl) (fun _ => rfl) (fun h63 => ?_) (fun h63 => ?_)
    ·refine eU rfl rfl ?_
     refine eU rfl rfl ?_
     refine eU rfl rfl ?_
     refine eV rfl (xP rfl rfl) rfl ?_
     refine eN ?_
     refine tN ?_
     refine eA rfl ?_
     refine eS ?_
     refine eR rfl ?_
     refine eV rfl (xA rfl) rfl ?_
     refine eN ?_
     refine tN ?_
     refine eT ?_
     refine tR (bR (tR (lR (bR (bR (tR (lR (bR (tR (?_))))))))))
     exact r1_ rfl rfl ⟨congrArg AV.bool (by unfold rightOrderB; rw [show chkO g.order 0 (insT g.threads 0 []) = none from by rw [hm1]; exact chk_no1 he13 hx47 he16 hx53 (not_t h63)]), hst.pop.pop.pop⟩
    ·refine eV rfl (xM rfl) rfl ?_
     refine eV rfl (xM rfl) rfl ?_
     refine eV rfl (xB rfl rfl rfl) rfl ?_
     refine eV rfl (xP rfl rfl) rfl ?_
     refine eN ?_
     refine tN ?_
     refine e2_ rfl (fun h67 => ?_) (fun h67 => ?_)
     ·refine eS ?_
      refine eR rfl ?_
      refine eV rfl (xA rfl) rfl ?_
      refine eN ?_
      refine tN ?_
      refine eT ?_
      refine tR (bR (tR (lR (bR (bR (tR (lR (bR (tR (?_))))))))))
      exact r1_ rfl rfl ⟨congrArg AV.bool (by unfold rightOrderB; rw [show chkO g.order 0 (insT g.threads 0 []) = none from by rw [hm1]; exact chk_no2 he13 hx47 he16 hx53 (not_f h63) (notB_t h67)]), hst.pop.pop.pop⟩
     ·refine eI ?_
      refine tN ?_
      refine eR rfl ?_
      refine eV rfl (xM rfl) rfl ?_
      refine eV rfl (xN rfl (hst.get 0 rfl) (n := 2) (vs := [_, _]) (by kernel_rfl) (Nat.le_of_ble_eq_true rfl) rfl) rfl ?_
      refine o_mapDel1 mapT124 hm hst (k := [_, _]) rfl rfl rfl rfl rfl rfl rfl rfl rfl (fun σ es hst hm => ?_)
      refine eN ?_
      refine bN ?_
      refine tN ?_
      refine eR rfl ?_
      refine eV rfl (xB rfl rfl rfl) rfl ?_
      refine eV rfl (xM rfl) rfl ?_
      refine eN ?_
      have hst := hst.pop
      refine lN ⟨j16 - 1, by omega, (by (iterate 47 refine OffW.put rfl ?_); exact OffW.refl _ _), i2 + 1, es, ck, _, by omega, hm, by rw [he16, drop_at hx53]; show (bif (lmGet m x53.ints).isSome then _ else none) = _; rw [show (lmGet m x53.ints).isSome = true from not_f h63]; show (bif eqI ((lmGet m x53.ints).getD 0) (Int.ofNat i) then _ else none) = _; rw [show eqI ((lmGet m x53.ints).getD 0) (Int.ofNat i) = true from notB_f h67]; rfl, congrArg (fun z => some (AV.int .i64 z)) (wr_succ (by have := hk47.len_le; omega)), hst⟩
   ·refine eX ?_
    refine tX ?_
    refine lX ?_
    refine bX ?_
    refine bN ?_
    refine tN ?_
    refine eR rfl ?_
    refine eV rfl (xB rfl rfl rfl) rfl ?_
    refine eV rfl (xM rfl) rfl ?_
    refine eN ?_
    refine lN ⟨j13 - 1, by omega, (by (iterate 70 refine OffW.put rfl ?_); exact OffW.refl _ _), i + 1, es, ck, m, by omega, hm, by rw [he13, drop_at hx47]; show (chkL i x47 m0).bind _ = _; rw [he16, drop_end (lt_no h52)]; rfl, congrArg (fun z => some (AV.int .i64 z)) (wr_succ (by have := ho.len_le; omega)), hst⟩
  ·refine eX ?_
   refine tX ?_
   refine lX ?_
   refine bX ?_
   refine tN ?_
   refine eS ?_
   refine eR rfl ?_
   refine eV rfl (xM rfl) rfl ?_
   refine eV rfl (x_lenMap mapT124 hm (hst.get 0 rfl) rfl rfl rfl rfl) rfl ?_
   refine eV rfl (xB rfl rfl rfl) rfl ?_
   refine eV rfl (xA rfl) rfl ?_
   refine eN ?_
   refine tN ?_
   refine eT ?_
   exact r1_ rfl rfl ⟨congrArg AV.bool (by unfold rightOrderB; rw [show chkO g.order 0 (insT g.threads 0 []) = some m from by rw [hm1]; exact by rw [he13, drop_end (lt_no h45)]; rfl]), hst.pop.pop⟩
end Go.Ev

namespace Go.Ev
variable [Env]
open Go.Proofs
set_option maxRecDepth 4000
set_option maxHeartbeats 8000000

theorem w_tooLong1 {G : Cx} (hG : Plain G) {K : KP} {l : List XEv} {v : AV} (h : HasS K 5 REv l v) {σ : AHeap} {L : Own} (hst : St σ K L) : EvCall Try.prog G 96 [v] σ fun v σ' => v = .bool (ltI 14 (.ofNat l.length)) ∧ St σ' K L := by
 refine eY hG Try.func96 rfl (t := PT.leaf.put (some (v)) 0) (by rfl) ?_
 refine eS ?_
 refine eR rfl ?_
 refine eV rfl (xA rfl) rfl ?_
 refine eN ?_
 refine tN ?_
 refine eS ?_
 refine eR rfl ?_
 refine eV rfl (xM rfl) rfl ?_
 refine eV rfl (x_len' h rfl rfl rfl (e := 45) (by kernel_rfl) rfl) rfl ?_
 refine eV rfl (xB rfl rfl rfl) rfl ?_
 refine eV rfl (xA rfl) rfl ?_
 refine eN ?_
 refine tN ?_
 refine eT ?_
 exact r1_ rfl rfl ⟨rfl, hst⟩
theorem w_IndexFuncE {G : Cx} (hG : Plain G) {K : KP} {l : List (List XEv)} {v : AV} {p : List XEv → Bool} (h : HasS K 1 (RL K 5 REv) l v) {σ : AHeap} {L : Own} (hst : St σ K L)
  (hcall : ∀ x u σ L, St σ K L → RL K 5 REv x [u] → EvCall Try.prog G 96 [u] σ fun v σ' => v = .bool (p x) ∧ St σ' K L) : EvCall Try.prog G 111 [v, .func 96 [] []] σ fun v σ' => v = .int .i64 (idxF p l 0) ∧ St σ' K L := by
 refine eY hG Try.func111 rfl (t := (PT.leaf.put (some (v)) 0).put (some (.func 96 [] [])) 1) (by rfl) ?_
 refine eS ?_
 refine eR rfl ?_
 refine eV rfl (xA rfl) rfl ?_
 refine eN ?_
 refine tN ?_
 refine eS ?_
 refine eS ?_
 refine eR rfl ?_
 refine eV rfl (xM rfl) rfl ?_
 refine eV rfl (x_len' h rfl rfl rfl (e := 61) (by kernel_rfl) rfl) rfl ?_
 refine eV rfl (xM rfl) rfl ?_
 refine eN ?_
 refine tN ?_
 refine eB ?_
 obtain ⟨LL1, hst, hLL1⟩ := hst.named
 refine eW [4, 5, 8, 9, 10, 11, 12, 13, 14, 15, 16, 17, 18] (fun j t σ => ∃ (i : Nat), j + i = l.length ∧ idxF p l 0 = idxF p (l.drop i) i ∧ t.get 8 = some (.int .i64 (.ofNat i)) ∧ St σ K LL1) (l.length) ⟨0, rfl, rfl, rfl, hst⟩ ?_
 clear hst; intro j2 t σ hoff hI; obtain ⟨i, hj, he, hv8, hst⟩ := hI
 subst hLL1
 obtain ⟨o4, o5, o8, o9, o10, o11, o12, o13, hoff⟩ := hoff.ex8 rfl rfl
 obtain ⟨o14, o15, o16, o17, hoff⟩ := hoff.ex4 rfl
 obtain ⟨o18, hoff⟩ := hoff.ex1 rfl
 obtain rfl := hoff.nil; clear hoff
 replace hv8 : o8 = some _ := hv8; subst hv8
 refine eS ?_
 refine eR rfl ?_
 refine eV rfl (xB rfl rfl rfl) rfl ?_
 refine eN ?_
 refine tN ?_
 refine eS ?_
 refine e2_ rfl (fun h9 => ?_) (fun h9 => ?_)
 ·refine eI ?_
  refine tN ?_
  refine eS ?_
  refine eB ?_
  refine eS ?_
  refine eR rfl ?_
  refine eV rfl (xM rfl) rfl ?_
  refine eV rfl (xA rfl) rfl ?_
  refine eN ?_
  refine tN ?_
  refine eS ?_
  refine eR rfl ?_
  refine eV rfl (xM rfl) rfl ?_
  refine eV rfl (xM rfl) rfl ?_
  refine eV rfl (xM rfl) rfl ?_
  obtain ⟨x14, hx14, hi14⟩ := at_lt h9
  refine oI (e := 61) (m := 1) h hx14 rfl rfl (by kernel_rfl) (by kernel_rfl) rfl rfl (fun _ => rfl) (fun p14 vs14 hp14 hl14 hr14 => ?_)
  have hr14' := hr14; obtain ⟨v14, rfl, hk14⟩ := hr14'
  refine eV rfl (xp hst hp14 rfl (by kernel_rfl) rfl) rfl ?_
  refine oV rfl (xC rfl rfl rfl (by kernel_rfl)) (fun _ => rfl) (hcall x14 _ _ _ hst hr14) (fun σ hst => ?_)
  refine eN ?_
  refine tN ?_
  refine e2_ rfl (fun h16 => ?_) (fun h16 => ?_)
  ·refine eS ?_
   refine eR rfl ?_
   refine eV rfl (xM rfl) rfl ?_
   refine eV rfl (xA rfl) rfl ?_
   refine eN ?_
   refine tN ?_
   refine eT ?_
   refine bR (tR (lR (bR (tR (?_)))))
   exact r1_ rfl rfl ⟨congrArg (AV.int .i64) (by symm; rw [he, drop_at hx14]; show (bif p x14 then _ else _) = _; rw [h16]; rfl), hst⟩
  ·refine eI ?_
   refine bN ?_
   refine tN ?_
   refine eR rfl ?_
   refine eV rfl (xB rfl rfl rfl) rfl ?_
   refine eV rfl (xM rfl) rfl ?_
   refine eN ?_
   refine lN ⟨j2 - 1, by omega, (by (iterate 24 refine OffW.put rfl ?_); exact OffW.refl _ _), i + 1, by omega, by rw [he, drop_at hx14]; show (bif p x14 then _ else _) = _; rw [h16]; rfl, congrArg (fun z => some (AV.int .i64 z)) (wr_succ (by have := h.len_le; omega)), hst⟩
 ·refine eX ?_
  refine tX ?_
  refine lX ?_
  refine bX ?_
  refine tN ?_
  refine eS ?_
  refine eR rfl ?_
  refine eV rfl (xA rfl) rfl ?_
  refine eN ?_
  refine tN ?_
  refine eT ?_
  exact r1_ rfl rfl ⟨congrArg (AV.int .i64) (by symm; rw [he, drop_end (lt_no h9)]; rfl), hst⟩
theorem w_ContainsFuncE {G : Cx} (hG : Plain G) {K : KP} {l : List (List XEv)} {v : AV} (h : HasS K 1 (RL K 5 REv) l v) {σ : AHeap} {L : Own} (hst : St σ K L) : EvCall Try.prog G 95 [v, .func 96 [] []] σ fun v σ' => v = .bool (l.any fun x => ltI 14 (.ofNat x.length)) ∧ St σ' K L := by
 refine eY hG Try.func95 rfl (t := (PT.leaf.put (some (v)) 0).put (some (.func 96 [] [])) 1) (by rfl) ?_
 refine eS ?_
 refine eR rfl ?_
 refine eV rfl (xA rfl) rfl ?_
 refine eN ?_
 refine tN ?_
 refine eS ?_
 refine eR rfl ?_
 refine eV rfl (xM rfl) rfl ?_
 refine eV rfl (xM rfl) rfl ?_
 refine oV rfl (xC rfl rfl rfl (by kernel_rfl)) (fun _ => rfl) (w_IndexFuncE hG h hst (p := fun x => ltI 14 (.ofNat x.length)) fun x u σ L hst hr => by obtain ⟨w, hw, hk⟩ := hr; cases hw; exact w_tooLong1 hG hk hst) (fun σ hst => ?_)
 refine eV rfl (xB rfl rfl rfl) rfl ?_
 refine eV rfl (xA rfl) rfl ?_
 refine eN ?_
 refine tN ?_
 refine eT ?_
 exact r1_ rfl rfl ⟨congrArg AV.bool (idxF_any _ _), hst⟩
theorem w_tooLong {G : Cx} (hG : Plain G) {K : KP} {g : XG} {a b c d : AV} (h : HasG K g a b c d) {σ : AHeap} {L : Own} (hst : St σ K L) : EvCall Try.prog G 66 [.agg [a, b, c, d]] σ fun v σ' => v = .bool (tooLongB g) ∧ St σ' K L := by
 have h' := h; obtain ⟨hi, ht, hf, ho⟩ := h'
 refine eY hG Try.func66 rfl (t := PT.leaf.put (some (.agg [a, b, c, d])) 0) (by rfl) ?_
 refine eS ?_
 refine eR rfl ?_
 refine oP hst rfl (xo_ rfl rfl) (fun _ => rfl) (fun σ b1 hst => ?_)
 refine eV rfl (xA rfl) rfl ?_
 refine eN ?_
 refine tN ?_
 refine eS ?_
 refine eR rfl ?_
 refine eV rfl (xF rfl (k := 1) (by kernel_rfl)) rfl ?_
 refine eV rfl (x1_ rfl (hst.get 0 rfl) (by kernel_rfl) rfl) rfl ?_
 refine eV rfl (x_len' ht rfl rfl rfl (e := 61) (by kernel_rfl) rfl) rfl ?_
 refine eV rfl (xB rfl rfl rfl) rfl ?_
 refine oS rfl (xM rfl) (fun _ => rfl) (fun h7 => ?_) (fun h7 => ?_)
 ·refine eU rfl rfl ?_
  refine eU rfl rfl ?_
  refine eU rfl rfl ?_
  refine eU rfl rfl ?_
  refine eV rfl (xP rfl rfl) rfl ?_
  refine eV rfl (xM rfl) rfl ?_
  refine eU rfl rfl ?_
  refine eU rfl rfl ?_
  refine eU rfl rfl ?_
  refine eV rfl (xP rfl rfl) rfl ?_
  refine eV rfl (xA rfl) rfl ?_
  refine eN ?_
  refine tN ?_
  refine eT ?_
  exact r1_ rfl rfl ⟨congrArg AV.bool (by unfold tooLongB; simp only [h7, cond_true, cond_false]), hst.pop⟩
 ·refine eV rfl (xF rfl (k := 0) (by kernel_rfl)) rfl ?_
  refine eV rfl (x1_ rfl (hst.get 0 rfl) (by kernel_rfl) rfl) rfl ?_
  refine eV rfl (x_len' hi rfl rfl rfl (e := 2) (by kernel_rfl) rfl) rfl ?_
  refine eV rfl (xB rfl rfl rfl) rfl ?_
  refine eV rfl (xP rfl rfl) rfl ?_
  refine oS rfl (xM rfl) (fun _ => rfl) (fun h13 => ?_) (fun h13 => ?_)
  ·refine eU rfl rfl ?_
   refine eU rfl rfl ?_
   refine eU rfl rfl ?_
   refine eV rfl (xP rfl rfl) rfl ?_
   refine eV rfl (xA rfl) rfl ?_
   refine eN ?_
   refine tN ?_
   refine eT ?_
   exact r1_ rfl rfl ⟨congrArg AV.bool (by unfold tooLongB; simp only [h7, h13, cond_true, cond_false]), hst.pop⟩
  ·refine eV rfl (xF rfl (k := 1) (by kernel_rfl)) rfl ?_
   refine eV rfl (x1_ rfl (hst.get 0 rfl) (by kernel_rfl) rfl) rfl ?_
   refine oV rfl (xC rfl rfl rfl (by kernel_rfl)) (fun _ => rfl) (w_ContainsFuncE hG ht hst) (fun σ hst => ?_)
   refine eV rfl (xP rfl rfl) rfl ?_
   refine eV rfl (xA rfl) rfl ?_
   refine eN ?_
   refine tN ?_
   refine eT ?_
   exact r1_ rfl rfl ⟨congrArg AV.bool (by unfold tooLongB; simp only [h7, h13, cond_true, cond_false]), hst.pop⟩
theorem w_Check {G : Cx} (hG : Plain G) {K : KP} {g : XG} {a b c d : AV} (h : HasG K g a b c d) {σ : AHeap} {L : Own} (hst : St σ K L) : EvCall Try.prog G 26 [.agg [a, b, c, d]] σ fun v σ' => v = .int .i64 (checkI g) ∧ St σ' K L := by
 have h' := h; obtain ⟨hi, ht, hf, ho⟩ := h'
 refine eY hG Try.func26 rfl (t := PT.leaf.put (some (.agg [a, b, c, d])) 0) (by rfl) ?_
 refine eS ?_
 refine eR rfl ?_
 refine oP hst rfl (xo_ rfl rfl) (fun _ => rfl) (fun σ b1 hst => ?_)
 refine eV rfl (xA rfl) rfl ?_
 refine eN ?_
 refine tN ?_
 refine eS ?_
 refine eS ?_
 refine eR rfl ?_
 refine eV rfl (xN rfl (hst.get 0 rfl) (n := 4) (vs := [_, _, _, _]) (by kernel_rfl) (Nat.le_of_ble_eq_true rfl) rfl) rfl ?_
 refine oV rfl (xC rfl rfl rfl (by kernel_rfl)) (fun _ => rfl) (w_tooLong hG h  hst) (fun σ hst => ?_)
 refine eN ?_
 refine tN ?_
 refine e2_ rfl (fun h8 => ?_) (fun h8 => ?_)
 ·refine eS ?_
  refine eR rfl ?_
  refine eV rfl (xA rfl) rfl ?_
  refine eN ?_
  refine tN ?_
  refine eT ?_
  refine tR (?_)
  exact r1_ rfl rfl ⟨congrArg (AV.int .i64) (by symm; unfold checkI; rw [h8]; rfl), hst.pop⟩
 ·refine eI ?_
  refine tN ?_
  refine eS ?_
  refine eS ?_
  refine eR rfl ?_
  refine eV rfl (xF rfl (k := 2) (by kernel_rfl)) rfl ?_
  refine eV rfl (x1_ rfl (hst.get 0 rfl) (by kernel_rfl) rfl) rfl ?_
  refine eV rfl (x_len' hf rfl rfl rfl (e := 62) (by kernel_rfl) rfl) rfl ?_
  refine eV rfl (xF rfl (k := 1) (by kernel_rfl)) rfl ?_
  refine eV rfl (x1_ rfl (hst.get 0 rfl) (by kernel_rfl) rfl) rfl ?_
  refine eV rfl (x_len' ht rfl rfl rfl (e := 61) (by kernel_rfl) rfl) rfl ?_
  refine eV rfl (xB rfl rfl rfl) rfl ?_
  refine oS rfl (xM rfl) (fun _ => rfl) (fun h16 => ?_) (fun h16 => ?_)
  ·refine eU rfl rfl ?_
   refine eU rfl rfl ?_
   refine eU rfl rfl ?_
   refine eU rfl rfl ?_
   refine eU rfl rfl ?_
   refine eU rfl rfl ?_
   refine eU rfl rfl ?_
   refine eV rfl (xP rfl rfl) rfl ?_
   refine eN ?_
   refine tN ?_
   refine eA rfl ?_
   refine eS ?_
   refine eR rfl ?_
   refine eV rfl (xA rfl) rfl ?_
   refine eN ?_
   refine tN ?_
   refine eT ?_
   refine tR (?_)
   exact r1_ rfl rfl ⟨congrArg (AV.int .i64) (by symm; unfold checkI; rw [h8, notB_t h16]; rfl), hst.pop⟩
  ·refine eV rfl (xF rfl (k := 3) (by kernel_rfl)) rfl ?_
   refine eV rfl (x1_ rfl (hst.get 0 rfl) (by kernel_rfl) rfl) rfl ?_
   refine eV rfl (x_len' ho rfl rfl rfl (e := 62) (by kernel_rfl) rfl) rfl ?_
   refine eV rfl (xF rfl (k := 0) (by kernel_rfl)) rfl ?_
   refine eV rfl (x1_ rfl (hst.get 0 rfl) (by kernel_rfl) rfl) rfl ?_
   refine eV rfl (x_len' hi rfl rfl rfl (e := 2) (by kernel_rfl) rfl) rfl ?_
   refine eV rfl (xB rfl rfl rfl) rfl ?_
   refine eV rfl (xP rfl rfl) rfl ?_
   refine eN ?_
   refine tN ?_
   refine e2_ rfl (fun h24 => ?_) (fun h24 => ?_)
   ·refine eS ?_
    refine eR rfl ?_
    refine eV rfl (xA rfl) rfl ?_
    refine eN ?_
    refine tN ?_
    refine eT ?_
    refine tR (?_)
    exact r1_ rfl rfl ⟨congrArg (AV.int .i64) (by symm; unfold checkI; rw [h8, notB_f h16, notB_t h24]; rfl), hst.pop⟩
   ·refine eI ?_
    refine tN ?_
    refine eS ?_
    refine eS ?_
    refine eR rfl ?_
    refine eV rfl (xF rfl (k := 1) (by kernel_rfl)) rfl ?_
    refine eV rfl (x1_ rfl (hst.get 0 rfl) (by kernel_rfl) rfl) rfl ?_
    refine eV rfl (x_len' ht rfl rfl rfl (e := 61) (by kernel_rfl) rfl) rfl ?_
    refine eV rfl (xM rfl) rfl ?_
    refine eN ?_
    refine tN ?_
    refine eB ?_
    obtain ⟨LL1, hst, hLL1⟩ := hst.named
    refine eW [2, 3, 4, 5, 6, 28, 29, 30, 31, 32, 33, 34, 35, 36, 37, 38, 39, 40, 41, 42, 43, 44, 45, 46, 47, 48, 49, 50, 51, 52, 53, 54, 55, 56, 57, 58, 59, 60, 61, 62, 63, 64, 65, 66, 67, 68, 69, 70, 71, 72, 73] (fun j t σ => ∃ (i : Nat), j + i = g.threads.length ∧ rowsB g g.threads g.from_ 0 = rowsB g (g.threads.drop i) (g.from_.drop i) i ∧ t.get 28 = some (.int .i64 (.ofNat i)) ∧ St σ K LL1) (g.threads.length) ⟨0, rfl, rfl, rfl, hst⟩ ?_
    clear hst; intro j6 t σ hoff hI; obtain ⟨i, hj6, he6, hv28, hst⟩ := hI
    subst hLL1
    obtain ⟨o2, o3, o4, o5, o6, o28, o29, o30, hoff⟩ := hoff.ex8 rfl rfl
    obtain ⟨o31, o32, o33, o34, o35, o36, o37, o38, hoff⟩ := hoff.ex8 rfl rfl
    obtain ⟨o39, o40, o41, o42, o43, o44, o45, o46, hoff⟩ := hoff.ex8 rfl rfl
    obtain ⟨o47, o48, o49, o50, o51, o52, o53, o54, hoff⟩ := hoff.ex8 rfl rfl
    obtain ⟨o55, o56, o57, o58, o59, o60, o61, o62, hoff⟩ := hoff.ex8 rfl rfl
    obtain ⟨o63, o64, o65, o66, o67, o68, o69, o70, hoff⟩ := hoff.ex8 rfl rfl
    obtain ⟨o71, hoff⟩ := hoff.ex1 rfl
    obtain ⟨o72, hoff⟩ := hoff.ex1 rfl
    obtain ⟨o73, hoff⟩ := hoff.ex1 rfl
    obtain rfl := hoff.nil; clear hoff
    replace hv28 : o28 = some _ := hv28; subst hv28
    refine eS ?_
    refine eR rfl ?_
    refine eV rfl (xB rfl rfl rfl) rfl ?_
    refine eN ?_
    refine tN ?_
    refine eS ?_
    refine e2_ rfl (fun h29 => ?_) (fun h29 => ?_)
    ·refine eI ?_
     refine tN ?_
     refine eS ?_
     refine eB ?_
     refine eS ?_
     refine eR rfl ?_
     refine eV rfl (xM rfl) rfl ?_
     obtain ⟨x31, hx31, hi31⟩ := at_lt h29
     refine oI (e := 61) (m := 1) ht hx31 rfl rfl (by kernel_rfl) (by kernel_rfl) rfl rfl (fun _ => rfl) (fun p31 vs31 hp31 hl31 hr31 => ?_)
     have hr31' := hr31; obtain ⟨v31, rfl, hk31⟩ := hr31'
     refine eV rfl (xp hst hp31 rfl (by kernel_rfl) rfl) rfl ?_
     refine eV rfl (xA rfl) rfl ?_
     refine eV rfl (xA rfl) rfl ?_
     refine eN ?_
     refine tN ?_
     refine eS ?_
     refine eS ?_
     refine eR rfl ?_
     refine eV rfl (xF rfl (k := 2) (by kernel_rfl)) rfl ?_
     refine eV rfl (x1_ rfl (hst.get 0 rfl) (by kernel_rfl) rfl) rfl ?_
     refine eV rfl (xM rfl) rfl ?_
     obtain ⟨x36, hx36⟩ := at_of (show i < g.from_.length from by rw [len_of (notB_f h16)]; exact hi31)
     refine oI (e := 62) (m := 1) hf hx36 rfl rfl (by kernel_rfl) (by kernel_rfl) rfl rfl (fun _ => rfl) (fun p36 vs36 hp36 hl36 hr36 => ?_)
     have hr36' := hr36; obtain ⟨v36, rfl, hk36⟩ := hr36'
     refine eV rfl (xp hst hp36 rfl (by kernel_rfl) rfl) rfl ?_
     refine eV rfl (x_len' hk36 rfl rfl rfl (e := 47) (by kernel_rfl) rfl) rfl ?_
     refine eV rfl (xM rfl) rfl ?_
     refine eV rfl (x_len' hk31 rfl rfl rfl (e := 45) (by kernel_rfl) rfl) rfl ?_
     refine eV rfl (xB rfl rfl rfl) rfl ?_
     refine eN ?_
     refine tN ?_
     refine e2_ rfl (fun h41 => ?_) (fun h41 => ?_)
     ·refine eS ?_
      refine eR rfl ?_
      refine eV rfl (xA rfl) rfl ?_
      refine eN ?_
      refine tN ?_
      refine eT ?_
      refine tR (bR (tR (lR (bR (tR (?_))))))
      exact r1_ rfl rfl ⟨congrArg (AV.int .i64) (by symm; unfold checkI; rw [h8, notB_f h16, notB_f h24, show rowsB g g.threads g.from_ 0 = false from by rw [he6, drop_at hx31, drop_at hx36]; show (bif eqI _ _ then _ else false) = false; rw [notB_t h41]; rfl]; rfl), hst.pop⟩
     ·refine eI ?_
      refine tN ?_
      refine eS ?_
      refine eR rfl ?_
      refine eV rfl (xM rfl) rfl ?_
      refine eV rfl (x_len' hk31 rfl rfl rfl (e := 45) (by kernel_rfl) rfl) rfl ?_
      refine eV rfl (xM rfl) rfl ?_
      refine eN ?_
      refine tN ?_
      refine eB ?_
      obtain ⟨LL2, hst, hLL2⟩ := hst.named
      refine eW [2, 5, 6, 44, 45, 46, 47, 48, 49, 50, 51, 52, 53, 54, 55, 56, 57, 58, 59, 60, 61, 62, 63, 64, 65, 66, 67, 68, 69, 70, 71, 72] (fun j t σ => ∃ (i2 : Nat), j + i2 = x31.length ∧ rowB g i x31 x36 0 = rowB g i (x31.drop i2) (x36.drop i2) i2 ∧ t.get 44 = some (.int .i64 (.ofNat i2)) ∧ St σ K LL2) (x31.length) ⟨0, rfl, rfl, rfl, hst⟩ ?_
      clear hst; intro j11 t σ hoff hI; obtain ⟨i2, hj11, he11, hv44, hst⟩ := hI
      subst hLL2
      obtain ⟨o2, o5, o6, o44, o45, o46, o47, o48, hoff⟩ := hoff.ex8 rfl rfl
      obtain ⟨o49, o50, o51, o52, o53, o54, o55, o56, hoff⟩ := hoff.ex8 rfl rfl
      obtain ⟨o57, o58, o59, o60, o61, o62, o63, o64, hoff⟩ := hoff.ex8 rfl rfl
      obtain ⟨o65, o66, o67, o68, o69, o70, o71, o72, hoff⟩ := hoff.ex8 rfl rfl
      obtain rfl := hoff.nil; clear hoff
      replace hv44 : o44 = some _ := hv44; subst hv44
      refine eS ?_
      refine eR rfl ?_
      refine eV rfl (xB rfl rfl rfl) rfl ?_
      refine eN ?_
      refine tN ?_
      refine eS ?_
      refine e2_ rfl (fun h45 => ?_) (fun h45 => ?_)
      ·refine eI ?_
       refine tN ?_
       refine eS ?_
       refine eB ?_
       refine eS ?_
       refine eR rfl ?_
       refine eV rfl (xM rfl) rfl ?_
       obtain ⟨x47, hx47, hi47⟩ := at_lt h45
       refine oI (e := 45) (m := 5) hk31 hx47 rfl rfl (by kernel_rfl) (by kernel_rfl) rfl rfl (fun _ => rfl) (fun p47 vs47 hp47 hl47 hr47 => ?_)
       obtain rfl := hr47
       refine eV rfl (xw hst hp47 rfl (by kernel_rfl) rfl) rfl ?_
       refine oP hst rfl (xe (cs := [.int .i64 0, .int .i64 0, .int .i64 0, .int .i64 0, .int .i64 0]) (by kernel_rfl) (by kernel_rfl)) (fun _ => rfl) (fun σ b2 hst => ?_)
       refine eV rfl (xA rfl) rfl ?_
       refine o_set0 hst rfl (xS rfl rfl rfl (hst.get 0 rfl) (m := 5) (by kernel_rfl) rfl (Nat.le_of_ble_eq_true rfl) (lC rfl (lC rfl (lC rfl (lC rfl (lC rfl l0_))))) (cells' := [_, _, _, _, _]) rfl) rfl (fun σ hst => ?_)
       refine eN ?_
       refine tN ?_
       refine eS ?_
       refine eP (l := [(0, []), (1, []), (2, []), (3, []), (4, []), (5, []), (6, []), (7, []), (8, []), (9, []), (10, []), (11, []), (12, []), (13, []), (14, []), (15, []), (16, []), (17, []), (18, []), (19, []), (20, []), (21, []), (22, [])]) (by kernel_rfl) (by kernel_rfl) ?_
       refine pV rfl rfl (xN rfl (hst.get 0 rfl) (n := 5) (vs := [_, _, _, _, _]) (by kernel_rfl) (Nat.le_of_ble_eq_true rfl) rfl) rfl ?_
       refine pV rfl rfl (xF rfl (k := 0) (by kernel_rfl)) rfl ?_
       refine pV rfl rfl (x1_ rfl (hst.get 1 rfl) (by kernel_rfl) rfl) rfl ?_
       refine pV rfl rfl (x_len' hi rfl rfl rfl (e := 2) (by kernel_rfl) rfl) rfl ?_
       refine pv_ rfl rfl (xC rfl rfl rfl (by kernel_rfl)) (fun _ => rfl) (w_rightEvent hG _ _ hst) (fun σ hst => ?_)
       refine ⟨s0, ?_⟩
       refine pV rfl rfl (xn rfl) rfl ?_
       refine ps_ rfl rfl (xM rfl) (fun _ => rfl) (fun h55 => ?_) (fun h55 => ?_)
       ·refine pU rfl rfl rfl ?_
        refine pU rfl rfl rfl ?_
        refine pU rfl rfl rfl ?_
        refine pU rfl rfl rfl ?_
        refine pU rfl rfl rfl ?_
        refine pU rfl rfl rfl ?_
        refine pU rfl rfl rfl ?_
        refine pU rfl rfl rfl ?_
        refine pU rfl rfl rfl ?_
        refine pU rfl rfl rfl ?_
        refine pU rfl rfl rfl ?_
        refine pU rfl rfl rfl ?_
        refine pU rfl rfl rfl ?_
        refine pU rfl rfl rfl ?_
        refine pU rfl rfl rfl ?_
        refine pV rfl rfl (xP rfl rfl) rfl ?_
        refine pN ?_
        refine tN ?_
        refine eA rfl ?_
        refine eS ?_
        refine eR rfl ?_
        refine eV rfl (xA rfl) rfl ?_
        refine eN ?_
        refine tN ?_
        refine eT ?_
        refine bR (tR (lR (bR (bR (tR (lR (bR (tR (?_)))))))))
        exact r1_ rfl rfl ⟨congrArg (AV.int .i64) (by symm; unfold checkI; rw [h8, notB_f h16, notB_f h24, show rowsB g g.threads g.from_ 0 = false from by rw [he6, drop_at hx31, drop_at hx36]; show (bif eqI _ _ then (bif rowB g i x31 x36 0 then _ else false) else false) = false; rw [notB_f h41, show rowB g i x31 x36 0 = false from by rw [he11]; obtain ⟨x67, hx67⟩ := at_of (show i2 < x36.length from by rw [len_of (notB_f h41)]; exact hi47); rw [drop_at hx47, drop_at hx67]; show (bif okE g i i2 x47 x67 then _ else false) = false; rw [show okE g i i2 x47 x67 = false from by unfold okE; rw [not_t h55]; rfl]; rfl]; rfl]; rfl), hst.pop.pop⟩
       ·refine pV rfl rfl (xN rfl (hst.get 1 rfl) (n := 4) (vs := [_, _, _, _]) (by kernel_rfl) (Nat.le_of_ble_eq_true rfl) rfl) rfl ?_
        refine pV rfl rfl (xM rfl) rfl ?_
        refine pV rfl rfl (xB rfl rfl rfl) rfl ?_
        refine pV rfl rfl (xM rfl) rfl ?_
        refine pV rfl rfl (xb_ (places := [(0, 1), (1, 1)]) (zero := [.int .i64 0, .int .i64 0]) (cs := [_, _]) (by kernel_rfl) (by kernel_rfl) (by kernel_rfl) rfl (by kernel_rfl)) rfl ?_
        refine pV rfl rfl (xF rfl (k := 2) (by kernel_rfl)) rfl ?_
        refine pV rfl rfl (x1_ rfl (hst.get 1 rfl) (by kernel_rfl) rfl) rfl ?_
        refine pV rfl rfl (xM rfl) rfl ?_
        refine pi (e := 62) (m := 1) hf hx36 rfl rfl rfl (by kernel_rfl) (by kernel_rfl) rfl rfl (fun _ => rfl) (fun p64 vs64 hp64 hl64 hr64 => ?_)
        have hr64' := hr64; obtain ⟨v64, rfl, hk64⟩ := hr64'
        refine pV rfl rfl (xp hst hp64 rfl (by kernel_rfl) rfl) rfl ?_
        refine pV rfl rfl (xM rfl) rfl ?_
        obtain ⟨x67, hx67⟩ := at_of (show i2 < x36.length from by rw [len_of (notB_f h41)]; exact hi47)
        refine pi (e := 47) (m := 2) hk64 hx67 rfl rfl rfl (by kernel_rfl) (by kernel_rfl) rfl rfl (fun _ => rfl) (fun p67 vs67 hp67 hl67 hr67 => ?_)
        obtain rfl := hr67
        refine pV rfl rfl (xw hst hp67 rfl (by kernel_rfl) rfl) rfl ?_
        refine pv_ rfl rfl (xC rfl rfl rfl (by kernel_rfl)) (fun _ => rfl) (w_rightFrom hG h _ _ _ _ hst) (fun σ hst => ?_)
        refine ⟨s0, ?_⟩
        refine pV rfl rfl (xn rfl) rfl ?_
        refine pV rfl rfl (xP rfl rfl) rfl ?_
        refine pN ?_
        refine tN ?_
        refine e2_ rfl (fun h71 => ?_) (fun h71 => ?_)
        ·refine eS ?_
         refine eR rfl ?_
         refine eV rfl (xA rfl) rfl ?_
         refine eN ?_
         refine tN ?_
         refine eT ?_
         refine bR (tR (lR (bR (bR (tR (lR (bR (tR (?_)))))))))
         exact r1_ rfl rfl ⟨congrArg (AV.int .i64) (by symm; unfold checkI; rw [h8, notB_f h16, notB_f h24, show rowsB g g.threads g.from_ 0 = false from by rw [he6, drop_at hx31, drop_at hx36]; show (bif eqI _ _ then (bif rowB g i x31 x36 0 then _ else false) else false) = false; rw [notB_f h41, show rowB g i x31 x36 0 = false from by rw [he11]; rw [drop_at hx47, drop_at hx67]; show (bif okE g i i2 x47 x67 then _ else false) = false; rw [show okE g i i2 x47 x67 = false from by unfold okE; rw [not_f h55, ← wr_succ (i := i) (by have := ht.len_le; omega)]; exact not_t h71]; rfl]; rfl]; rfl), hst.pop.pop⟩
        ·refine eI ?_
         refine bN ?_
         refine tN ?_
         refine eR rfl ?_
         refine eV rfl (xB rfl rfl rfl) rfl ?_
         refine eV rfl (xM rfl) rfl ?_
         refine eN ?_
         have hst := hst.pop
         refine lN ⟨j11 - 1, by omega, (by (iterate 63 refine OffW.put rfl ?_); exact OffW.refl _ _), i2 + 1, by omega, by rw [he11, drop_at hx47, drop_at hx67]; show (bif okE g i i2 x47 x67 then _ else false) = _; rw [show okE g i i2 x47 x67 = true from by unfold okE; rw [not_f h55, ← wr_succ (i := i) (by have := ht.len_le; omega)]; exact not_f h71]; rfl, congrArg (fun z => some (AV.int .i64 z)) (wr_succ (by have := hk31.len_le; omega)), hst⟩
      ·refine eX ?_
       refine tX ?_
       refine lX ?_
       refine bX ?_
       refine bN ?_
       refine tN ?_
       refine eR rfl ?_
       refine eV rfl (xB rfl rfl rfl) rfl ?_
       refine eV rfl (xM rfl) rfl ?_
       refine eN ?_
       refine lN ⟨j6 - 1, by omega, (by (iterate 104 refine OffW.put rfl ?_); exact OffW.refl _ _), i + 1, by omega, by rw [he6, drop_at hx31, drop_at hx36]; show (bif eqI _ _ then (bif rowB g i x31 x36 0 then _ else false) else false) = _; rw [notB_f h41, show rowB g i x31 x36 0 = true from by rw [he11, drop_end (lt_no h45)]; rfl]; rfl, congrArg (fun z => some (AV.int .i64 z)) (wr_succ (by have := ht.len_le; omega)), hst⟩
    ·refine eX ?_
     refine tX ?_
     refine lX ?_
     refine bX ?_
     refine tN ?_
     refine eS ?_
     refine eS ?_
     refine eR rfl ?_
     refine eV rfl (xN rfl (hst.get 0 rfl) (n := 4) (vs := [_, _, _, _]) (by kernel_rfl) (Nat.le_of_ble_eq_true rfl) rfl) rfl ?_
     refine oV rfl (xC rfl rfl rfl (by kernel_rfl)) (fun _ => rfl) (w_rightOrder hG h  hst) (fun σ hst => ?_)
     refine eV rfl (xn rfl) rfl ?_
     refine eN ?_
     refine tN ?_
     refine e2_ rfl (fun h76 => ?_) (fun h76 => ?_)
     ·refine eS ?_
      refine eR rfl ?_
      refine eV rfl (xA rfl) rfl ?_
      refine eN ?_
      refine tN ?_
      refine eT ?_
      refine tR (?_)
      exact r1_ rfl rfl ⟨congrArg (AV.int .i64) (by symm; unfold checkI; rw [h8, notB_f h16, notB_f h24, show rowsB g g.threads g.from_ 0 = true from by rw [he6, drop_end (lt_no h29)]; rfl, not_t h76]; rfl), hst.pop⟩
     ·refine eI ?_
      refine tN ?_
      refine eS ?_
      refine eR rfl ?_
      refine eV rfl (xA rfl) rfl ?_
      refine eN ?_
      refine tN ?_
      refine eT ?_
      exact r1_ rfl rfl ⟨congrArg (AV.int .i64) (by symm; unfold checkI; rw [h8, notB_f h16, notB_f h24, show rowsB g g.threads g.from_ 0 = true from by rw [he6, drop_end (lt_no h29)]; rfl, not_f h76]; rfl), hst.pop⟩
end Go.Ev

